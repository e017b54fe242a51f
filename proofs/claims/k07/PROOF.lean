import PyProof.Rows.All
import Wide.All
import OpenK.AllK
import Wide.FinOn
import HandS.ForMost
import HandS.Walk
import HandS.WordsExc
import HandS.Sort
import HandS.TupAny
import HandS.TupMul
import HandS.ExcCtx
import HandS.Lambda
import HandS.HotCalls
import HandS.IsInst
import HandS.Style
import PyProof.Draws
import PyProof.EnumMake
import HandS.Zip
import HandS.StrMore
import HandS.EndTab
import KE.KNestM
import HandS.Conv
import HandS.DictTup
import KE.KDictPairs
import HandS.Defaults
import HandS.MakeKwOnly
import HandS.SortInts
import HandS.TryOnly
import HandS.Hot
import HandS.ExcIs
import HandS.SetFor
import KE.SortData
import KE.KDictItemsList
import HandS.TupSets
import PySem.Challenge.RW_anchorholds_k07_lines_together
set_option Elab.async false
set_option linter.all false
set_option maxRecDepth 100000
set_option maxHeartbeats 4000000
/-! Data-level meaning of Python pieces: plain Lean, no model in sight. -/
namespace DI

inductive D where
  | non | bl (b : Bool) | int (i : Int) | str (s : List Char) | tup (xs : List D) | lst (xs : List D)
  /-- a dict, an instance, that are changed no more -/
  | dct (ks vs : List D) | ins (c : String) (ns : List String) (vs : List D)
  deriving Inhabited
/-- a value: data, or a changeable object by its number -/
inductive PV where
  | d (x : D) | obj (i : Nat) | raw (a : Nat)
/-- a changeable object: a list; a list that is changed no more; a code object's table; a list of lists; a tuple whose object is known; what is held as data by now; a dict with numbers as keys -/
inductive MO where
  | l1 (xs : List D) | fz (xs : List D) | tab (P : Nat) (q : String) | l2 (xs : List (List D)) | tp (xs : List D) | dead | dk (kvs : List (Int × Int))
abbrev Mem := List MO
structure Exc where
  cls : String
  pay : Option (String × D)
inductive Res (α : Type) where
  | ok (a : α) (m : Mem) | ex (e : Exc) (m : Mem) | no
abbrev Env := List (Option PV)
abbrev SE := Env → Mem → Res PV
abbrev Fn := List PV → Mem → Res PV

def Res.bind {α β : Type} : Res α → (α → Mem → Res β) → Res β
  | .ok a m, k => k a m
  | .ex e m, _ => .ex e m
  | .no, _ => .no
@[simp] theorem Res.bind_ok {α β : Type} (a : α) (m : Mem) (k : α → Mem → Res β) : (Res.ok a m).bind k = k a m := rfl
@[simp] theorem Res.bind_ex {α β : Type} (e : Exc) (m : Mem) (k : α → Mem → Res β) : (Res.ex e m).bind k = .ex e m := rfl
@[simp] theorem Res.bind_no {α β : Type} (k : α → Mem → Res β) : (Res.no : Res α).bind k = .no := rfl

/-- what is read of a value -/
def vw (m : Mem) : PV → Option D
  | .d x => some x
  | .obj i => match m[i]? with
    | some (.l1 xs) => some (.lst xs)
    | some (.fz xs) => some (.lst xs)
    | _ => none
  | .raw _ => none
@[simp] theorem vw_d (m : Mem) (x : D) : vw m (.d x) = some x := rfl
theorem vw_l1 {m : Mem} {i : Nat} {xs : List D} (h : m[i]? = some (.l1 xs)) : vw m (.obj i) = some (.lst xs) := by
  simp [vw, h]

def ofO (o : Option D) (m : Mem) : Res PV := match o with
  | some d => .ok (.d d) m
  | none => .no
@[simp] theorem ofO_some (d : D) (m : Mem) : ofO (some d) m = .ok (.d d) m := rfl
@[simp] theorem ofO_none (m : Mem) : ofO none m = .no := rfl

/-! ### expressions -/
def eV (i : Nat) : SE := fun ρ m => match ρ[i]? with
  | some (some v) => .ok v m
  | _ => .no
def eC (d : D) : SE := fun _ m => .ok (.d d) m
def e1 (f : D → Option D) (a : SE) : SE := fun ρ m => (a ρ m).bind fun x m => ofO ((vw m x).bind f) m
def e2 (f : D → D → Option D) (a b : SE) : SE := fun ρ m => (a ρ m).bind fun x m => (b ρ m).bind fun y m => ofO ((vw m x).bind fun dx => (vw m y).bind fun dy => f dx dy) m
def e3 (f : D → D → D → Option D) (a b c : SE) : SE := fun ρ m => (a ρ m).bind fun x m => (b ρ m).bind fun y m => (c ρ m).bind fun z m =>
  ofO ((vw m x).bind fun dx => (vw m y).bind fun dy => (vw m z).bind fun dz => f dx dy dz) m
/-- a text's method -/
def e2s (f : D → D → Option D) (a b : SE) : SE := fun ρ m => (a ρ m).bind fun x m => match x with
  | .d (.str s) => (b ρ m).bind fun y m => ofO ((vw m y).bind fun dy => f (.str s) dy) m
  | _ => .no
def e1s (f : D → Option D) (a : SE) : SE := fun ρ m => (a ρ m).bind fun x m => match x with
  | .d (.str s) => ofO (f (.str s)) m
  | _ => .no
/-- a test's answer -/
def tst {α : Type} (k : Bool → Mem → Res α) (v : PV) (m : Mem) : Res α := match v with
  | .d (.bl b) => k b m
  | _ => .no
@[simp] theorem tst_bl {α : Type} (k : Bool → Mem → Res α) (b : Bool) (m : Mem) : tst k (.d (.bl b)) m = k b m := rfl
def eAnd (a b : SE) : SE := fun ρ m => (a ρ m).bind (tst fun c m => if c = true then b ρ m else .ok (.d (.bl false)) m)
def eOr (a b : SE) : SE := fun ρ m => (a ρ m).bind (tst fun c m => if c = true then .ok (.d (.bl true)) m else b ρ m)
def eNot (a : SE) : SE := fun ρ m => (a ρ m).bind (tst fun c m => .ok (.d (.bl (!c))) m)
def eIf (c a b : SE) : SE := fun ρ m => (c ρ m).bind (tst fun c m => if c = true then a ρ m else b ρ m)
/-- a chain a f b g c -/
def eCh (f g : D → D → Option D) (a b c : SE) : SE := fun ρ m => (a ρ m).bind fun x m => (b ρ m).bind fun y m =>
  (ofO ((vw m x).bind fun dx => (vw m y).bind fun dy => f dx dy) m).bind (tst fun t m => if t = true then (c ρ m).bind fun z m => ofO ((vw m y).bind fun dy => (vw m z).bind fun dz => g dy dz) m
    else .ok (.d (.bl false)) m)
/-- several, from the left -/
def eArgs : List SE → Env → Mem → Res (List PV)
  | [], _, m => .ok [] m
  | a :: as, ρ, m => (a ρ m).bind fun x m => (eArgs as ρ m).bind fun xs m => .ok (x :: xs) m
/-- .. each of them data -/
def datas (m : Mem) : List PV → Option (List D)
  | [] => some []
  | .d x :: r => (datas m r).map (x :: ·)
  | _ :: _ => none
@[simp] theorem datas_nil (m : Mem) : datas m [] = some [] := rfl
@[simp] theorem datas_d (m : Mem) (x : D) (r : List PV) : datas m (.d x :: r) = (datas m r).map (x :: ·) := rfl
def lineL : Nat := 16777216
def eTup (es : List SE) : SE := fun ρ m => (eArgs es ρ m).bind fun xs m => match datas m xs with
  | some ds => .ok (.d (.tup ds)) m
  | none => .no
/-- a new list's items -/
abbrev NE := Env → Mem → Res (List D)
def nLst (es : List SE) : NE := fun ρ m => (eArgs es ρ m).bind fun xs m => match datas m xs with
  | some ds => .ok ds m
  | none => .no
/-- a new list as data; as an object -/
def eFz (a : NE) : SE := fun ρ m => (a ρ m).bind fun xs m => .ok (.d (.lst xs)) m
def eNw (a : NE) : SE := fun ρ m => (a ρ m).bind fun xs m => .ok (.obj m.length) (m ++ [.l1 xs])
def eCall (F : Fn) (es : List SE) : SE := fun ρ m => (eArgs es ρ m).bind fun xs m => F xs m
/-- a slice -/
abbrev OE := Env → Mem → Res (Option Int)
def oN : OE := fun _ m => .ok none m
def oS (a : SE) : OE := fun ρ m => (a ρ m).bind fun x m => match x with
  | .d (.int i) => .ok (some i) m
  | _ => .no
def eSl (f : D → Option Int → Option Int → Option D) (a : SE) (lo hi : OE) : SE := fun ρ m => (a ρ m).bind fun x m => (lo ρ m).bind fun l m => (hi ρ m).bind fun h m =>
  ofO ((vw m x).bind fun dx => f dx l h) m

/-! ### targets -/
abbrev Tg := PV → Env → Option Env
def tN (i : Nat) : Tg := fun v ρ => some (ρ.set i (some v))
def setAll : List Nat → List D → Env → Option Env
  | [], [], ρ => some ρ
  | i :: is, x :: xs, ρ => setAll is xs (ρ.set i (some (.d x)))
  | _, _, _ => none
def tT (is : List Nat) : Tg := fun v ρ => match v with
  | .d (.tup xs) => setAll is xs ρ
  | _ => none

/-! ### what is walked -/
abbrev IE := Env → Mem → Res (List D)
/-- a list, a tuple, a text -/
def itD : D → Option (List D)
  | .lst xs => some xs
  | .tup xs => some xs
  | .str s => some (s.map fun c => .str [c])
  | _ => none
def iV (a : SE) : IE := fun ρ m => (a ρ m).bind fun x m => match x with
  | .d x => (match itD x with
    | some xs => .ok xs m
    | none => .no)
  | _ => .no
def rng (lo : Int) (n : Nat) : List D := (List.range n).map fun (i : Nat) => .int (lo + (i : Int))
def fits62 (i : Int) : Bool := decide (i.natAbs < 2 ^ 62)
def iR1 (a : SE) : IE := fun ρ m => (a ρ m).bind fun x m => match x with
  | .d (.int j) => if fits62 j then .ok (rng 0 j.toNat) m else .no
  | _ => .no
def iR2 (a b : SE) : IE := fun ρ m => (a ρ m).bind fun x m => (b ρ m).bind fun y m => match x, y with
  | .d (.int i), .d (.int j) => if fits62 i && fits62 j then .ok (rng i (j - i).toNat) m else .no
  | _, _ => .no
def iEnum (a : SE) : IE := fun ρ m => (iV a ρ m).bind fun xs m => .ok (xs.mapIdx fun i x => .tup [.int i, x]) m
def iZip (a b : SE) : IE := fun ρ m => (a ρ m).bind fun x m => (b ρ m).bind fun y m => match x, y with
  | .d x, .d y => (match itD x, itD y with
    | some xs, some ys => .ok ((xs.zip ys).map fun p => .tup [p.1, p.2]) m
    | _, _ => .no)
  | _, _ => .no

/-! ### comprehensions -/
def wipeE (ρ : Env) : List Nat → Env
  | [] => ρ
  | v :: vs => (wipeE ρ vs).set v none
/-- the turns; ts: the tests, all of them -/
def lcL (tg : Tg) (ts : Env → Mem → Res PV) (e : SE) : List D → Env → Mem → List D → Res (List D)
  | [], _, m, acc => .ok acc m
  | x :: xs, ρ, m, acc => match tg (.d x) ρ with
    | none => .no
    | some ρ1 => match ts ρ1 m with
      | .ok (.d (.bl true)) m1 => (match e ρ1 m1 with
        | .ok (.d y) m2 => lcL tg ts e xs ρ m2 (acc ++ [y])
        | _ => .no)
      | .ok (.d (.bl false)) m1 => lcL tg ts e xs ρ m1 acc
      | _ => .no
def nLc (own : List Nat) (it : IE) (tg : Tg) (ts e : SE) : NE := fun ρ m => (it ρ m).bind fun xs m => if xs.length ≤ lineL then lcL tg ts e xs (wipeE ρ own) m [] else .no
def tsY : SE := eC (.bl true)

/-! ### statements -/
inductive Out where
  | nx (ρ : Env) (m : Mem) | rt (v : PV) (m : Mem) | bk (ρ : Env) (m : Mem) | ct (ρ : Env) (m : Mem) | ex (e : Exc) (m : Mem) | no
abbrev SS := Env → Mem → Out
def Res.run {α : Type} : Res α → (α → Mem → Out) → Out
  | .ok a m, k => k a m
  | .ex e m, _ => .ex e m
  | .no, _ => .no
@[simp] theorem Res.run_ok {α : Type} (a : α) (m : Mem) (k : α → Mem → Out) : (Res.ok a m).run k = k a m := rfl
@[simp] theorem Res.run_ex {α : Type} (e : Exc) (m : Mem) (k : α → Mem → Out) : (Res.ex e m).run k = .ex e m := rfl
@[simp] theorem Res.run_no {α : Type} (k : α → Mem → Out) : (Res.no : Res α).run k = .no := rfl
def tstO (k : Bool → Mem → Out) (v : PV) (m : Mem) : Out := match v with
  | .d (.bl b) => k b m
  | _ => .no
@[simp] theorem tstO_bl (k : Bool → Mem → Out) (b : Bool) (m : Mem) : tstO k (.d (.bl b)) m = k b m := rfl
def sNil : SS := .nx
def sSeq (a b : SS) : SS := fun ρ m => match a ρ m with
  | .nx ρ1 m1 => b ρ1 m1
  | o => o
def sPass : SS := .nx
def sBrk : SS := .bk
def sCnt : SS := .ct
def sExpr (e : SE) : SS := fun ρ m => (e ρ m).run fun _ m => .nx ρ m
def sRet (e : SE) : SS := fun ρ m => (e ρ m).run fun v m => .rt v m
def sRetN : SS := fun _ m => .rt (.d .non) m
def sIf (c : SE) (a b : SS) : SS := fun ρ m => (c ρ m).run (tstO fun t m => if t = true then a ρ m else b ρ m)
def sAsg (tg : Tg) (e : SE) : SS := fun ρ m => (e ρ m).run fun v m => match tg v ρ with
  | some ρ1 => .nx ρ1 m
  | none => .no
/-- a, b, .. = x, y, .. -/
def setPV : List Nat → List PV → Env → Option Env
  | [], [], ρ => some ρ
  | i :: is, x :: xs, ρ => setPV is xs (ρ.set i (some x))
  | _, _, _ => none
def sPar (is : List Nat) (es : List SE) : SS := fun ρ m => (eArgs es ρ m).run fun vs m => match setPV is vs ρ with
  | some ρ1 => .nx ρ1 m
  | none => .no
def sAug (i : Nat) (f : D → D → Option D) (e : SE) : SS := fun ρ m => match ρ[i]? with
  | some (some (.d x)) => (e ρ m).run fun v m => match (vw m v).bind (f x) with
    | some d => .nx (ρ.set i (some (.d d))) m
    | none => .no
  | _ => .no
def forL (tg : Tg) (b : SS) : List D → SS
  | [], ρ, m => .nx ρ m
  | x :: xs, ρ, m => match tg (.d x) ρ with
    | none => .no
    | some ρ1 => match b ρ1 m with
      | .nx ρ2 m2 => forL tg b xs ρ2 m2
      | .ct ρ2 m2 => forL tg b xs ρ2 m2
      | .bk ρ2 m2 => .nx ρ2 m2
      | o => o
def sFor (tg : Tg) (it : IE) (b : SS) : SS := fun ρ m => (it ρ m).run fun xs m => forL tg b xs ρ m
def whL (c : SE) (b : SS) : Nat → SS
  | 0, _, _ => .no
  | n + 1, ρ, m => (c ρ m).run (tstO fun t m => if t = true then (match b ρ m with
      | .nx ρ2 m2 => whL c b n ρ2 m2
      | .ct ρ2 m2 => whL c b n ρ2 m2
      | .bk ρ2 m2 => .nx ρ2 m2
      | o => o) else .nx ρ m)
def sRaise (e : Exc) : SS := fun _ m => .ex e m
/-- x.append(e), x an object -/
def sApp (a e : SE) : SS := fun ρ m => (a ρ m).run fun x m => match x with
  | .obj i => (match m[i]? with
    | some (.l1 _) => (e ρ m).run fun y m => (match y, m[i]? with
      | .d y, some (.l1 xs) => if xs.length < lineL then .nx ρ (m.set i (.l1 (xs ++ [y]))) else .no
      | _, _ => .no)
    | _ => .no)
  | _ => .no
/-- x.extend(a new list) -/
def sExt (a : SE) (e : NE) : SS := fun ρ m => (a ρ m).run fun x m => match x with
  | .obj i => (match m[i]? with
    | some (.l1 _) => (e ρ m).run fun ys m => (match m[i]? with
      | some (.l1 xs) => if xs.length + ys.length ≤ lineL then .nx ρ (m.set i (.l1 (xs ++ ys))) else .no
      | _ => .no)
    | _ => .no)
  | _ => .no
/-- x[k] = e -/
def sSetI (a k e : SE) : SS := fun ρ m => (e ρ m).run fun y m => (a ρ m).run fun x m => (k ρ m).run fun k m => match x, k, y with
  | .obj i, .d (.int k), .d y => (match m[i]? with
    | some (.l1 xs) => if 0 ≤ k ∧ k < xs.length then .nx ρ (m.set i (.l1 (xs.set k.toNat y))) else .no
    | _ => .no)
  | _, _, _ => .no
/-- from here on the list in slot i is changed no more -/
def thawV (i : Nat) (xs : List D) : Option PV → Option PV
  | some (.obj j) => if j = i then some (.d (.lst xs)) else some (.obj j)
  | v => v
def sFz (s : Nat) (k : SS) : SS := fun ρ m => match ρ[s]? with
  | some (some (.obj i)) => (match m[i]? with
    | some (.l1 xs) => k (ρ.set s (some (.d (.lst xs)))) (m.set i (.fz xs))
    | _ => .no)
  | _ => .no

/-! ### a function -/
def fnR (n : Nat) : Out → Res PV
  | .rt (.d x) m => .ok (.d x) (m.take n)
  | .rt (.obj i) m => if i < n then .ok (.obj i) (m.take n) else .ok (.obj i) m
  | .rt (.raw a) m => .ok (.raw a) (m.take n)
  | .nx _ m => .ok (.d .non) (m.take n)
  | .ex e m => .ex e (m.take n)
  | _ => .no
def mkFn (nslots : Nat) (b : SS) : Fn := fun vs m => fnR m.length (b (vs.map some ++ List.replicate (nslots - vs.length) none) m)

/-! ### operations on data -/
def D.isStr : D → Bool | .str _ => true | _ => false
def D.isInt : D → Bool | .int _ => true | .bl _ => true | _ => false
def D.isBl : D → Bool | .bl _ => true | _ => false
def D.isTup : D → Bool | .tup _ => true | _ => false
def D.isLst : D → Bool | .lst _ => true | _ => false
def dAdd : D → D → Option D
  | .int i, .int j => some (.int (i + j))
  | .str s, .str t => if s.length + t.length ≤ lineL then some (.str (s ++ t)) else none
  | .lst s, .lst t => if s.length + t.length ≤ lineL then some (.lst (s ++ t)) else none
  | .tup s, .tup t => if s.length + t.length ≤ lineL then some (.tup (s ++ t)) else none
  | _, _ => none
def dSub : D → D → Option D
  | .int i, .int j => some (.int (i - j))
  | _, _ => none
def small64 (i : Int) : Bool := decide (i.natAbs < 2 ^ 64)
def dMul : D → D → Option D
  | .int i, .int j => if small64 i || small64 j then some (.int (i * j)) else none
  | _, _ => none
def dMod : D → D → Option D
  | .int i, .int j => if 0 < j then some (.int (i % j)) else none
  | _, _ => none
def dDiv : D → D → Option D
  | .int i, .int j => if 0 < j ∧ j < 1073741824 then some (.int (i / j)) else none
  | _, _ => none
def dPow : D → D → Option D
  | .int i, .int j => if 0 ≤ j ∧ j ≤ 1000000 ∧ i.natAbs < 2 ^ 64 then some (.int (i ^ j.toNat)) else none
  | _, _ => none
def dNeg : D → Option D
  | .int i => some (.int (-i))
  | _ => none
def dLt : D → D → Option D
  | .int i, .int j => some (.bl (decide (i < j)))
  | _, _ => none
def dLe : D → D → Option D
  | .int i, .int j => some (.bl (decide (i ≤ j)))
  | _, _ => none
def dGt : D → D → Option D
  | .int i, .int j => some (.bl (decide (j < i)))
  | _, _ => none
def dGe : D → D → Option D
  | .int i, .int j => some (.bl (decide (j ≤ i)))
  | _, _ => none
mutual
def D.eqv : D → D → Bool
  | .non, .non => true
  | .bl a, .bl b => a == b
  | .bl a, .int j => (if a then 1 else 0) == j
  | .int i, .bl b => i == (if b then 1 else 0)
  | .int i, .int j => i == j
  | .str x, .str y => x == y
  | .lst xs, .lst ys => D.eqvAll xs ys
  | .tup xs, .tup ys => D.eqvAll xs ys
  | _, _ => false
def D.eqvAll : List D → List D → Bool
  | [], [] => true
  | x :: xs, y :: ys => D.eqv x y && D.eqvAll xs ys
  | _, _ => false
end
mutual
def D.dep : D → Nat
  | .lst xs => D.depAll xs + 1
  | .tup xs => D.depAll xs + 1
  | .dct _ _ => 1000
  | .ins _ _ _ => 1000
  | _ => 0
def D.depAll : List D → Nat
  | [] => 0
  | x :: xs => max (D.dep x) (D.depAll xs)
end
def dEq (a b : D) : Option D := if a.dep ≤ 64 ∧ b.dep ≤ 64 then some (.bl (D.eqv a b)) else none
def dNe (a b : D) : Option D := if a.dep ≤ 64 ∧ b.dep ≤ 64 then some (.bl (!D.eqv a b)) else none
def dIsN (a : D) : Option D := match a with
  | .non => some (.bl true)
  | _ => some (.bl false)
def dNotN (a : D) : Option D := match a with
  | .non => some (.bl false)
  | _ => some (.bl true)
/-- is True, is False -/
def dIsB (c : Bool) (a : D) : Option D := match a with
  | .bl b => some (.bl (b == c))
  | _ => none
def dNotB (c : Bool) (a : D) : Option D := match a with
  | .bl b => some (.bl (!(b == c)))
  | _ => none
def flatD : D → Bool
  | .non => true | .bl _ => true | .int _ => true | .str _ => true | _ => false
/-- x in a list, a tuple of flat things; one sign in a text -/
def dIn : D → D → Option D
  | x, .lst ys => if flatD x && ys.all flatD then some (.bl (ys.any fun y => D.eqv y x)) else none
  | x, .tup ys => if flatD x && ys.all flatD then some (.bl (ys.any fun y => D.eqv y x)) else none
  | .str [c], .str s => some (.bl (s.contains c))
  | _, _ => none
def dNotIn (x y : D) : Option D := match dIn x y with
  | some (.bl b) => some (.bl (!b))
  | _ => none
def dLen : D → Option D
  | .str s => if s.length ≤ lineL then some (.int s.length) else none
  | .lst xs => some (.int xs.length)
  | .tup xs => some (.int xs.length)
  | _ => none
def atD {α : Type} (xs : List α) (i : Int) : Option α := if 0 ≤ i then xs[i.toNat]? else if -(xs.length : Int) ≤ i then xs[(i + xs.length).toNat]? else none
def dIx : D → D → Option D
  | .lst xs, .int i => atD xs i
  | .tup xs, .int i => atD xs i
  | .str s, .int i => if s.length ≤ lineL then (atD s i).map fun c => .str [c] else none
  | _, _ => none
def sixD (n d : Nat) : Option Int → Nat
  | none => d
  | some v => if v < 0 then (v + (n : Int)).toNat else min v.toNat n
def cutD {α : Type} (xs : List α) (lo hi : Option Int) : List α := (xs.drop (sixD xs.length 0 lo)).take (sixD xs.length xs.length hi - sixD xs.length 0 lo)
def dSl : D → Option Int → Option Int → Option D
  | .lst xs, lo, hi => some (.lst (cutD xs lo hi))
  | .tup xs, lo, hi => some (.tup (cutD xs lo hi))
  | .str s, lo, hi => if s.length ≤ lineL then some (.str (cutD s lo hi)) else none
  | _, _, _ => none
def bls : List D → Option (List Bool)
  | [] => some []
  | .bl b :: r => (bls r).map (b :: ·)
  | _ :: _ => none
def dAll : D → Option D
  | .lst xs => (bls xs).map fun bs => .bl (bs.all id)
  | _ => none
def dAny : D → Option D
  | .lst xs => (bls xs).map fun bs => .bl (bs.any id)
  | _ => none
def dInt : D → Option D
  | .int i => some (.int i)
  | .bl b => some (.int (if b then 1 else 0))
  | _ => none
def dTupOf : D → Option D
  | .lst xs => some (.tup xs)
  | .tup xs => some (.tup xs)
  | _ => none
def strsD : List D → Option (List (List Char))
  | [] => some []
  | .str s :: r => (strsD r).map (s :: ·)
  | _ :: _ => none
def joinC (sep : List Char) : List (List Char) → List Char
  | [] => []
  | [x] => x
  | x :: y :: r => x ++ sep ++ joinC sep (y :: r)
def dJoin : D → D → Option D
  | .str s, .lst xs => (strsD xs).bind fun ys => if (ys.map List.length).sum + ys.length * s.length ≤ lineL then some (.str (joinC s ys)) else none
  | .str s, .tup xs => (strsD xs).bind fun ys => if (ys.map List.length).sum + ys.length * s.length ≤ lineL then some (.str (joinC s ys)) else none
  | _, _ => none
/-- list(x), x a list or a tuple -/
def nSq (a : SE) : NE := fun ρ m => (a ρ m).bind fun x m => match vw m x with
  | some (.lst xs) => .ok xs m
  | some (.tup xs) => .ok xs m
  | _ => .no
/-- list(x), x a text -/
def nStr (a : SE) : NE := fun ρ m => (a ρ m).bind fun x m => match x with
  | .d (.str s) => if s.length ≤ lineL then .ok (s.map fun c => .str [c]) m else .no
  | _ => .no
end DI
namespace DI
open PySem PySem.Spec PyProof.Rows L2

def txt (s : List Char) : Str := ⟨(s.map Char.toNat).toArray⟩
/-- the written part, the module's names -/
structure Kx where
  K : PySem.W.Frag
  mg : Str → Option Value
abbrev _root_.L2.Cx.kx (X : Cx) : Kx := ⟨X.K, X.mg⟩
/-- a key of a dict -/
def keyOf : D → Option Key
  | .int i => some (.inl i)
  | .str s => some (.inr (txt s))
  | _ => none
/-! ### data in the abstract heap -/
mutual
inductive Rep (K : Kx) (G : Hp) : V → D → Prop
  | non : Rep K G .non .non
  | bl (b : Bool) : Rep K G (.bl b) (.bl b)
  | int (i : Int) : Rep K G (.int i) (.int i)
  | str (s : List Char) : Rep K G (.str (txt s)) (.str s)
  | lst {a : Addr} {xs : List V} {ds : List D} : SqL K.K G a xs → RepAll K G xs ds → Rep K G (.ref a) (.lst ds)
  | tup {a : Addr} {xs : List V} {ds : List D} : SqT K.K G a xs → RepAll K G xs ds → Rep K G (.ref a) (.tup ds)
  | dct {a : Addr} {kvs : List (Key × V)} {vs : List V} {ks ds : List D} : G a = some (.dK kvs) → ks.map keyOf = kvs.map (fun p => some p.1) → kvs.map (·.2) = vs → RepAll K G vs ds → Rep K G (.ref a) (.dct ks ds)
  | ins {a C dx : Addr} {fs : List (Str × V)} {vs : List V} {c : String} {ns : List String} {ds : List D} : K.mg (Str.ofString c) = some (.ref C) → G a = some (.ins C dx fs) → fs.map (·.1) = ns.map Str.ofString → fs.map (·.2) = vs → RepAll K G vs ds → Rep K G (.ref a) (.ins c ns ds)
inductive RepAll (K : Kx) (G : Hp) : List V → List D → Prop
  | nil : RepAll K G [] []
  | cons {v : V} {vs : List V} {d : D} {ds : List D} : Rep K G v d → RepAll K G vs ds → RepAll K G (v :: vs) (d :: ds)
end
def Sub (G G' : Hp) : Prop := ∀ a o, G a = some o → G' a = some o
theorem Sub.refl (G : Hp) : Sub G G := fun _ _ h => h
theorem Sub.trans {G G1 G2 : Hp} (a : Sub G G1) (b : Sub G1 G2) : Sub G G2 := fun c o h => b c o (a c o h)
theorem Sub.sql {K : PySem.W.Frag} {G G' : Hp} {a : Addr} {xs : List V} (s : Sub G G') (h : SqL K G a xs) : SqL K G' a xs := by
  rcases h with (h | ⟨o, h⟩) | h
  · exact .inl (.inl (s _ _ h))
  · exact .inl (.inr ⟨o, s _ _ h⟩)
  · exact .inr h
theorem Sub.sqt {K : PySem.W.Frag} {G G' : Hp} {a : Addr} {xs : List V} (s : Sub G G') (h : SqT K G a xs) : SqT K G' a xs := by
  rcases h with (h | ⟨o, h⟩) | h
  · exact .inl (.inl (s _ _ h))
  · exact .inl (.inr ⟨o, s _ _ h⟩)
  · exact .inr h
mutual
theorem Rep.mono {K : Kx} {G G' : Hp} (s : Sub G G') : ∀ {v : V} {d : D}, Rep K G v d → Rep K G' v d
  | _, _, .non => .non
  | _, _, .bl b => .bl b
  | _, _, .int i => .int i
  | _, _, .str x => .str x
  | _, _, .lst h r => .lst (s.sql h) (RepAll.mono s r)
  | _, _, .tup h r => .tup (s.sqt h) (RepAll.mono s r)
  | _, _, .dct h e1 e2 r => .dct (s _ _ h) e1 e2 (RepAll.mono s r)
  | _, _, .ins h0 h e1 e2 r => .ins h0 (s _ _ h) e1 e2 (RepAll.mono s r)
theorem RepAll.mono {K : Kx} {G G' : Hp} (s : Sub G G') : ∀ {vs : List V} {ds : List D}, RepAll K G vs ds → RepAll K G' vs ds
  | _, _, .nil => .nil
  | _, _, .cons r t => .cons (Rep.mono s r) (RepAll.mono s t)
end
section
variable {K : Kx} {G : Hp}
theorem RepAll.length : ∀ {vs : List V} {ds : List D}, RepAll K G vs ds → vs.length = ds.length
  | _, _, .nil => rfl
  | _, _, .cons _ t => by simp [RepAll.length t]
theorem RepAll.get : ∀ {vs : List V} {ds : List D} {i : Nat} {d : D}, RepAll K G vs ds → ds[i]? = some d → ∃ v, vs[i]? = some v ∧ Rep K G v d
  | _, _, _, _, .nil, e => by simp at e
  | _, _, 0, _, .cons r _, e => by simp at e; subst e; exact ⟨_, by simp, r⟩
  | _, _, i + 1, _, .cons _ t, e => by
    obtain ⟨v, h1, h2⟩ := RepAll.get (i := i) t (by simpa using e)
    exact ⟨v, by simpa using h1, h2⟩
theorem RepAll.getV : ∀ {vs : List V} {ds : List D} {i : Nat} {v : V}, RepAll K G vs ds → vs[i]? = some v → ∃ d, ds[i]? = some d ∧ Rep K G v d
  | _, _, _, _, .nil, e => by simp at e
  | _, _, 0, _, .cons r _, e => by simp at e; subst e; exact ⟨_, by simp, r⟩
  | _, _, i + 1, _, .cons _ t, e => by
    obtain ⟨v, h1, h2⟩ := RepAll.getV (i := i) t (by simpa using e)
    exact ⟨v, by simpa using h1, h2⟩
theorem RepAll.append : ∀ {vs ws : List V} {ds es : List D}, RepAll K G vs ds → RepAll K G ws es → RepAll K G (vs ++ ws) (ds ++ es)
  | _, _, _, _, .nil, s => s
  | _, _, _, _, .cons r t, s => .cons r (RepAll.append t s)
theorem RepAll.take : ∀ {vs : List V} {ds : List D} (n : Nat), RepAll K G vs ds → RepAll K G (vs.take n) (ds.take n)
  | _, _, 0, _ => .nil
  | _, _, _ + 1, .nil => .nil
  | _, _, n + 1, .cons r t => .cons r (RepAll.take n t)
theorem RepAll.drop : ∀ {vs : List V} {ds : List D} (n : Nat), RepAll K G vs ds → RepAll K G (vs.drop n) (ds.drop n)
  | _, _, 0, r => r
  | _, _, _ + 1, .nil => .nil
  | _, _, n + 1, .cons _ t => RepAll.drop n t
theorem RepAll.set {v : V} {d : D} (r : Rep K G v d) : ∀ {vs : List V} {ds : List D} (i : Nat), RepAll K G vs ds → RepAll K G (vs.set i v) (ds.set i d)
  | _, _, _, .nil => .nil
  | _, _, 0, .cons _ t => .cons r t
  | _, _, i + 1, .cons q t => .cons q (RepAll.set r i t)
theorem RepAll.rep {vs : List V} {ds : List D} (h : RepAll K G vs ds) : ∀ k : Nat, RepAll K G (List.replicate k vs).flatten (List.replicate k ds).flatten
  | 0 => .nil
  | k + 1 => by rw [List.replicate_succ, List.replicate_succ, List.flatten_cons, List.flatten_cons]; exact h.append (RepAll.rep h k)
theorem RepAll.ints : ∀ (ns : List Int), RepAll K G (ns.map V.int) (ns.map D.int)
  | [] => .nil
  | n :: ns => .cons (.int n) (RepAll.ints ns)
end

/-! ### the objects' numbers -/
abbrev Io := List (List Addr)
def ObjR (K : Kx) (G H : Hp) (l : List Addr) : MO → Prop
  | .l1 xs => ∃ a vs, l = [a] ∧ G a = none ∧ H a = some (.lst vs) ∧ RepAll K G vs xs
  | .fz xs => ∃ a vs, l = [a] ∧ G a = some (.lst vs) ∧ RepAll K G vs xs
  | .tab P q => ∃ ps, l = [P] ∧ G P = none ∧ H P = some (.tbl ps) ∧ TriplesOk ps.toList ∧ ∀ (pos : Pos) (cv : Value), codeAmong pos ps.toList = some cv → ∃ c, cv = .ref c ∧ G c = some (LamX.CodeO c (Str.ofString q))
  | .tp xs => ∃ a vs o, l = [a] ∧ G a = some (.frz o (.tup vs)) ∧ o.dict = none ∧ RepAll K G vs xs
  | .dead => ∀ b ∈ l, ∃ o, G b = some o
  | .dk xs => ∃ a, l = [a] ∧ G a = none ∧ H a = some (.dK (xs.map fun q => ((.inl q.1 : Key), V.int q.2)))
  | .l2 xs => ∃ a as, l = a :: as ∧ G a = none ∧ H a = some (.lst (as.map V.ref)) ∧ Paired (fun b ds => G b = none ∧ ∃ vs, H b = some (.lst vs) ∧ RepAll K G vs ds) as xs
structure GR (K : Kx) (G : Hp) (ι : Io) (m : Mem) (H : Hp) : Prop where
  sub : Sub G H
  len : ι.length = m.length
  nd : ι.flatten.Nodup
  obj : ∀ (i : Nat) (l : List Addr) (o : MO), ι[i]? = some l → m[i]? = some o → ObjR K G H l o
/-- what a step keeps: the frozen part, the objects' numbers, and whatever else is tracked -/
structure Ext (G : Hp) (ι : Io) (H : Hp) (G' : Hp) (ι' : Io) (H' : Hp) : Prop where
  sub : Sub G G'
  pre : ∃ t, ι' = ι ++ t ∧ ∀ a ∈ t.flatten, H a = none
  kp : ∀ a o, H a = some o → a ∉ ι.flatten → H' a = some o
  dm : ∀ a, H' a = none → H a = none
  gk : ∀ a o, G' a = some o → G a = some o ∨ H a = none ∨ a ∈ ι.flatten
theorem Ext.refl (G : Hp) (ι : Io) (H : Hp) : Ext G ι H G ι H := ⟨Sub.refl G, ⟨[], by simp, by simp⟩, fun _ _ h _ => h, fun _ h => h, fun _ _ h => .inl h⟩
theorem Ext.trans {G G1 G2 H H1 H2 : Hp} {ι ι1 ι2 : Io} (a : Ext G ι H G1 ι1 H1) (b : Ext G1 ι1 H1 G2 ι2 H2) : Ext G ι H G2 ι2 H2 := by
  obtain ⟨t, rfl, ht⟩ := a.pre
  obtain ⟨u, rfl, hu⟩ := b.pre
  refine ⟨a.sub.trans b.sub, ⟨t ++ u, by simp, fun x hx => ?_⟩, fun x o h hn => ?_, fun x h => a.dm x (b.dm x h), fun x o h => ?_⟩
  · rw [List.flatten_append, List.mem_append] at hx
    rcases hx with hx | hx
    · exact ht x hx
    · exact a.dm x (hu x hx)
  · refine b.kp x o (a.kp x o h hn) fun hm => ?_
    rw [List.flatten_append, List.mem_append] at hm
    rcases hm with hm | hm
    · exact hn hm
    · rw [ht x hm] at h; cases h
  · rcases b.gk x o h with h | h | h
    · exact a.gk x o h
    · exact .inr (.inl (a.dm x h))
    · rw [List.flatten_append, List.mem_append] at h
      rcases h with h | h
      · exact .inr (.inr h)
      · exact .inr (.inl (ht x h))
def RepV (K : Kx) (G : Hp) (ι : Io) (v : V) : PV → Prop
  | .d x => Rep K G v x
  | .obj i => ∃ a l, ι[i]? = some (a :: l) ∧ v = .ref a
  | .raw a => v = .ref a
theorem Ext.get {G G' H H' : Hp} {ι ι' : Io} (e : Ext G ι H G' ι' H') {i : Nat} {l : List Addr} (h : ι[i]? = some l) : ι'[i]? = some l := by
  obtain ⟨t, rfl, _⟩ := e.pre
  rw [List.getElem?_append_left (List.getElem?_eq_some_iff.mp h).1]
  exact h
theorem RepV.ext {K : Kx} {G G' H H' : Hp} {ι ι' : Io} (e : Ext G ι H G' ι' H') {v : V} {x : PV} (r : RepV K G ι v x) : RepV K G' ι' v x := by
  cases x with
  | d x => exact Rep.mono e.sub r
  | obj i =>
    obtain ⟨a, l, h, rfl⟩ := r
    exact ⟨a, l, e.get h, rfl⟩
  | raw a => exact r
def EnvR (K : Kx) (G : Hp) (ι : Io) (ρ : Env) (σ : L2.St) : Prop :=
  ρ.length = σ.length ∧ ∀ (i : Nat) (x : PV), ρ[i]? = some (some x) → ∃ v, σ[i]? = some (some v) ∧ RepV K G ι v x
theorem EnvR.ext {K : Kx} {G G' H H' : Hp} {ι ι' : Io} (e : Ext G ι H G' ι' H') {ρ : Env} {σ : L2.St} (r : EnvR K G ι ρ σ) : EnvR K G' ι' ρ σ :=
  ⟨r.1, fun i x h => let ⟨v, h1, h2⟩ := r.2 i x h; ⟨v, h1, h2.ext e⟩⟩
theorem EnvR.set {K : Kx} {G : Hp} {ι : Io} {ρ : Env} {σ : L2.St} (r : EnvR K G ι ρ σ) {v : V} {x : PV} (h : RepV K G ι v x) (i : Nat) : EnvR K G ι (ρ.set i (some x)) (σ.set i (some v)) := by
  refine ⟨by simp [r.1], fun j y e => ?_⟩
  by_cases hj : i = j
  · subst hj
    by_cases hl : i < ρ.length
    · rw [List.getElem?_set_self hl] at e
      cases e
      exact ⟨v, List.getElem?_set_self (by rw [← r.1]; exact hl), h⟩
    · rw [List.getElem?_eq_none (by simp; omega)] at e
      cases e
  · rw [List.getElem?_set_ne hj] at e
    obtain ⟨w, h1, h2⟩ := r.2 j y e
    exact ⟨w, by rw [List.getElem?_set_ne hj]; exact h1, h2⟩
theorem EnvR.wipe {K : Kx} {G : Hp} {ι : Io} {ρ : Env} {σ : L2.St} (r : EnvR K G ι ρ σ) : ∀ vs : List Nat, EnvR K G ι (wipeE ρ vs) (wipe σ vs)
  | [] => r
  | v :: vs => by
    have ih := EnvR.wipe r vs
    unfold wipeE L2.wipe
    refine ⟨by simp [ih.1], fun j y e => ?_⟩
    by_cases hj : v = j
    · subst hj
      by_cases hl : v < (wipeE ρ vs).length
      · rw [List.getElem?_set_self hl] at e; cases e
      · rw [List.getElem?_eq_none (by simp; omega)] at e; cases e
    · rw [List.getElem?_set_ne hj] at e
      obtain ⟨w, h1, h2⟩ := ih.2 j y e
      exact ⟨w, by rw [List.getElem?_set_ne hj]; exact h1, h2⟩

/-! ### exceptions as data -/
def ExR (K : Kx) (G H : Hp) (e : Exc) (c : Value) (dx : Option Addr) : Prop :=
  ∃ C : Addr, K.mg (Str.ofString e.cls) = some (.ref C) ∧ c = .ref C ∧ match e.pay with
    | none => dx = none
    | some (f, x) => ∃ a v, dx = some a ∧ H a = some (.xd [(Str.ofString f, v)]) ∧ Rep K G v x
/-- what a computation's end is worth -/
def PostK (K : Kx) (W : XK) (G : Hp) (ι : Io) (H : Hp) (r : Res PV) (Q : VK) : Prop := match r with
  | .ok d m => ∀ v G' ι' H', Ext G ι H G' ι' H' → GR K G' ι' m H' → RepV K G' ι' v d → Q v H'
  | .ex e m => ∀ c dx G' ι' H', Ext G ι H G' ι' H' → GR K G' ι' m H' → ExR K G' H' e c dx → W c dx H'
  | .no => False
abbrev PostE (X : Cx) : XK → Hp → Io → Hp → Res PV → VK → Prop := PostK X.kx
/-- .. in general: what is wanted of a result that is there -/
def PostG {α β : Type} (X : Cx) (R : Hp → Io → β → α → Prop) (W : XK) (G : Hp) (ι : Io) (H : Hp) (r : Res α) (Q : β → Hp → Prop) : Prop := match r with
  | .ok d m => ∀ v G' ι' H', Ext G ι H G' ι' H' → GR X.kx G' ι' m H' → R G' ι' v d → Q v H'
  | .ex e m => ∀ c dx G' ι' H', Ext G ι H G' ι' H' → GR X.kx G' ι' m H' → ExR X.kx G' H' e c dx → W c dx H'
  | .no => False
theorem PostE.ext {X : Cx} {W : XK} {G G1 H H1 : Hp} {ι ι1 : Io} {r : Res PV} {Q : VK} (e : Ext G ι H G1 ι1 H1) (h : PostE X W G ι H r Q) : PostE X W G1 ι1 H1 r Q := by
  cases r with
  | ok d m => exact fun v G' ι' H' x => h v G' ι' H' (e.trans x)
  | ex d m => exact fun c dx G' ι' H' x => h c dx G' ι' H' (e.trans x)
  | no => exact h
/-- the readings -/
def tE (X : Cx) (W : XK) (f : SE) : TE := fun σ H Q => ∃ G ι ρ m, GR X.kx G ι m H ∧ EnvR X.kx G ι ρ σ ∧ PostE X W G ι H (f ρ m) Q
def tA (X : Cx) (W : XK) (f : Env → Mem → Res (List PV)) : TA := fun σ H Q => ∃ G ι ρ m, GR X.kx G ι m H ∧ EnvR X.kx G ι ρ σ ∧ PostG X (fun G ι => Paired (RepV X.kx G ι)) W G ι H (f ρ m) Q
def isB (b : Bool) (x : PV) : Prop := x = .d (.bl b)
def tTe (X : Cx) (W : XK) (f : SE) : TT := fun σ H Q => ∃ G ι ρ m, GR X.kx G ι m H ∧ EnvR X.kx G ι ρ σ ∧ (∀ x m', f ρ m = .ok x m' → ∃ b, x = .d (.bl b)) ∧ PostG X (fun _ _ => isB) W G ι H (f ρ m) Q
structure SEx (X : Cx) (W : XK) (e : Expr) (f : SE) : Prop where
  pe : PE X e (tE X W f)
structure STe (X : Cx) (W : XK) (e : Expr) (f : SE) : Prop where
  pt : PT X e (tTe X W f)
structure SAr (X : Cx) (W : XK) (es : List Expr) (f : List SE) : Prop where
  pa : PA X es (tA X W (eArgs f))
theorem pe_weak {X : Cx} {e : Expr} {t t' : TE} (h : PE X e t) (w : ∀ σ H Q, t' σ H Q → t σ H Q) : PE X e t' := ⟨fun pins s σ H Q I q => h.run pins s σ H Q I (w _ _ _ q)⟩
theorem pt_weak {X : Cx} {e : Expr} {t t' : TT} (h : PT X e t) (w : ∀ σ H Q, t' σ H Q → t σ H Q) : PT X e t' := ⟨fun pins s σ H Q I q => h.run pins s σ H Q I (w _ _ _ q)⟩
theorem pa_weak {X : Cx} {e : List Expr} {t t' : TA} (h : PA X e t) (w : ∀ σ H Q, t' σ H Q → t σ H Q) : PA X e t' := ⟨fun pos pins s σ H Q I q => h.run pos pins s σ H Q I (w _ _ _ q)⟩
theorem ps_weak {X : Cx} {e : Stmt} {t t' : TS} (h : PS X e t) (w : ∀ D σ H, t' D σ H → t D σ H) : PS X e t' := ⟨fun pins s σ H D I q => h.run pins s σ H D I (w _ _ _ q)⟩
theorem pss_weak {X : Cx} {e : List Stmt} {t t' : TS} (h : PSs X e t) (w : ∀ D σ H, t' D σ H → t D σ H) : PSs X e t' := ⟨fun pins s σ H D I q => h.run pins s σ H D I (w _ _ _ q)⟩
end DI
namespace DI
open PySem PySem.Spec PyProof.Rows L2

def RepW (K : Kx) (G H : Hp) (v : V) : D → Prop
  | .lst ds => ∃ a vs, v = .ref a ∧ SqL K.K H a vs ∧ RepAll K G vs ds
  | .tup ds => ∃ a vs, v = .ref a ∧ SqT K.K G a vs ∧ RepAll K G vs ds
  | .non => v = .non
  | .bl b => v = .bl b
  | .int i => v = .int i
  | .str s => v = .str (txt s)
  | .dct ks ds => Rep K G v (.dct ks ds)
  | .ins c ns ds => Rep K G v (.ins c ns ds)
theorem Rep.w {K : Kx} {G H : Hp} (s : Sub G H) {v : V} {d : D} (r : Rep K G v d) : RepW K G H v d := by
  cases r with
  | non => rfl
  | bl b => rfl
  | int i => rfl
  | str x => rfl
  | lst h q => exact ⟨_, _, rfl, s.sql h, q⟩
  | tup h q => exact ⟨_, _, rfl, h, q⟩
  | dct h e1 e2 q => exact .dct h e1 e2 q
  | ins h0 h e1 e2 q => exact .ins h0 h e1 e2 q
theorem RepW.rep {K : Kx} {G H : Hp} (s : Sub G H) {v : V} {d : D} (r : RepW K G H v d) : Rep K H v d := by
  cases d with
  | non => cases (show v = .non from r); exact .non
  | bl b => cases (show v = .bl b from r); exact .bl b
  | int i => cases (show v = .int i from r); exact .int i
  | str x => cases (show v = .str (txt x) from r); exact .str x
  | lst ds => obtain ⟨a, vs, rfl, h, q⟩ := r; exact .lst h (RepAll.mono s q)
  | tup ds => obtain ⟨a, vs, rfl, h, q⟩ := r; exact .tup (s.sqt h) (RepAll.mono s q)
  | dct ks ds => exact Rep.mono s r
  | ins c ns ds => exact Rep.mono s r
theorem RepV.view {K : Kx} {G H : Hp} {ι : Io} {m : Mem} (g : GR K G ι m H) {v : V} {x : PV} {d : D} (r : RepV K G ι v x) (e : vw m x = some d) : RepW K G H v d := by
  cases x with
  | d y => cases e; exact Rep.w g.sub r
  | obj i =>
    obtain ⟨a, l, hl, rfl⟩ := r
    unfold vw at e
    dsimp only at e
    cases hm : m[i]? with
    | none => rw [hm] at e; cases e
    | some o =>
      have q := g.obj i _ o hl hm
      cases o with
      | l1 xs =>
        rw [hm] at e; cases e
        obtain ⟨b, vs, hb, _, h1, h2⟩ := q
        cases hb
        exact ⟨_, vs, rfl, SqL.of h1, h2⟩
      | fz xs =>
        rw [hm] at e; cases e
        obtain ⟨b, vs, hb, h1, h2⟩ := q
        cases hb
        exact ⟨_, vs, rfl, SqL.of (g.sub _ _ h1), h2⟩
      | tab P q => rw [hm] at e; cases e
      | l2 xs => rw [hm] at e; cases e
      | tp xs => rw [hm] at e; cases e
      | dead => rw [hm] at e; cases e
      | dk xs => rw [hm] at e; cases e
  | raw a => cases e

/-- an operation's way out: a value, perhaps with new tracked objects -/
def Fin (K : Kx) (G : Hp) (ι : Io) (m : Mem) (H : Hp) (Q : VK) (d : D) : Prop := ∀ w G' H', Ext G ι H G' ι H' → GR K G' ι m H' → Rep K G' w d → Q w H'
theorem Paired.at_l {α β : Type} {R : α → β → Prop} {xs : List α} {ys : List β} (h : Paired R xs ys) {x : α} (hx : x ∈ xs) : ∃ y, R x y := by
  induction h with
  | nil => cases hx
  | cons r t ih =>
    rcases List.mem_cons.mp hx with e | hx
    · exact ⟨_, e ▸ r⟩
    · exact ih hx
theorem Paired.map_in {α β : Type} {R S : α → β → Prop} {xs : List α} {ys : List β} (h : Paired R xs ys) (f : ∀ x ∈ xs, ∀ y, R x y → S x y) : Paired S xs ys := by
  induction h with
  | nil => exact .nil
  | cons r t ih => exact .cons (f _ (by simp) _ r) (ih fun x hx => f x (by simp [hx]))
/-- a new frozen object at p -/
theorem GR.fresh {K : Kx} {G H : Hp} {ι : Io} {m : Mem} (g : GR K G ι m H) {p : Addr} (hp : H p = none) : G p = none ∧ p ∉ ι.flatten := by
  constructor
  · cases q : G p with
    | none => rfl
    | some o => rw [g.sub _ _ q] at hp; cases hp
  · intro hm
    obtain ⟨l, hl, hpl⟩ := List.mem_flatten.mp hm
    obtain ⟨i, hi⟩ := List.mem_iff_getElem?.mp hl
    have hlt : i < m.length := by rw [← g.len]; exact (List.getElem?_eq_some_iff.mp hi).1
    have q := g.obj i l m[i] hi (by simp [hlt])
    cases e : m[i] with
    | l1 xs =>
      rw [e] at q
      obtain ⟨a, vs, rfl, _, h, _⟩ := q
      have : p = a := by simpa using hpl
      subst this
      rw [hp] at h; cases h
    | fz xs =>
      rw [e] at q
      obtain ⟨a, vs, rfl, h, _⟩ := q
      have : p = a := by simpa using hpl
      subst this
      rw [g.sub _ _ h] at hp; cases hp
    | tab P q' =>
      rw [e] at q
      obtain ⟨ps, rfl, _, h, _⟩ := q
      have : p = P := by simpa using hpl
      subst this
      rw [hp] at h; cases h
    | tp xs =>
      rw [e] at q
      obtain ⟨a, vs, o, rfl, h, _⟩ := q
      have : p = a := by simpa using hpl
      subst this
      rw [g.sub _ _ h] at hp; cases hp
    | dead =>
      rw [e] at q
      obtain ⟨o, h⟩ := q p hpl
      rw [g.sub _ _ h] at hp; cases hp
    | dk xs =>
      rw [e] at q
      obtain ⟨a, rfl, _, h⟩ := q
      have : p = a := by simpa using hpl
      subst this
      rw [hp] at h; cases h
    | l2 xs =>
      rw [e] at q
      obtain ⟨a, as, rfl, _, h, hr⟩ := q
      rcases List.mem_cons.mp hpl with this | hm
      · subst this
        rw [hp] at h; cases h
      · obtain ⟨ds, hb⟩ := Paired.at_l hr hm
        obtain ⟨_, vs, h2, _⟩ := hb
        rw [hp] at h2; cases h2
theorem sub_upd {G : Hp} {p : Addr} {o : HO} (h : G p = none) : Sub G (upd G p o) := fun a u e => by
  rw [upd_ne (ne_of_none e h)]; exact e
theorem sub_upd2 {G H : Hp} {p : Addr} {o : HO} (s : Sub G H) : Sub (upd G p o) (upd H p o) := fun a u e => by
  by_cases hp : a = p
  · subst hp; rw [upd_same] at e ⊢; exact e
  · rw [upd_ne hp] at e ⊢; exact s _ _ e
theorem sub_updR {G H : Hp} {p : Addr} {o : HO} (s : Sub G H) (h : G p = none) : Sub G (upd H p o) := fun a u e => by
  rw [upd_ne (ne_of_none e h)]; exact s _ _ e
theorem ObjR.mono {K : Kx} {G G' H H' : Hp} {l : List Addr} {o : MO} (r : ObjR K G H l o) (s : Sub G G') (k : ∀ a ∈ l, (G a = none → G' a = none) ∧ H' a = H a) : ObjR K G' H' l o := by
  cases o with
  | l1 xs =>
    obtain ⟨a, vs, rfl, h0, h1, h2⟩ := r
    have q := k a (by simp)
    exact ⟨a, vs, rfl, q.1 h0, by rw [q.2]; exact h1, RepAll.mono s h2⟩
  | fz xs =>
    obtain ⟨a, vs, rfl, h1, h2⟩ := r
    exact ⟨a, vs, rfl, s _ _ h1, RepAll.mono s h2⟩
  | tab P q =>
    obtain ⟨ps, rfl, h0, h1, h2, h3⟩ := r
    have q := k P (by simp)
    refine ⟨ps, rfl, q.1 h0, by rw [q.2]; exact h1, h2, fun pos cv hc => ?_⟩
    obtain ⟨c, e1, e2⟩ := h3 pos cv hc
    exact ⟨c, e1, s _ _ e2⟩
  | tp xs =>
    obtain ⟨a, vs, o, rfl, h1, h2, h3⟩ := r
    exact ⟨a, vs, o, rfl, s _ _ h1, h2, RepAll.mono s h3⟩
  | dead => exact fun b hb => (r b hb).elim fun o h => ⟨o, s _ _ h⟩
  | dk xs =>
    obtain ⟨a, rfl, h0, h1⟩ := r
    have q := k a (by simp)
    exact ⟨a, rfl, q.1 h0, by rw [q.2]; exact h1⟩
  | l2 xs =>
    obtain ⟨a, as, rfl, h0, h1, h2⟩ := r
    have q := k a (by simp)
    refine ⟨a, as, rfl, q.1 h0, by rw [q.2]; exact h1, Paired.map_in h2 fun b hb ds ⟨n, vs, h3, h4⟩ => ?_⟩
    have q2 := k b (by simp [hb])
    exact ⟨q2.1 n, vs, by rw [q2.2]; exact h3, RepAll.mono s h4⟩
theorem mem_io {ι : Io} {i : Nat} {l : List Addr} (h : ι[i]? = some l) {a : Addr} (ha : a ∈ l) : a ∈ ι.flatten :=
  List.mem_flatten.mpr ⟨l, List.mem_of_getElem? h, ha⟩
theorem GR.lay {K : Kx} {G H : Hp} {ι : Io} {m : Mem} (g : GR K G ι m H) {p : Addr} (hp : H p = none) (o : HO) : GR K (upd G p o) ι m (upd H p o) ∧ Ext G ι H (upd G p o) ι (upd H p o) := by
  obtain ⟨g1, g2⟩ := g.fresh hp
  refine ⟨⟨sub_upd2 g.sub, g.len, g.nd, fun i l o' hl ho => (g.obj i l o' hl ho).mono (sub_upd g1) fun a ha => ?_⟩, sub_upd g1, ⟨[], by simp, by simp⟩, fun a u e _ => by rw [upd_ne (ne_of_none e hp)]; exact e, fun a e => ?_, fun a u e => ?_⟩
  · have hne : a ≠ p := fun e => g2 (e ▸ mem_io hl ha)
    exact ⟨fun h => by rw [upd_ne hne]; exact h, by rw [upd_ne hne]⟩
  · by_cases h : a = p
    · subst h; exact hp
    · rw [upd_ne h] at e; exact e
  · by_cases h : a = p
    · subst h; exact .inr (.inl hp)
    · rw [upd_ne h] at e; exact .inl e
theorem GR.layL {K : Kx} {G H : Hp} {ι : Io} {m : Mem} (g : GR K G ι m H) {p : Addr} (hp : H p = none) {vs : List V} {ds : List D} (r : RepAll K G vs ds) {Q : VK} (fin : Fin K G ι m H Q (.lst ds)) : Q (.ref p) (upd H p (.lst vs)) := by
  obtain ⟨g1, x⟩ := g.lay hp (.lst vs)
  exact fin _ _ _ x g1 (.lst (SqL.of upd_same) (RepAll.mono x.sub r))
theorem GR.layT {K : Kx} {G H : Hp} {ι : Io} {m : Mem} (g : GR K G ι m H) {p : Addr} (hp : H p = none) {vs : List V} {ds : List D} (r : RepAll K G vs ds) {Q : VK} (fin : Fin K G ι m H Q (.tup ds)) : Q (.ref p) (upd H p (.tup vs)) := by
  obtain ⟨g1, x⟩ := g.lay hp (.tup vs)
  exact fin _ _ _ x g1 (.tup (SqT.of upd_same) (RepAll.mono x.sub r))
theorem Fin.here {K : Kx} {G H : Hp} {ι : Io} {m : Mem} {Q : VK} {d : D} (f : Fin K G ι m H Q d) (g : GR K G ι m H) {w : V} (r : Rep K G w d) : Q w H := f w G H (Ext.refl ..) g r

theorem ite_some {α : Type} {c : Prop} [Decidable c] {a d : α} (h : (if c then some a else none) = some d) : c ∧ a = d := by
  split at h
  · exact ⟨by assumption, Option.some.inj h⟩
  · cases h

/-! ### operations -/
def Op2 (X : Cx) (f : D → D → Option D) (r : R2) : Prop := ∀ {G ι m H v u x y d} {Q : VK}, GR X.kx G ι m H → RepW X.kx G H v x → RepW X.kx G H u y → f x y = some d → Fin X.kx G ι m H Q d → r v u H Q
def Op1 (X : Cx) (f : D → Option D) (r : V → Hp → VK → Prop) : Prop := ∀ {G ι m H v x d} {Q : VK}, GR X.kx G ι m H → RepW X.kx G H v x → f x = some d → Fin X.kx G ι m H Q d → r v H Q
section
variable {X : Cx} {W : XK} {a b c : Expr} {fa fb fc : SE} {pos : Pos}
theorem tE_mono {f : SE} {σ : L2.St} {H : Hp} {Q Q' : VK} (h : tE X W f σ H Q) (q : ∀ v H', Q v H' → Q' v H') : tE X W f σ H Q' := by
  obtain ⟨G, ι, ρ, m, g, ev, p⟩ := h
  refine ⟨G, ι, ρ, m, g, ev, ?_⟩
  cases hr : f ρ m with
  | no => rw [hr] at p; exact p
  | ex e m1 => rw [hr] at p; exact p
  | ok x m1 => rw [hr] at p; exact fun v G' ι' H' e g r => q _ _ (p v G' ι' H' e g r)
theorem post_tE {f : SE} {G : Hp} {ι : Io} {ρ : Env} {m : Mem} {σ : L2.St} {H : Hp} {k : PV → Mem → Res PV} {Q : VK} (g : GR X.kx G ι m H) (ev : EnvR X.kx G ι ρ σ) (p : PostE X W G ι H ((f ρ m).bind k) Q) :
    tE X W f σ H fun v H' => ∃ G' ι' m' x, Ext G ι H G' ι' H' ∧ GR X.kx G' ι' m' H' ∧ EnvR X.kx G' ι' ρ σ ∧ RepV X.kx G' ι' v x ∧ PostE X W G' ι' H' (k x m') Q := by
  refine ⟨G, ι, ρ, m, g, ev, ?_⟩
  cases hr : f ρ m with
  | no => rw [hr] at p; exact p
  | ex e m1 => rw [hr] at p; exact p
  | ok x m1 => rw [hr] at p; exact fun v G' ι' H' e g r => ⟨G', ι', m1, x, e, g, ev.ext e, r, PostE.ext e p⟩
theorem post_ofO {G H : Hp} {ι : Io} {m : Mem} {o : Option D} {Q : VK} (p : PostE X W G ι H (ofO o m) Q) : ∃ d, o = some d ∧ Fin X.kx G ι m H Q d := by
  cases o with
  | none => exact p.elim
  | some d => exact ⟨d, rfl, fun w G' H' e g r => p w G' ι H' e g r⟩
theorem se_e2 {op : Operator} {f : D → D → Option D} {r : R2} (ho : OpR X (binaryOp op) r) (hf : Op2 X f r) (ha : SEx X W a fa) (hb : SEx X W b fb) : SEx X W (.BinOp a op b pos) (e2 f fa fb) := by
  refine ⟨pe_weak (pe_op ho ha.pe hb.pe) fun σ H Q ⟨G, ι, ρ, m, g, ev, p⟩ => ?_⟩
  refine tE_mono (post_tE g ev p) fun v H1 ⟨G1, ι1, m1, x, x1, g1, ev1, r1, p1⟩ => ?_
  refine tE_mono (post_tE g1 ev1 p1) fun u H2 ⟨G2, ι2, m2, y, x2, g2, ev2, r2, p2⟩ => ?_
  obtain ⟨d, e, fin⟩ := post_ofO (H := H2) p2
  cases hx : vw m2 x with
  | none => rw [hx] at e; cases e
  | some dx =>
    cases hy : vw m2 y with
    | none => rw [hx, hy] at e; cases e
    | some dy =>
      rw [hx, hy] at e
      exact hf g2 ((r1.ext x2).view g2 hx) (r2.view g2 hy) e fin
end
end DI
namespace DI
open PySem PySem.Spec PyProof.Rows L2

section
variable {X : Cx}
theorem lineL_eq : lineL = sizeLine := by rw [sizeLine_eq]; rfl
theorem txt_length (s : List Char) : (txt s).length = s.length := by simp [txt, Str.length]
theorem txt_append (s t : List Char) : txt s ++ txt t = txt (s ++ t) := by
  show Str.append _ _ = _
  simp [txt, Str.append]
theorem txt_inj {s t : List Char} (h : txt s = txt t) : s = t := by
  unfold txt at h
  injection h with h
  have h2 : s.map Char.toNat = t.map Char.toNat := by simpa using congrArg Array.toList h
  have inj : ∀ (a b : List Char), a.map Char.toNat = b.map Char.toNat → a = b := by
    intro a
    induction a with
    | nil => intro b hb; cases b with
      | nil => rfl
      | cons _ _ => simp at hb
    | cons x xs ih => intro b hb; cases b with
      | nil => simp at hb
      | cons y ys =>
        simp only [List.map_cons, List.cons.injEq] at hb
        have e : x = y := Char.ext (UInt32.toNat_inj.mp hb.1)
        rw [e, ih ys hb.2]
  exact inj _ _ h2
theorem txt_eq (s t : List Char) : (txt s = txt t) ↔ s = t := ⟨txt_inj, fun h => by rw [h]⟩
/-! ### + -/
theorem op_catQ : OpR X (binaryOp .Add) (fun x y H Q => ∃ a b xs ys, x = .ref a ∧ y = .ref b ∧ SqL X.K H a xs ∧ SqL X.K H b ys ∧ xs.length + ys.length ≤ sizeLine ∧ ∀ p, H p = none → Q (.ref p) (upd H p (.lst (xs ++ ys)))) := by
  intro pins s σ H x y v u Q I rx ry h
  obtain ⟨a, b, xs, ys, rfl, rfl, ha, hb, hz, q⟩ := h
  cases rx
  cases ry
  obtain ⟨its, r1, p1, _⟩ := I.list ha
  obtain ⟨its2, r2, p2, _⟩ := I.list hb
  obtain ⟨⟨cls, dd, data, sl⟩, ho, hc, n, hd⟩ := id p1.isList
  obtain ⟨⟨cls2, dd2, data2, sl2⟩, ho2, hc2, n2, hd2⟩ := id p2.isList
  simp only at hc hd hc2 hd2
  subst hc hd hc2 hd2
  have e : its.toArray ++ its2.toArray = (its ++ its2).toArray := by simp
  refine concat_meets ⟨_, ho, rfl⟩ ⟨_, ho2, rfl⟩ noFill_list_add seq_list_add PySem.F.slot_list_add PySem.F.entry_list_add (PySem.F.args_list_add_2 _ _) (list_addW a b its.toArray its2.toArray n n2 dd dd2 sl sl2 (by have := r1.length; have := r2.length; simp; omega)) ⟨ho, ho2, ?_⟩
  rw [e]
  exact ⟨.ref _, _, I.lnew (t' := s.toks) (r1.append r2) (by rw [List.length_append]; omega), rfl, q _ I.fresh⟩
def rAddD (K : PySem.W.Frag) : R2 := fun x y H Q => rI0 (fun i j => .int (i + j)) x y H Q ∨ (∃ i j, x = .str i ∧ y = .str j ∧ i.length + j.length ≤ sizeLine ∧ Q (.str (i ++ j)) H) ∨
  (∃ a b xs ys, x = .ref a ∧ y = .ref b ∧ SqL K H a xs ∧ SqL K H b ys ∧ xs.length + ys.length ≤ sizeLine ∧ ∀ p, H p = none → Q (.ref p) (upd H p (.lst (xs ++ ys)))) ∨ rCatA K x y H Q
theorem op_addD : OpR X (binaryOp .Add) (rAddD X.K) := op_add.or (op_add_str.or (op_catQ.or op_catA))
theorem ds_add : Op2 X dAdd (rAddD X.K) := by
  intro G ι m H v u x y d Q g rx ry e fin
  cases x with
  | int i =>
    cases y with
    | int j =>
      cases (show v = .int i from rx); cases (show u = .int j from ry); cases e
      exact .inl ⟨i, j, rfl, rfl, fin.here g (.int _)⟩
    | _ => cases e
  | str i =>
    cases y with
    | str j =>
      cases (show v = .str (txt i) from rx); cases (show u = .str (txt j) from ry)
      obtain ⟨h, e⟩ := ite_some e
      · cases e
        refine .inr (.inl ⟨_, _, rfl, rfl, by rw [txt_length, txt_length, ← lineL_eq]; exact h, ?_⟩)
        rw [txt_append]
        exact fin.here g (.str _)
    | _ => cases e
  | lst xs =>
    cases y with
    | lst ys =>
      obtain ⟨a, vs, rfl, h1, r1⟩ := rx
      obtain ⟨b, ws, rfl, h2, r2⟩ := ry
      obtain ⟨h, e⟩ := ite_some e
      · cases e
        refine .inr (.inr (.inl ⟨a, b, vs, ws, rfl, rfl, h1, h2, by rw [r1.length, r2.length, ← lineL_eq]; exact h, fun p hp => g.layL hp (r1.append r2) fin⟩))
    | _ => cases e
  | tup xs =>
    cases y with
    | tup ys =>
      obtain ⟨a, vs, rfl, h1, r1⟩ := rx
      obtain ⟨b, ws, rfl, h2, r2⟩ := ry
      obtain ⟨h, e⟩ := ite_some e
      · cases e
        refine .inr (.inr (.inr ⟨a, b, vs, ws, rfl, rfl, g.sub.sqt h1, g.sub.sqt h2, by rw [r1.length, r2.length, ← lineL_eq]; exact h, fun z => ?_, fun z1 z2 => ?_, fun _ _ p hp => g.layT hp (r1.append r2) fin⟩))
        · subst z
          cases r1
          exact fin.here g (.tup h2 r2)
        · subst z2
          cases r2
          rw [List.append_nil] at fin
          exact fin.here g (.tup h1 r1)
    | _ => cases e
  | _ => cases e
end
end DI
namespace DI
open PySem PySem.Spec PyProof.Rows L2
section
variable {X : Cx}
/-! ### ints -/
theorem ds_sub : Op2 X dSub (rI0 fun i j => .int (i - j)) := by
  intro G ι m H v u x y d Q g rx ry e fin
  cases x <;> cases y <;> first
    | (cases e; done)
    | (rename_i i j; cases (show v = .int i from rx); cases (show u = .int j from ry); cases e; exact ⟨i, j, rfl, rfl, fin.here g (.int _)⟩)
theorem small64_of {i : Int} (h : small64 i = true) : -(2 ^ 64) < i ∧ i < 2 ^ 64 := by
  have := of_decide_eq_true h
  omega
theorem ds_mul : Op2 X dMul (rI CMul fun i j => .int (i * j)) := by
  intro G ι m H v u x y d Q g rx ry e fin
  cases x <;> cases y <;> first
    | (cases e; done)
    | (rename_i i j; cases (show v = .int i from rx); cases (show u = .int j from ry); obtain ⟨h, e⟩ := ite_some e; cases e
       refine ⟨i, j, rfl, rfl, ?_, fin.here g (.int _)⟩
       rcases Bool.or_eq_true_iff.mp h with h | h
       · exact .inl (small64_of h)
       · exact .inr (small64_of h))
theorem ds_mod : Op2 X dMod (rI (fun _ j => 0 < j) fun i j => .int (i % j)) := by
  intro G ι m H v u x y d Q g rx ry e fin
  cases x <;> cases y <;> first
    | (cases e; done)
    | (rename_i i j; cases (show v = .int i from rx); cases (show u = .int j from ry); obtain ⟨h, e⟩ := ite_some e; cases e
       exact ⟨i, j, rfl, rfl, h, fin.here g (.int _)⟩)
theorem ds_div : Op2 X dDiv (rI CDiv fun i j => .int (i / j)) := by
  intro G ι m H v u x y d Q g rx ry e fin
  cases x <;> cases y <;> first
    | (cases e; done)
    | (rename_i i j; cases (show v = .int i from rx); cases (show u = .int j from ry); obtain ⟨h, e⟩ := ite_some e; cases e
       exact ⟨i, j, rfl, rfl, h, fin.here g (.int _)⟩)
theorem ds_pow : Op2 X dPow (rI CPow fun i j => .int (i ^ j.toNat)) := by
  intro G ι m H v u x y d Q g rx ry e fin
  cases x <;> cases y <;> first
    | (cases e; done)
    | (rename_i i j; cases (show v = .int i from rx); cases (show u = .int j from ry); obtain ⟨h, e⟩ := ite_some e; cases e
       exact ⟨i, j, rfl, rfl, h, fin.here g (.int _)⟩)
theorem ds_neg : Op1 X dNeg (rU fun i => .int (-i)) := by
  intro G ι m H v x d Q g rx e fin
  cases x <;> first
    | (cases e; done)
    | (rename_i i; cases (show v = .int i from rx); cases e; exact ⟨i, rfl, fin.here g (.int _)⟩)
theorem ds_lt : Op2 X dLt (rI0 fun i j => .bl (decide (i < j))) := by
  intro G ι m H v u x y d Q g rx ry e fin
  cases x <;> cases y <;> first
    | (cases e; done)
    | (rename_i i j; cases (show v = .int i from rx); cases (show u = .int j from ry); cases e; exact ⟨i, j, rfl, rfl, fin.here g (.bl _)⟩)
theorem ds_le : Op2 X dLe (rI0 fun i j => .bl (decide (i ≤ j))) := by
  intro G ι m H v u x y d Q g rx ry e fin
  cases x <;> cases y <;> first
    | (cases e; done)
    | (rename_i i j; cases (show v = .int i from rx); cases (show u = .int j from ry); cases e; exact ⟨i, j, rfl, rfl, fin.here g (.bl _)⟩)
theorem ds_gt : Op2 X dGt (rI0 fun i j => .bl (decide (j < i))) := by
  intro G ι m H v u x y d Q g rx ry e fin
  cases x <;> cases y <;> first
    | (cases e; done)
    | (rename_i i j; cases (show v = .int i from rx); cases (show u = .int j from ry); cases e; exact ⟨i, j, rfl, rfl, fin.here g (.bl _)⟩)
theorem ds_ge : Op2 X dGe (rI0 fun i j => .bl (decide (j ≤ i))) := by
  intro G ι m H v u x y d Q g rx ry e fin
  cases x <;> cases y <;> first
    | (cases e; done)
    | (rename_i i j; cases (show v = .int i from rx); cases (show u = .int j from ry); cases e; exact ⟨i, j, rfl, rfl, fin.here g (.bl _)⟩)
/-! ### == -/
mutual
def D.py : D → PyData
  | .non => .none | .bl b => .bool b | .int i => .int i | .str s => .str (txt s)
  | .lst xs => .list (D.pyAll xs) | .tup xs => .tuple (D.pyAll xs) | .dct _ _ => .none | .ins _ _ _ => .none
def D.pyAll : List D → List PyData
  | [] => []
  | x :: xs => D.py x :: D.pyAll xs
end
theorem depAll_cons {x : D} {xs : List D} {n : Nat} (h : D.depAll (x :: xs) ≤ n) : x.dep ≤ n ∧ D.depAll xs ≤ n := by
  have e : D.depAll (x :: xs) = max x.dep (D.depAll xs) := rfl
  rw [e] at h
  omega
theorem dep_lst {xs : List D} {n : Nat} (h : (D.lst xs).dep ≤ n) : D.depAll xs ≤ n := by
  have e : (D.lst xs).dep = D.depAll xs + 1 := rfl
  omega
theorem dep_tup {xs : List D} {n : Nat} (h : (D.tup xs).dep ≤ n) : D.depAll xs ≤ n := by
  have e : (D.tup xs).dep = D.depAll xs + 1 := rfl
  omega
theorem dep_dct {ks vs : List D} (h : (D.dct ks vs).dep ≤ 64) : False := absurd (show 1000 ≤ 64 from h) (by decide)
theorem dep_ins {c : String} {ns : List String} {vs : List D} (h : (D.ins c ns vs).dep ≤ 64) : False := absurd (show 1000 ≤ 64 from h) (by decide)
mutual
theorem Rep.dp {K : Kx} {H : Hp} : ∀ {v : V} {d : D}, Rep K H v d → d.dep ≤ 64 → Dp K.K H v d.py
  | _, _, .non, _ => .non
  | _, _, .bl b, _ => .bl b
  | _, _, .int i, _ => .int i
  | _, _, .str x, _ => .str _
  | _, _, .lst h r, z => .lst h (RepAll.dp r (dep_lst z))
  | _, _, .tup h r, z => .tup h (RepAll.dp r (dep_tup z))
  | _, _, .dct _ _ _ _, z => (dep_dct z).elim
  | _, _, .ins _ _ _ _ _, z => (dep_ins z).elim
theorem RepAll.dp {K : Kx} {H : Hp} : ∀ {vs : List V} {ds : List D}, RepAll K H vs ds → D.depAll ds ≤ 64 → DpAll K.K H vs (D.pyAll ds)
  | _, _, .nil, _ => .nil
  | _, _, .cons r t, z => .cons (Rep.dp r (depAll_cons z).1) (RepAll.dp t (depAll_cons z).2)
end
mutual
theorem can_py : ∀ d : D, d.py.canLay0 = true
  | .non => rfl | .bl _ => rfl | .int _ => rfl | .dct _ _ => rfl | .ins _ _ _ => rfl
  | .str s => by
    show PyData.strOk (txt s) = true
    unfold PyData.strOk txt
    simp only [List.all_toArray, List.all_map, List.all_eq_true]
    intro c _
    have h := c.valid
    have h2 : c.toNat < 0x110000 := by
      have : c.val.toNat < 0x110000 := by
        rcases h with h | h
        · exact Nat.lt_trans h (by decide)
        · exact h.2
      exact this
    simpa using h2
  | .lst xs => by show PyData.canLayAll0 (D.pyAll xs) = true; exact can_pyAll xs
  | .tup xs => by show PyData.canLayAll0 (D.pyAll xs) = true; exact can_pyAll xs
theorem can_pyAll : ∀ ds : List D, PyData.canLayAll0 (D.pyAll ds) = true
  | [] => rfl
  | x :: xs => by
    show ((D.py x).canLay0 && PyData.canLayAll0 (D.pyAll xs)) = true
    rw [can_py x, can_pyAll xs]; rfl
end
mutual
theorem dep_py : ∀ d : D, d.dep ≤ 64 → d.py.depth = d.dep
  | .non, _ => rfl | .bl _, _ => rfl | .int _, _ => rfl | .str _, _ => rfl
  | .dct _ _, z => (dep_dct z).elim | .ins _ _ _, z => (dep_ins z).elim
  | .lst xs, z => by show PyData.depthAll (D.pyAll xs) + 1 = D.depAll xs + 1; rw [dep_pyAll xs (dep_lst z)]
  | .tup xs, z => by show PyData.depthAll (D.pyAll xs) + 1 = D.depAll xs + 1; rw [dep_pyAll xs (dep_tup z)]
theorem dep_pyAll : ∀ ds : List D, D.depAll ds ≤ 64 → PyData.depthAll (D.pyAll ds) = D.depAll ds
  | [], _ => rfl
  | x :: xs, z => by
    show max (PyData.depth (D.py x)) (PyData.depthAll (D.pyAll xs)) = max (D.dep x) (D.depAll xs)
    rw [dep_py x (depAll_cons z).1, dep_pyAll xs (depAll_cons z).2]
end
mutual
theorem eqv_py : ∀ a b : D, a.dep ≤ 64 → b.dep ≤ 64 → PyData.eqv a.py b.py = D.eqv a b
  | .dct _ _, _, z, _ => (dep_dct z).elim
  | .ins _ _ _, _, z, _ => (dep_ins z).elim
  | .non, b, _, z => by cases b <;> first | rfl | exact (dep_dct z).elim | exact (dep_ins z).elim
  | .bl _, b, _, z => by cases b <;> first | rfl | exact (dep_dct z).elim | exact (dep_ins z).elim
  | .int _, b, _, z => by cases b <;> first | rfl | exact (dep_dct z).elim | exact (dep_ins z).elim
  | .str s, b, _, z => by
    cases b <;> first
      | rfl
      | exact (dep_dct z).elim
      | exact (dep_ins z).elim
      | (rename_i t
         show (txt s == txt t) = (s == t)
         by_cases h : s = t
         · subst h; simp
         · have h2 : ¬ txt s = txt t := fun z => h (txt_inj z)
           rw [beq_eq_false_iff_ne.mpr h, beq_eq_false_iff_ne.mpr h2])
  | .lst xs, b, z1, z => by
    cases b <;> first
      | rfl
      | exact (dep_dct z).elim
      | exact (dep_ins z).elim
      | (rename_i ys; exact eqv_pyAll xs ys (dep_lst z1) (dep_lst z))
  | .tup xs, b, z1, z => by
    cases b <;> first
      | rfl
      | exact (dep_dct z).elim
      | exact (dep_ins z).elim
      | (rename_i ys; exact eqv_pyAll xs ys (dep_tup z1) (dep_tup z))
theorem eqv_pyAll : ∀ a b : List D, D.depAll a ≤ 64 → D.depAll b ≤ 64 → PyData.eqvAll (D.pyAll a) (D.pyAll b) = D.eqvAll a b
  | [], [], _, _ => rfl
  | [], _ :: _, _, _ => rfl
  | _ :: _, [], _, _ => rfl
  | x :: xs, y :: ys, z1, z2 => by
    show (PyData.eqv x.py y.py && PyData.eqvAll (D.pyAll xs) (D.pyAll ys)) = (D.eqv x y && D.eqvAll xs ys)
    rw [eqv_py x y (depAll_cons z1).1 (depAll_cons z2).1, eqv_pyAll xs ys (depAll_cons z1).2 (depAll_cons z2).2]
end
theorem shaped_py {d : D} (h : d.dep ≤ 64) : SeqAt.shaped d.py = true := by
  unfold SeqAt.shaped
  rw [can_py, dep_py d h, decide_eq_true h]; rfl
theorem ds_eq : Op2 X dEq (rEqD X.K) := by
  intro G ι m H v u x y d Q g rx ry e fin
  obtain ⟨⟨h1, h2⟩, e⟩ := ite_some e
  cases e
  refine ⟨x.py, y.py, (rx.rep g.sub).dp h1, (ry.rep g.sub).dp h2, shaped_py h1, shaped_py h2, ?_⟩
  rw [eqv_py x y h1 h2]
  exact fin.here g (.bl _)
theorem ds_ne : Op2 X dNe (rNeD X.K) := by
  intro G ι m H v u x y d Q g rx ry e fin
  obtain ⟨⟨h1, h2⟩, e⟩ := ite_some e
  cases e
  refine ⟨x.py, y.py, (rx.rep g.sub).dp h1, (ry.rep g.sub).dp h2, shaped_py h1, shaped_py h2, ?_⟩
  rw [eqv_py x y h1 h2]
  exact fin.here g (.bl _)
/-! ### is -/
theorem RepW.non {K : Kx} {G H : Hp} {v : V} {x : D} (r : RepW K G H v x) : decide (v = .non) = match x with | .non => true | _ => false := by
  cases x with
  | non => cases (show v = .non from r); rfl
  | bl b => cases (show v = .bl b from r); rfl
  | int b => cases (show v = .int b from r); rfl
  | str b => cases (show v = .str (txt b) from r); simp
  | lst b => obtain ⟨a, vs, rfl, _⟩ := r; rfl
  | tup b => obtain ⟨a, vs, rfl, _⟩ := r; rfl
  | dct ks ds => cases (show Rep K G v (.dct ks ds) from r); rfl
  | ins c ns ds => cases (show Rep K G v (.ins c ns ds) from r); rfl
def rIsNo : V → Hp → VK → Prop := fun x H Q => Q (.bl (decide (x = .non))) H
def rNotNo : V → Hp → VK → Prop := fun x H Q => Q (.bl (!decide (x = .non))) H
theorem ds_isN : Op1 X dIsN rIsNo := by
  intro G ι m H v x d Q g rx e fin
  show Q (.bl (decide (v = .non))) H
  rw [rx.non]
  cases x <;> (cases e; exact fin.here g (.bl _))
theorem ds_notN : Op1 X dNotN rNotNo := by
  intro G ι m H v x d Q g rx e fin
  show Q (.bl (!decide (v = .non))) H
  rw [rx.non]
  cases x <;> (cases e; exact fin.here g (.bl _))
/-! ### in -/
theorem RepW.sc {K : Kx} {G H : Hp} {v : V} {x : D} (r : RepW K G H v x) (f : flatD x = true) : Rep K G v x := by
  cases x with
  | non => cases (show v = .non from r); exact .non
  | bl b => cases (show v = .bl b from r); exact .bl b
  | int b => cases (show v = .int b from r); exact .int b
  | str b => cases (show v = .str (txt b) from r); exact .str b
  | lst b => cases f
  | tup b => cases f
  | dct _ _ => cases f
  | ins _ _ _ => cases f
theorem Rep.flat {K : Kx} {G : Hp} {v : V} {x : D} (r : Rep K G v x) (f : flatD x = true) : flatV v = true := by
  cases r <;> first | rfl | cases f
theorem RepAll.flat {K : Kx} {G : Hp} : ∀ {vs : List V} {xs : List D}, RepAll K G vs xs → xs.all flatD = true → vs.all flatV = true
  | _, _, .nil, _ => rfl
  | _, _, .cons r t, f => by
    rw [List.all_cons, Bool.and_eq_true] at f ⊢
    exact ⟨r.flat f.1, RepAll.flat t f.2⟩
theorem Rep.eqV {K : Kx} {G : Hp} {v u : V} {x y : D} (r : Rep K G v x) (q : Rep K G u y) (fx : flatD x = true) (fy : flatD y = true) : L2.eqV v u = D.eqv x y := by
  cases r <;> cases q <;> first
    | rfl
    | (cases fx; done)
    | (cases fy; done)
    | (rename_i s t
       show (txt s == txt t) = (s == t)
       by_cases h : s = t
       · subst h; simp
       · have h2 : ¬ txt s = txt t := fun z => h (txt_inj z)
         rw [beq_eq_false_iff_ne.mpr h, beq_eq_false_iff_ne.mpr h2])
theorem RepAll.inV {K : Kx} {G : Hp} {v : V} {x : D} (r : Rep K G v x) (fx : flatD x = true) : ∀ {vs : List V} {xs : List D}, RepAll K G vs xs → xs.all flatD = true → L2.inV v vs = xs.any fun y => D.eqv y x
  | _, _, .nil, _ => rfl
  | _, _, .cons q t, f => by
    rw [List.all_cons, Bool.and_eq_true] at f
    have ih := RepAll.inV r fx t f.2
    unfold L2.inV at ih ⊢
    rw [List.any_cons, List.any_cons, q.eqV r f.1 fx, ih]
theorem mem_txt (c : Char) (s : List Char) : decide (c.toNat ∈ (txt s).cps.toList) = s.contains c := by
  unfold txt
  simp only [List.toList_toArray, List.mem_map]
  by_cases h : c ∈ s
  · have e1 : (∃ a, a ∈ s ∧ a.toNat = c.toNat) := ⟨c, h, rfl⟩
    rw [decide_eq_true e1, List.contains_iff_mem.mpr h]
  · have e1 : ¬ (∃ a, a ∈ s ∧ a.toNat = c.toNat) := by
      rintro ⟨a, ha, e⟩
      have : a = c := Char.ext (UInt32.toNat_inj.mp e)
      exact h (this ▸ ha)
    rw [decide_eq_false e1]
    cases q : s.contains c with
    | false => rfl
    | true => exact absurd (List.contains_iff_mem.mp q) h
theorem txt_one (c : Char) : txt [c] = ⟨#[c.toNat]⟩ := rfl
def rInD (K : PySem.W.Frag) : R2 := fun x y H Q => rIn K false x y H Q ∨ (∃ (c : Nat) (z : Str), x = .str ⟨#[c]⟩ ∧ y = .str z ∧ Q (.bl (decide (c ∈ z.cps.toList))) H)
theorem op_inD : OpR X (compareOp .In) (rInD X.K) := op_in_seq.or op_in_sign
def rNotInD (K : PySem.W.Frag) : R2 := fun x y H Q => rIn K true x y H Q ∨ (∃ (c : Nat) (z : Str), x = .str ⟨#[c]⟩ ∧ y = .str z ∧ Q (.bl (!decide (c ∈ z.cps.toList))) H)
theorem op_notInD : OpR X (compareOp .NotIn) (rNotInD X.K) := op_notIn_seq.or op_notIn_sign
theorem dIn_cases {x y d : D} (e : dIn x y = some d) : (∃ ys, (y = .lst ys ∨ y = .tup ys) ∧ flatD x = true ∧ ys.all flatD = true ∧ d = .bl (ys.any fun y => D.eqv y x)) ∨ ∃ c s, x = .str [c] ∧ y = .str s ∧ d = .bl (s.contains c) := by
  cases y with
  | lst ys =>
    have e' : (if (flatD x && ys.all flatD) = true then some (D.bl (ys.any fun y => D.eqv y x)) else none) = some d := by cases x <;> exact e
    obtain ⟨h, e⟩ := ite_some e'
    rw [Bool.and_eq_true] at h
    exact .inl ⟨ys, .inl rfl, h.1, h.2, e.symm⟩
  | tup ys =>
    have e' : (if (flatD x && ys.all flatD) = true then some (D.bl (ys.any fun y => D.eqv y x)) else none) = some d := by cases x <;> exact e
    obtain ⟨h, e⟩ := ite_some e'
    rw [Bool.and_eq_true] at h
    exact .inl ⟨ys, .inr rfl, h.1, h.2, e.symm⟩
  | str s =>
    cases x with
    | str t =>
      match t, e with
      | [c], e => cases e; exact .inr ⟨c, s, rfl, rfl, rfl⟩
      | [], e => cases e
      | _ :: _ :: _, e => cases e
    | _ => cases e
  | _ => cases x <;> cases e
theorem ds_in : Op2 X dIn (rInD X.K) := by
  intro G ι m H v u x y d Q g rx ry e fin
  rcases dIn_cases e with ⟨ys, hy, fx, fy, rfl⟩ | ⟨c, s, rfl, rfl, rfl⟩
  · refine .inl ?_
    have q := rx.sc fx
    rcases hy with rfl | rfl
    · obtain ⟨a, vs, rfl, h, r⟩ := ry
      refine ⟨a, vs, rfl, .inl h, q.flat fx, r.flat fy, ?_⟩
      show Q (.bl (if false = true then _ else inV v vs)) H
      rw [if_neg (by decide), r.inV q fx fy]
      exact fin.here g (.bl _)
    · obtain ⟨a, vs, rfl, h, r⟩ := ry
      refine ⟨a, vs, rfl, .inr (g.sub.sqt h), q.flat fx, r.flat fy, ?_⟩
      show Q (.bl (if false = true then _ else inV v vs)) H
      rw [if_neg (by decide), r.inV q fx fy]
      exact fin.here g (.bl _)
  · cases (show v = .str (txt [c]) from rx)
    cases (show u = .str (txt s) from ry)
    refine .inr ⟨c.toNat, txt s, rfl, rfl, ?_⟩
    rw [mem_txt]
    exact fin.here g (.bl _)
theorem ds_notIn : Op2 X dNotIn (rNotInD X.K) := by
  intro G ι m H v u x y d Q g rx ry e fin
  unfold dNotIn at e
  cases h : dIn x y with
  | none => rw [h] at e; cases e
  | some d' =>
    rw [h] at e
    rcases dIn_cases h with ⟨ys, hy, fx, fy, rfl⟩ | ⟨c, s, rfl, rfl, rfl⟩
    · cases e
      refine .inl ?_
      have q := rx.sc fx
      rcases hy with rfl | rfl
      · obtain ⟨a, vs, rfl, h, r⟩ := ry
        refine ⟨a, vs, rfl, .inl h, q.flat fx, r.flat fy, ?_⟩
        show Q (.bl (if true = true then !inV v vs else _)) H
        rw [if_pos rfl, r.inV q fx fy]
        exact fin.here g (.bl _)
      · obtain ⟨a, vs, rfl, h, r⟩ := ry
        refine ⟨a, vs, rfl, .inr (g.sub.sqt h), q.flat fx, r.flat fy, ?_⟩
        show Q (.bl (if true = true then !inV v vs else _)) H
        rw [if_pos rfl, r.inV q fx fy]
        exact fin.here g (.bl _)
    · cases e
      cases (show v = .str (txt [c]) from rx)
      cases (show u = .str (txt s) from ry)
      refine .inr ⟨c.toNat, txt s, rfl, rfl, ?_⟩
      rw [mem_txt]
      exact fin.here g (.bl _)
end
end DI
namespace DI
open PySem PySem.Spec PyProof.Rows L2
section
variable {X : Cx} {W : XK} {a b c e : Expr} {fa fb fc f : SE} {pos p : Pos} {G H : Hp} {ι : Io} {ρ : Env} {m : Mem} {σ : L2.St}

/-! ### general steps -/
theorem postG_bind {α β γ : Type} {R : Hp → Io → β → α → Prop} {r : Res α} {k : α → Mem → Res γ} {δ : Type} {R' : Hp → Io → δ → γ → Prop} {Q : δ → Hp → Prop} (p : PostG X R' W G ι H (r.bind k) Q) :
    PostG X R W G ι H r fun v H' => ∃ G' ι' m' x, Ext G ι H G' ι' H' ∧ GR X.kx G' ι' m' H' ∧ R G' ι' v x ∧ r = .ok x m' ∧ PostG X R' W G' ι' H' (k x m') Q := by
  cases r with
  | ok x m1 => exact fun v G' ι' H' e g rv => ⟨G', ι', m1, x, e, g, rv, rfl, by
      revert p
      show PostG X R' W G ι H (k x m1) Q → _
      intro p
      cases hk : k x m1 with
      | ok y m2 => rw [hk] at p; exact fun v G' ι' H' x => p v G' ι' H' (e.trans x)
      | ex y m2 => rw [hk] at p; exact fun c dx G' ι' H' x => p c dx G' ι' H' (e.trans x)
      | no => rw [hk] at p; exact p⟩
  | ex e m1 => exact p
  | no => exact p
theorem postE_G {r : Res PV} {Q : VK} : PostE X W G ι H r Q ↔ PostG X (fun G ι => RepV X.kx G ι) W G ι H r Q := by
  cases r <;> exact Iff.rfl
theorem PostG.ext {α β : Type} {R : Hp → Io → β → α → Prop} {G1 H1 : Hp} {ι1 : Io} {r : Res α} {Q : β → Hp → Prop} (e : Ext G ι H G1 ι1 H1) (h : PostG X R W G ι H r Q) : PostG X R W G1 ι1 H1 r Q := by
  cases r with
  | ok d m => exact fun v G' ι' H' x => h v G' ι' H' (e.trans x)
  | ex d m => exact fun c dx G' ι' H' x => h c dx G' ι' H' (e.trans x)
  | no => exact h
/-- a sub-expression first -/
theorem step_e {γ δ : Type} {R' : Hp → Io → δ → γ → Prop} {Q : δ → Hp → Prop} {k : PV → Mem → Res γ} (g : GR X.kx G ι m H) (ev : EnvR X.kx G ι ρ σ) (p : PostG X R' W G ι H ((f ρ m).bind k) Q) :
    tE X W f σ H fun v H' => ∃ G' ι' m' x, Ext G ι H G' ι' H' ∧ GR X.kx G' ι' m' H' ∧ EnvR X.kx G' ι' ρ σ ∧ RepV X.kx G' ι' v x ∧ f ρ m = .ok x m' ∧ PostG X R' W G' ι' H' (k x m') Q := by
  refine ⟨G, ι, ρ, m, g, ev, ?_⟩
  rw [postE_G]
  have q := postG_bind (R := fun G ι => RepV X.kx G ι) p
  cases hr : f ρ m with
  | no => rw [hr] at q; exact q
  | ex e m1 => rw [hr] at q; exact q
  | ok x m1 =>
    rw [hr] at q
    intro v G' ι' H' e g r
    obtain ⟨G2, ι2, m2, y, e2, g2, r2, he, p2⟩ := q v G' ι' H' e g r
    exact ⟨G2, ι2, m2, y, e2, g2, ev.ext e2, r2, he, p2⟩
theorem step_a {γ δ : Type} {R' : Hp → Io → δ → γ → Prop} {Q : δ → Hp → Prop} {fs : Env → Mem → Res (List PV)} {k : List PV → Mem → Res γ} (g : GR X.kx G ι m H) (ev : EnvR X.kx G ι ρ σ) (p : PostG X R' W G ι H ((fs ρ m).bind k) Q) :
    tA X W fs σ H fun v H' => ∃ G' ι' m' x, Ext G ι H G' ι' H' ∧ GR X.kx G' ι' m' H' ∧ EnvR X.kx G' ι' ρ σ ∧ Paired (RepV X.kx G' ι') v x ∧ fs ρ m = .ok x m' ∧ PostG X R' W G' ι' H' (k x m') Q := by
  refine ⟨G, ι, ρ, m, g, ev, ?_⟩
  have q := postG_bind (R := fun G ι => Paired (RepV X.kx G ι)) p
  cases hr : fs ρ m with
  | no => rw [hr] at q; exact q
  | ex e m1 => rw [hr] at q; exact q
  | ok x m1 =>
    rw [hr] at q
    intro v G' ι' H' e g r
    obtain ⟨G2, ι2, m2, y, e2, g2, r2, he, p2⟩ := q v G' ι' H' e g r
    exact ⟨G2, ι2, m2, y, e2, g2, ev.ext e2, r2, he, p2⟩
theorem tA_mono {fs : Env → Mem → Res (List PV)} {Q Q' : List V → Hp → Prop} (h : tA X W fs σ H Q) (q : ∀ v H', Q v H' → Q' v H') : tA X W fs σ H Q' := by
  obtain ⟨G, ι, ρ, m, g, ev, p⟩ := h
  refine ⟨G, ι, ρ, m, g, ev, ?_⟩
  cases hr : fs ρ m with
  | no => rw [hr] at p; exact p
  | ex e m1 => rw [hr] at p; exact p
  | ok x m1 => rw [hr] at p; exact fun v G' ι' H' e g r => q _ _ (p v G' ι' H' e g r)
theorem tTe_mono {f : SE} {Q Q' : Bool → Hp → Prop} (h : tTe X W f σ H Q) (q : ∀ v H', Q v H' → Q' v H') : tTe X W f σ H Q' := by
  obtain ⟨G, ι, ρ, m, g, ev, hb, p⟩ := h
  refine ⟨G, ι, ρ, m, g, ev, hb, ?_⟩
  cases hr : f ρ m with
  | no => rw [hr] at p; exact p
  | ex e m1 => rw [hr] at p; exact p
  | ok x m1 => rw [hr] at p; exact fun v G' ι' H' e g r => q _ _ (p v G' ι' H' e g r)
/-- a test first -/
theorem step_t {γ δ : Type} {R' : Hp → Io → δ → γ → Prop} {Q : δ → Hp → Prop} {k : Bool → Mem → Res γ} (g : GR X.kx G ι m H) (ev : EnvR X.kx G ι ρ σ) (p : PostG X R' W G ι H ((f ρ m).bind (tst k)) Q) :
    tTe X W f σ H fun b H' => ∃ G' ι' m', Ext G ι H G' ι' H' ∧ GR X.kx G' ι' m' H' ∧ EnvR X.kx G' ι' ρ σ ∧ PostG X R' W G' ι' H' (k b m') Q := by
  refine ⟨G, ι, ρ, m, g, ev, fun x m' hx => ?_, ?_⟩
  · rw [hx] at p
    match x, p with
    | .d (.bl b), _ => exact ⟨b, rfl⟩
    | .d .non, p => exact p.elim
    | .d (.int _), p => exact p.elim
    | .d (.str _), p => exact p.elim
    | .d (.tup _), p => exact p.elim
    | .d (.dct _ _), p => exact p.elim
    | .d (.ins _ _ _), p => exact p.elim
    | .d (.lst _), p => exact p.elim
    | .obj _, p => exact p.elim
  · have q := postG_bind (R := fun _ _ => isB) p
    cases hr : f ρ m with
    | no => rw [hr] at q; exact q
    | ex e m1 => rw [hr] at q; exact q
    | ok x m1 =>
      rw [hr] at q
      intro v G' ι' H' e g r
      obtain ⟨G2, ι2, m2, y, e2, g2, r2, he, p2⟩ := q v G' ι' H' e g r
      cases (show y = .d (.bl v) from r2)
      exact ⟨G2, ι2, m2, e2, g2, ev.ext e2, p2⟩

/-! ### names, constants -/
theorem se_var (i : Nat) {x : Str} (hN : X.N[i]? = some x := by rfl) (hv : Vis X.env.scope x := by first | exact Or.inl rfl | exact Or.inr (Or.inl rfl) | exact Or.inr (Or.inr rfl)) (hd : (x == ("__debug__" : Str)) = false := by decide +kernel)
    (hcd : (x == ("__classdict__" : Str)) = false := by decide +kernel) : SEx X W (.Name x pos) (eV i) := by
  refine ⟨pe_weak (pe_var hN hv hd hcd) fun σ H Q ⟨G, ι, ρ, m, g, ev, q⟩ => ?_⟩
  unfold eV at q
  cases h : ρ[i]? with
  | none => rw [h] at q; exact q.elim
  | some o =>
    cases o with
    | none => rw [h] at q; exact q.elim
    | some x =>
      rw [h] at q
      obtain ⟨v, h1, h2⟩ := ev.2 i x h
      exact ⟨v, h1, q v G ι H (Ext.refl ..) g h2⟩
theorem se_c {v : V} {d : D} (h : PE X e (tC v)) (r : ∀ G, Rep X.kx G v d) : SEx X W e (eC d) :=
  ⟨pe_weak h fun σ H Q ⟨G, ι, ρ, m, g, ev, q⟩ => q v G ι H (Ext.refl ..) g (r G)⟩
theorem se_int {i : Int} {j} : SEx X W (.Constant (.int i) j pos) (eC (.int i)) := se_c pe_int fun _ => .int i
theorem se_bl {i : Bool} {j} : SEx X W (.Constant (.bool i) j pos) (eC (.bl i)) := se_c pe_bl fun _ => .bl i
theorem se_non {j} : SEx X W (.Constant .none j pos) (eC .non) := se_c pe_non fun _ => .non
theorem se_str {x : Str} {j} (s : List Char) (h : x = txt s := by decide +kernel) : SEx X W (.Constant (.str x) j pos) (eC (.str s)) := by
  subst h
  exact se_c pe_str fun _ => .str s
/-- a module's constant -/
theorem se_glob {x : Str} {v : V} {u : Value} {d : D} (hm : X.mg x = some u) (r : RelV v u) (q : ∀ G, Rep X.kx G v d) (hg : Gl X x := by rfl) (hd : (x == ("__debug__" : Str)) = false := by decide +kernel) : SEx X W (.Name x pos) (eC d) :=
  se_c (pe_glob hg hm r hd) q

/-! ### operators -/
theorem se_bin {op : Operator} {f : D → D → Option D} {r : R2} (ho : OpR X (binaryOp op) r) (hf : Op2 X f r) (ha : SEx X W a fa) (hb : SEx X W b fb) : SEx X W (.BinOp a op b pos) (e2 f fa fb) := se_e2 ho hf ha hb
theorem pc_opR {op : CmpOp} {r : R2} {ta tb : TE} (ho : OpR X (compareOp op) r) (ha : PE X a ta) (hb : PE X b tb) : PC X op a b (tOp r ta tb) :=
  ⟨fun pins s σ H Q I h => binT ha hb I h fun v u s2 x y H2 I2 rx ry q => ho pins s2 σ H2 x y v u Q I2 rx ry q⟩
/-- a comparison -/
structure SCm (X : Cx) (W : XK) (op : CmpOp) (a b : Expr) (f : SE) : Prop where
  pc : PC X op a b (tE X W f)
theorem pc_weak {op : CmpOp} {t t' : TE} (h : PC X op a b t) (w : ∀ σ H Q, t' σ H Q → t σ H Q) : PC X op a b t' := ⟨fun pins s σ H Q I q => h.run pins s σ H Q I (w _ _ _ q)⟩
theorem tE_op2 {f : D → D → Option D} {r : R2} (hf : Op2 X f r) {Q : VK} (h : tE X W (e2 f fa fb) σ H Q) : tOp r (tE X W fa) (tE X W fb) σ H Q := by
  obtain ⟨G, ι, ρ, m, g, ev, p⟩ := h
  rw [postE_G] at p
  refine tE_mono (step_e g ev p) fun v H1 ⟨G1, ι1, m1, x, x1, g1, ev1, r1, _, p1⟩ => ?_
  refine tE_mono (step_e g1 ev1 p1) fun u H2 ⟨G2, ι2, m2, y, x2, g2, ev2, r2, _, p2⟩ => ?_
  rw [← postE_G] at p2
  obtain ⟨d, e, fin⟩ := post_ofO (H := H2) p2
  cases hx : vw m2 x with
  | none => rw [hx] at e; cases e
  | some dx =>
    cases hy : vw m2 y with
    | none => rw [hx, hy] at e; cases e
    | some dy =>
      rw [hx, hy] at e
      exact hf g2 ((r1.ext x2).view g2 hx) (r2.view g2 hy) e fin
theorem sc_op {op : CmpOp} {f : D → D → Option D} {r : R2} (ho : OpR X (compareOp op) r) (hf : Op2 X f r) (ha : SEx X W a fa) (hb : SEx X W b fb) : SCm X W op a b (e2 f fa fb) :=
  ⟨pc_weak (pc_opR ho ha.pe hb.pe) fun σ H Q h => tE_op2 hf h⟩
/-- one place -/
theorem tE_op1 {f : D → Option D} {r : V → Hp → VK → Prop} (hf : Op1 X f r) {Q : VK} (h : tE X W (e1 f fa) σ H Q) : tE X W fa σ H fun x H1 => r x H1 Q := by
  obtain ⟨G, ι, ρ, m, g, ev, p⟩ := h
  rw [postE_G] at p
  refine tE_mono (step_e g ev p) fun v H1 ⟨G1, ι1, m1, x, x1, g1, ev1, r1, _, p1⟩ => ?_
  rw [← postE_G] at p1
  obtain ⟨d, e, fin⟩ := post_ofO (H := H1) p1
  cases hx : vw m1 x with
  | none => rw [hx] at e; cases e
  | some dx =>
    rw [hx] at e
    exact hf g1 (r1.view g1 hx) e fin
theorem se_un {op : UnaryOp} {f : D → Option D} {r : V → Hp → VK → Prop} (ho : UnR X (unaryOp op) r) (hf : Op1 X f r) (ha : SEx X W a fa) : SEx X W (.UnaryOp op a pos) (e1 f fa) :=
  ⟨pe_weak (pe_un ho ha.pe) fun σ H Q h => tE_op1 hf h⟩
theorem sc_isN {j pos'} (ha : SEx X W a fa) : SCm X W .Is a (.Constant .none j pos') (e1 dIsN fa) := ⟨pc_weak (pc_isN ha.pe) fun σ H Q h => tE_op1 ds_isN h⟩
theorem sc_notN {j pos'} (ha : SEx X W a fa) : SCm X W .IsNot a (.Constant .none j pos') (e1 dNotN fa) := ⟨pc_weak (pc_notN ha.pe) fun σ H Q h => tE_op1 ds_notN h⟩
theorem se_cmp {op : CmpOp} (h : SCm X W op a b f) (h1 : behindInMarks op b = false := by first | exact nobehind _ (by decide) (by decide) | rfl) : SEx X W (.Compare a [op] [b] pos) f := ⟨pe_cmp h.pc h1⟩
/-- a bool as a test -/
theorem tTe_tE {Q : Bool → Hp → Prop} (h : tTe X W f σ H Q) : tE X W f σ H fun x H' => ∃ k, x = .bl k ∧ Q k H' := by
  obtain ⟨G, ι, ρ, m, g, ev, hb, p⟩ := h
  refine ⟨G, ι, ρ, m, g, ev, ?_⟩
  cases hr : f ρ m with
  | no => rw [hr] at p; exact p
  | ex e m1 => rw [hr] at p; exact p
  | ok x m1 =>
    rw [hr] at p
    obtain ⟨b, rfl⟩ := hb x m1 hr
    intro v G' ι' H' e g r
    cases r
    exact ⟨b, rfl, p b G' ι' H' e g rfl⟩
theorem st_val (h : SEx X W e f) (he : ∀ whole, isTrue e X.env whole = (do let v ← whole; standAt e.pos; holding [v] (truthy v)) := by intro _; rfl) : STe X W e f :=
  ⟨pt_weak (pt_val h.pe he) fun σ H Q h => tTe_tE h⟩
theorem st_cmp {op : CmpOp} (h : SCm X W op a b f) (h1 : behindInMarks op b = false := by first | exact nobehind _ (by decide) (by decide) | rfl) : STe X W (.Compare a [op] [b] pos) f :=
  ⟨pt_weak (pt_cmp h.pc h1) fun σ H Q h => tTe_tE h⟩
/-- a chain of two comparisons -/
theorem tE_chain {f g : D → D → Option D} {r r' : R2} (hf : Op2 X f r) (hg : Op2 X g r') {Q : VK} (h : tE X W (eCh f g fa fb fc) σ H Q) : tChain r r' (tE X W fa) (tE X W fb) (tE X W fc) σ H Q := by
  obtain ⟨G, ι, ρ, m, gr, ev, p⟩ := h
  rw [postE_G] at p
  refine tE_mono (step_e gr ev p) fun v H1 ⟨G1, ι1, m1, x, x1, g1, ev1, r1, _, p1⟩ => ?_
  refine tE_mono (step_e g1 ev1 p1) fun u H2 ⟨G2, ι2, m2, y, x2, g2, ev2, r2, _, p2⟩ => ?_
  cases hx : vw m2 x with
  | none => rw [hx] at p2; exact p2.elim
  | some dx =>
    cases hy : vw m2 y with
    | none => rw [hx, hy] at p2; exact p2.elim
    | some dy =>
      rw [hx, hy] at p2
      cases hd : f dx dy with
      | none => rw [show ((some dx).bind fun dx => (some dy).bind fun dy => f dx dy) = f dx dy from rfl, hd] at p2; exact p2.elim
      | some d =>
        rw [show ((some dx).bind fun dx => (some dy).bind fun dy => f dx dy) = f dx dy from rfl, hd] at p2
        refine hf g2 ((r1.ext x2).view g2 hx) (r2.view g2 hy) hd fun z G3 H3 x3 g3 r3 => ?_
        match d, p2, r3 with
        | .bl t, p2, r3 =>
          cases r3
          refine ⟨t, rfl, ?_⟩
          have p3 : PostG X (fun G ι => RepV X.kx G ι) W G2 ι2 H2 (if t = true then (fc ρ m2).bind fun z m => ofO ((vw m y).bind fun dy => (vw m z).bind fun dz => g dy dz) m else .ok (.d (.bl false)) m2) Q := p2
          cases t with
          | false =>
            rw [if_neg (by decide)] at p3 ⊢
            exact p3 _ G3 ι2 H3 x3 g3 (.bl false)
          | true =>
            rw [if_pos rfl] at p3 ⊢
            refine tE_mono (step_e g3 (ev2.ext x3) (p3.ext x3)) fun w H4 ⟨G4, ι4, m4, z, x4, g4, ev4, r4, _, p4⟩ => ?_
            rw [← postE_G] at p4
            obtain ⟨d, e, fin⟩ := post_ofO (H := H4) p4
            cases hy2 : vw m4 y with
            | none => rw [hy2] at e; cases e
            | some dy2 =>
              cases hz : vw m4 z with
              | none => rw [hy2, hz] at e; cases e
              | some dz =>
                rw [hy2, hz] at e
                exact hg g4 (((r2.ext x3).ext x4).view g4 hy2) (r4.view g4 hz) e fin
theorem se_chain {op op' : CmpOp} {f g : D → D → Option D} {r r' : R2} (ho : OpR X (compareOp op) r) (hf : Op2 X f r) (ho' : OpR X (compareOp op') r') (hg : Op2 X g r') (ha : SEx X W a fa) (hb : SEx X W b fb) (hc : SEx X W c fc)
    (hm : lastMarks [op, op'] [b, c] = false := by with_unfolding_all rfl) : SEx X W (.Compare a [op, op'] [b, c] pos) (eCh f g fa fb fc) := ⟨pe_weak (pe_chain ho ho' ha.pe hb.pe hc.pe hm) fun σ H Q h => tE_chain hf hg h⟩
theorem st_chain {op op' : CmpOp} {f g : D → D → Option D} {r r' : R2} (ho : OpR X (compareOp op) r) (hf : Op2 X f r) (ho' : OpR X (compareOp op') r') (hg : Op2 X g r') (ha : SEx X W a fa) (hb : SEx X W b fb) (hc : SEx X W c fc)
    (hm : lastMarks [op, op'] [b, c] = false := by with_unfolding_all rfl) : STe X W (.Compare a [op, op'] [b, c] pos) (eCh f g fa fb fc) := ⟨pt_weak (pt_chain ho ho' ha.pe hb.pe hc.pe hm) fun σ H Q h => tE_chain hf hg (tTe_tE h)⟩
end
end DI
namespace DI
open PySem PySem.Spec PyProof.Rows L2
section
variable {X : Cx} {W : XK} {a b c e : Expr} {es rest : List Expr} {fa fb fc f : SE} {fs : List SE} {pos p : Pos} {G H : Hp} {ι : Io} {ρ : Env} {m : Mem} {σ : L2.St}
/-! ### and, or, not, if -/
theorem se_one {op} (h : SEx X W a fa) : SEx X W (.BoolOp op [a] pos) fa := ⟨pe_one h.pe⟩
theorem se_and (ha : SEx X W a fa) (hb : SEx X W (.BoolOp .And (b :: rest) pos) fb) : SEx X W (.BoolOp .And (a :: b :: rest) pos) (eAnd fa fb) := by
  refine ⟨pe_weak (pe_and ha.pe hb.pe) fun σ H Q ⟨G, ι, ρ, m, g, ev, p⟩ => ?_⟩
  rw [postE_G] at p
  have q := tTe_tE (step_t g ev p)
  refine tE_mono q fun x H1 ⟨k, e, G1, ι1, m1, x1, g1, ev1, p1⟩ => ⟨k, e, ?_⟩
  cases k with
  | true => rw [if_pos rfl] at p1 ⊢; exact ⟨G1, ι1, ρ, m1, g1, ev1, postE_G.mpr p1⟩
  | false => rw [if_neg (by decide)] at p1 ⊢; exact p1 _ G1 ι1 H1 (Ext.refl ..) g1 (.bl false)
theorem se_or (ha : SEx X W a fa) (hb : SEx X W (.BoolOp .Or (b :: rest) pos) fb) : SEx X W (.BoolOp .Or (a :: b :: rest) pos) (eOr fa fb) := by
  refine ⟨pe_weak (pe_or ha.pe hb.pe) fun σ H Q ⟨G, ι, ρ, m, g, ev, p⟩ => ?_⟩
  rw [postE_G] at p
  have q := tTe_tE (step_t g ev p)
  refine tE_mono q fun x H1 ⟨k, e, G1, ι1, m1, x1, g1, ev1, p1⟩ => ⟨k, e, ?_⟩
  cases k with
  | false => rw [if_neg (by decide)] at p1 ⊢; exact ⟨G1, ι1, ρ, m1, g1, ev1, postE_G.mpr p1⟩
  | true => rw [if_pos rfl] at p1 ⊢; exact p1 _ G1 ι1 H1 (Ext.refl ..) g1 (.bl true)
theorem se_not (ha : SEx X W a fa) : SEx X W (.UnaryOp .Not a pos) (eNot fa) := by
  refine ⟨pe_weak (pe_not ha.pe) fun σ H Q ⟨G, ι, ρ, m, g, ev, p⟩ => ?_⟩
  rw [postE_G] at p
  have q := tTe_tE (step_t g ev p)
  exact tE_mono q fun x H1 ⟨k, e, G1, ι1, m1, x1, g1, ev1, p1⟩ => ⟨k, e, p1 _ G1 ι1 H1 (Ext.refl ..) g1 (.bl _)⟩
theorem se_if (hc : STe X W c fc) (ha : SEx X W a fa) (hb : SEx X W b fb) : SEx X W (.IfExp c a b pos) (eIf fc fa fb) := by
  refine ⟨pe_weak (pe_ifExp hc.pt ha.pe hb.pe) fun σ H Q ⟨G, ι, ρ, m, g, ev, p⟩ => ?_⟩
  rw [postE_G] at p
  refine tTe_mono (step_t g ev p) fun k H1 ⟨G1, ι1, m1, x1, g1, ev1, p1⟩ => ?_
  cases k with
  | true => rw [if_pos rfl] at p1 ⊢; exact ⟨G1, ι1, ρ, m1, g1, ev1, postE_G.mpr p1⟩
  | false => rw [if_neg (by decide)] at p1 ⊢; exact ⟨G1, ι1, ρ, m1, g1, ev1, postE_G.mpr p1⟩
/-- as tests -/
structure SW (X : Cx) (W : XK) (e : Expr) (f : SE) : Prop where
  pw : PW X e (tTe X W f)
theorem pw_weak {t t' : TT} (h : PW X e t) (w : ∀ σ H Q, t' σ H Q → t σ H Q) : PW X e t' := ⟨fun wh pins s σ H Q I q => h.run wh pins s σ H Q I (w _ _ _ q)⟩
theorem SW.st (h : SW X W e f) : STe X W e f := ⟨h.pw.pt⟩
theorem sw_and1 (h : STe X W a fa) : SW X W (.BoolOp .And [a] pos) fa := ⟨pw_and1 h.pt⟩
theorem sw_or1 (h : STe X W a fa) : SW X W (.BoolOp .Or [a] pos) fa := ⟨pw_or1 h.pt⟩
/-- a test's own end is a bool -/
theorem tTe_of {Q : Bool → Hp → Prop} (g : GR X.kx G ι m H) (ev : EnvR X.kx G ι ρ σ) (hb : ∀ x m', f ρ m = .ok x m' → ∃ b, x = .d (.bl b)) (p : PostG X (fun _ _ => isB) W G ι H (f ρ m) Q) : tTe X W f σ H Q := ⟨G, ι, ρ, m, g, ev, hb, p⟩
theorem sw_and (ha : STe X W a fa) (hb : SW X W (.BoolOp .And (b :: rest) pos) fb) : SW X W (.BoolOp .And (a :: b :: rest) pos) (eAnd fa fb) := by
  refine ⟨pw_weak (pw_and ha.pt hb.pw) fun σ H Q ⟨G, ι, ρ, m, g, ev, hB, p⟩ => ?_⟩
  have p' : PostG X (fun _ _ => isB) W G ι H ((fa ρ m).bind (tst fun c m1 => if c = true then fb ρ m1 else .ok (.d (.bl false)) m1)) Q := p
  have hB' : ∀ x m', ((fa ρ m).bind (tst fun c m1 => if c = true then fb ρ m1 else .ok (.d (.bl false)) m1)) = .ok x m' → ∃ b, x = .d (.bl b) := hB
  refine ⟨G, ι, ρ, m, g, ev, ?_, ?_⟩
  · obtain ⟨_, _, _, _, _, _, h1, _⟩ := step_t (k := fun c m1 => if c = true then fb ρ m1 else .ok (.d (.bl false)) m1) g ev p'
    intro x m' hx
    rw [hx] at p'
    match x, p' with
    | .d (.bl b), _ => exact ⟨b, rfl⟩
    | .d .non, p => exact p.elim
    | .d (.int _), p => exact p.elim
    | .d (.str _), p => exact p.elim
    | .d (.tup _), p => exact p.elim
    | .d (.dct _ _), p => exact p.elim
    | .d (.ins _ _ _), p => exact p.elim
    | .d (.lst _), p => exact p.elim
    | .obj _, p => exact p.elim
  · cases hr : fa ρ m with
    | no => rw [hr] at p'; exact p'
    | ex e m1 => rw [hr] at p'; exact p'
    | ok x m1 =>
      rw [hr] at p' hB'
      intro k G1 ι1 H1 x1 g1 r1
      cases (show x = .d (.bl k) from r1)
      cases k with
      | true => rw [if_pos rfl]; exact ⟨G1, ι1, ρ, m1, g1, ev.ext x1, hB', p'.ext x1⟩
      | false => rw [if_neg (by decide)]; exact p' _ G1 ι1 H1 x1 g1 rfl
theorem sw_or (ha : STe X W a fa) (hb : SW X W (.BoolOp .Or (b :: rest) pos) fb) : SW X W (.BoolOp .Or (a :: b :: rest) pos) (eOr fa fb) := by
  refine ⟨pw_weak (pw_or ha.pt hb.pw) fun σ H Q ⟨G, ι, ρ, m, g, ev, hB, p⟩ => ?_⟩
  have p' : PostG X (fun _ _ => isB) W G ι H ((fa ρ m).bind (tst fun c m1 => if c = true then .ok (.d (.bl true)) m1 else fb ρ m1)) Q := p
  have hB' : ∀ x m', ((fa ρ m).bind (tst fun c m1 => if c = true then .ok (.d (.bl true)) m1 else fb ρ m1)) = .ok x m' → ∃ b, x = .d (.bl b) := hB
  refine ⟨G, ι, ρ, m, g, ev, ?_, ?_⟩
  · intro x m' hx
    rw [hx] at p'
    match x, p' with
    | .d (.bl b), _ => exact ⟨b, rfl⟩
    | .d .non, p => exact p.elim
    | .d (.int _), p => exact p.elim
    | .d (.str _), p => exact p.elim
    | .d (.tup _), p => exact p.elim
    | .d (.dct _ _), p => exact p.elim
    | .d (.ins _ _ _), p => exact p.elim
    | .d (.lst _), p => exact p.elim
    | .obj _, p => exact p.elim
  · cases hr : fa ρ m with
    | no => rw [hr] at p'; exact p'
    | ex e m1 => rw [hr] at p'; exact p'
    | ok x m1 =>
      rw [hr] at p' hB'
      intro k G1 ι1 H1 x1 g1 r1
      cases (show x = .d (.bl k) from r1)
      cases k with
      | true => rw [if_pos rfl]; exact p' _ G1 ι1 H1 x1 g1 rfl
      | false => rw [if_neg (by decide)]; exact ⟨G1, ι1, ρ, m1, g1, ev.ext x1, hB', p'.ext x1⟩
theorem st_not (ha : STe X W a fa) : STe X W (.UnaryOp .Not a pos) (eNot fa) := by
  refine ⟨pt_weak (pt_not ha.pt) fun σ H Q ⟨G, ι, ρ, m, g, ev, hB, p⟩ => ?_⟩
  have p' : PostG X (fun _ _ => isB) W G ι H ((fa ρ m).bind (tst fun c m1 => .ok (.d (.bl (!c))) m1)) Q := p
  exact tTe_mono (step_t g ev p') fun k H1 ⟨G1, ι1, m1, x1, g1, ev1, p1⟩ => p1 _ G1 ι1 H1 (Ext.refl ..) g1 rfl

/-! ### arguments, calls -/
theorem sa_nil : SAr X W [] [] := ⟨pa_weak pa_nil fun σ H Q ⟨G, ι, ρ, m, g, ev, p⟩ => p [] G ι H (Ext.refl ..) g .nil⟩
theorem sa_cons (ha : SEx X W a fa) (hr : SAr X W es fs) (hs : starEach (a :: es) X.env = (false, eval a X.env) :: starEach es X.env := by rfl) : SAr X W (a :: es) (fa :: fs) := by
  refine ⟨pa_weak (pa_cons ha.pe hr.pa hs) fun σ H Q ⟨G, ι, ρ, m, g, ev, p⟩ => ?_⟩
  have p' : PostG X (fun G ι => Paired (RepV X.kx G ι)) W G ι H ((fa ρ m).bind fun x m => (eArgs fs ρ m).bind fun xs m => .ok (x :: xs) m) Q := p
  refine tE_mono (step_e g ev p') fun v H1 ⟨G1, ι1, m1, x, x1, g1, ev1, r1, _, p1⟩ => ?_
  refine tA_mono (step_a g1 ev1 p1) fun vs H2 ⟨G2, ι2, m2, xs, x2, g2, ev2, r2, _, p2⟩ => ?_
  exact p2 _ G2 ι2 H2 (Ext.refl ..) g2 (.cons (r1.ext x2) r2)

/-- what a function's call is worth: n arguments -/
def spF (K : Kx) (n : Nat) (F : Fn) : Sp := fun vs H Q E => ∃ G ι m ds, ds.length = n ∧ GR K G ι m H ∧ Paired (RepV K G ι) vs ds ∧ PostK K E G ι H (F ds m) Q
structure FnS (P : Program) (w : World) (K : Kx) (base : Heap) (k : Nat) (x : Str) (n : Nat) (F : Fn) : Prop where
  ex : ∃ f fd ps, K.mg x = some (.ref f) ∧ PySem.W.keepIn K.K (.ref f) = true ∧ Binds K.K fd ps [] ∧ FnOk P w K.K K.mg base (L2N.CX P w) k f fd ps (spF K n F)
theorem FnS.mono {P : Program} {w : World} {K : Kx} {base : Heap} {j k n : Nat} {x : Str} {F : Fn} (h : FnS P w K base j x n F) (hk : j ≤ k) : FnS P w K base k x n F := by
  obtain ⟨f, fd, ps, h1, h2, h3, h4⟩ := h.ex
  exact ⟨f, fd, ps, h1, h2, h3, h4.mono hk⟩
theorem paired_len {α β : Type} {R : α → β → Prop} {xs : List α} {ys : List β} (h : Paired R xs ys) : xs.length = ys.length := Paired.length h
/-- a wish that hangs on no slot -/
abbrev Tk (X : Cx) (W : XK) : Prop := L2N.Takes X (fun c d _ H => W c d H)
theorem se_call {x : Str} {k n : Nat} {F : Fn} (hF : FnS X.prog X.w X.kx X.base k x n F) (tk : Tk X W) (hr : Room k X.A) (ha : SAr X W (e :: es) fs) (hn : fs.length = n := by rfl) (hg : Gl X x := by rfl) (hdb : (x == ("__debug__" : Str)) = false := by decide +kernel)
    (he : starEach (e :: es) X.env = (false, eval e X.env) :: starEach es X.env := by rfl) (hpl : (backTo pos (starEach es X.env)).any (·.1) = false := by rfl) :
    SEx X W (.Call (.Name x p) (e :: es) [] pos) (eCall F fs) := by
  obtain ⟨f, fd, ps, h1, h2, h3, h4⟩ := hF.ex
  refine ⟨pe_weak (pe_call (E := W) h4 hr hg h1 h2 h3 .nil (L2N.passes_call tk fun _ _ _ _ h => h) ha.pa hdb he hpl) fun σ H Q ⟨G, ι, ρ, m, g, ev, p⟩ => ?_⟩
  rw [postE_G] at p
  have p' : PostG X (fun G ι => RepV X.kx G ι) W G ι H ((eArgs fs ρ m).bind fun xs m => F xs m) Q := p
  have len : ∀ (l : List SE) (ρ : Env) (m m' : Mem) (xs : List PV), eArgs l ρ m = .ok xs m' → xs.length = l.length := by
    intro l
    induction l with
    | nil => intro ρ m m' xs h; cases h; rfl
    | cons q r ih =>
      intro ρ m m' xs h
      unfold eArgs at h
      cases hq : q ρ m with
      | no => rw [hq] at h; cases h
      | ex _ _ => rw [hq] at h; cases h
      | ok x1 m1 =>
        rw [hq, Res.bind_ok] at h
        cases hr : eArgs r ρ m1 with
        | no => rw [hr] at h; cases h
        | ex _ _ => rw [hr] at h; cases h
        | ok x2 m2 =>
          rw [hr, Res.bind_ok] at h
          cases h
          simp [ih ρ m1 _ _ hr]
  refine tA_mono (step_a g ev p') fun vs H1 ⟨G1, ι1, m1, xs, x1, g1, ev1, r1, hx, p1⟩ => ?_
  show spF X.kx n F (vs ++ []) H1 Q W
  rw [List.append_nil]
  exact ⟨G1, ι1, m1, xs, by rw [← hn]; exact len fs ρ m _ xs hx, g1, r1, postE_G.mpr p1⟩

/-! ### displays -/
theorem datas_rep {xs : List PV} {ds : List D} {vs : List V} (h : datas m xs = some ds) (r : Paired (RepV X.kx G ι) vs xs) : RepAll X.kx G vs ds := by
  induction r generalizing ds with
  | nil => cases h; exact .nil
  | @cons v x vs xs r t ih =>
    cases x with
    | obj i => cases h
    | raw a => cases h
    | d x =>
      rw [datas_d] at h
      cases hd : datas m xs with
      | none => rw [hd] at h; cases h
      | some es =>
        rw [hd] at h
        cases h
        exact .cons r (ih hd)
theorem se_tup {k : Nat} (ha : SAr X W es fs) (hl : fs.length ≤ 1000 := by decide) : SEx X W (.Tuple es k pos) (eTup fs) := by
  refine ⟨pe_weak (pe_tup ha.pa) fun σ H Q ⟨G, ι, ρ, m, g, ev, p⟩ => ?_⟩
  rw [postE_G] at p
  have p' : PostG X (fun G ι => RepV X.kx G ι) W G ι H ((eArgs fs ρ m).bind fun xs m => match datas m xs with
    | some ds => .ok (.d (.tup ds)) m
    | none => .no) Q := p
  have len : ∀ (l : List SE) (ρ : Env) (m m' : Mem) (xs : List PV), eArgs l ρ m = .ok xs m' → xs.length = l.length := by
    intro l
    induction l with
    | nil => intro ρ m m' xs h; cases h; rfl
    | cons q r ih =>
      intro ρ m m' xs h
      unfold eArgs at h
      cases hq : q ρ m with
      | no => rw [hq] at h; cases h
      | ex _ _ => rw [hq] at h; cases h
      | ok x1 m1 =>
        rw [hq, Res.bind_ok] at h
        cases hr : eArgs r ρ m1 with
        | no => rw [hr] at h; cases h
        | ex _ _ => rw [hr] at h; cases h
        | ok x2 m2 =>
          rw [hr, Res.bind_ok] at h
          cases h
          simp [ih ρ m1 _ _ hr]
  refine tA_mono (step_a g ev p') fun vs H1 ⟨G1, ι1, m1, xs, x1, g1, ev1, r1, hx, p1⟩ => ?_
  cases hd : datas m1 xs with
  | none => rw [hd] at p1; exact p1.elim
  | some ds =>
    rw [hd] at p1
    refine ⟨?_, fun q hq => g1.layT hq (datas_rep hd r1) fun w G' H' e g r => p1 w G' ι1 H' e g r⟩
    have := paired_len r1
    have := len fs ρ m _ xs hx
    rw [sizeLine_eq]
    omega
/-- a new list -/
def tNE (X : Cx) (W : XK) (f : NE) : TE := fun σ H Q => ∃ G ι ρ m, GR X.kx G ι m H ∧ EnvR X.kx G ι ρ σ ∧ match f ρ m with
  | .ok xs m' => ∀ q vs G' ι' H', Ext G ι H G' ι' H' → GR X.kx G' ι' m' H' → H' q = none → RepAll X.kx G' vs xs → Q (.ref q) (upd H' q (.lst vs))
  | .ex e m' => ∀ c dx G' ι' H', Ext G ι H G' ι' H' → GR X.kx G' ι' m' H' → ExR X.kx G' H' e c dx → W c dx H'
  | .no => False
structure NEx (X : Cx) (W : XK) (e : Expr) (f : NE) : Prop where
  pe : PE X e (tNE X W f)
theorem NEx.fz {f : NE} (h : NEx X W e f) : SEx X W e (eFz f) := by
  refine ⟨pe_weak h.pe fun σ H Q ⟨G, ι, ρ, m, g, ev, p⟩ => ⟨G, ι, ρ, m, g, ev, ?_⟩⟩
  unfold eFz at p
  cases hr : f ρ m with
  | no => rw [hr] at p; exact p
  | ex e m1 => rw [hr] at p; exact p
  | ok xs m1 =>
    rw [hr] at p
    intro q vs G' ι' H' e g hq r
    exact g.layL hq r fun w G2 H2 e2 g2 r2 => p w G2 ι' H2 (e.trans e2) g2 r2
theorem GR.alloc {K : Kx} (g : GR K G ι m H) {q : Addr} (hq : H q = none) {vs : List V} {xs : List D} (r : RepAll K G vs xs) : GR K G (ι ++ [[q]]) (m ++ [.l1 xs]) (upd H q (.lst vs)) ∧ Ext G ι H G (ι ++ [[q]]) (upd H q (.lst vs)) := by
  obtain ⟨g1, g2⟩ := g.fresh hq
  refine ⟨⟨sub_updR g.sub g1, by simp [g.len], ?_, fun i l o hl ho => ?_⟩, Sub.refl G, ⟨_, rfl, fun a ha => (show a = q by simpa using ha) ▸ hq⟩, fun a u e _ => by rw [upd_ne (ne_of_none e hq)]; exact e, fun a e => ?_, fun a u e => .inl e⟩
  · rw [List.flatten_append, List.nodup_append]
    refine ⟨g.nd, by simp, fun x hx y hy e => ?_⟩
    have : y = q := by simpa using hy
    subst this; subst e
    exact g2 hx
  · by_cases hi : i < ι.length
    · rw [List.getElem?_append_left hi] at hl
      rw [List.getElem?_append_left (by rw [← g.len]; exact hi)] at ho
      refine (g.obj i l o hl ho).mono (Sub.refl G) fun a ha => ⟨id, ?_⟩
      rw [upd_ne]
      rintro rfl
      exact g2 (mem_io hl ha)
    · have hi' : i = ι.length := by
        have h1 := (List.getElem?_eq_some_iff.mp hl).1
        simp at h1
        omega
      subst hi'
      rw [List.getElem?_append_right (Nat.le_refl _)] at hl
      rw [g.len, List.getElem?_append_right (Nat.le_refl _)] at ho
      simp at hl ho
      subst hl ho
      exact ⟨q, vs, rfl, g1, upd_same, r⟩
  · by_cases h : a = q
    · subst h; exact hq
    · rw [upd_ne h] at e; exact e
theorem NEx.nw {f : NE} (h : NEx X W e f) : SEx X W e (eNw f) := by
  refine ⟨pe_weak h.pe fun σ H Q ⟨G, ι, ρ, m, g, ev, p⟩ => ⟨G, ι, ρ, m, g, ev, ?_⟩⟩
  unfold eNw at p
  cases hr : f ρ m with
  | no => rw [hr] at p; exact p
  | ex e m1 => rw [hr] at p; exact p
  | ok xs m1 =>
    rw [hr] at p
    intro q vs G' ι' H' e g hq r
    obtain ⟨g2, e2⟩ := g.alloc hq r
    refine p _ G' _ _ (e.trans e2) g2 ⟨q, [], ?_, rfl⟩
    rw [← g.len, List.getElem?_append_right (Nat.le_refl _)]
    simp
theorem ne_lst (ha : SAr X W es fs) (hl : fs.length ≤ 1000 := by decide) : NEx X W (.List es pos) (nLst fs) := by
  refine ⟨pe_weak (pe_lst ha.pa) fun σ H Q ⟨G, ι, ρ, m, g, ev, p⟩ => ⟨G, ι, ρ, m, g, ev, ?_⟩⟩
  have len : ∀ (l : List SE) (ρ : Env) (m m' : Mem) (xs : List PV), eArgs l ρ m = .ok xs m' → xs.length = l.length := by
    intro l
    induction l with
    | nil => intro ρ m m' xs h; cases h; rfl
    | cons q r ih =>
      intro ρ m m' xs h
      unfold eArgs at h
      cases hq : q ρ m with
      | no => rw [hq] at h; cases h
      | ex _ _ => rw [hq] at h; cases h
      | ok x1 m1 =>
        rw [hq, Res.bind_ok] at h
        cases hr : eArgs r ρ m1 with
        | no => rw [hr] at h; cases h
        | ex _ _ => rw [hr] at h; cases h
        | ok x2 m2 =>
          rw [hr, Res.bind_ok] at h
          cases h
          simp [ih ρ m1 _ _ hr]
  unfold nLst at p
  cases hr : eArgs fs ρ m with
  | no => rw [hr] at p; exact p
  | ex e m1 => rw [hr] at p; exact p
  | ok xs m1 =>
    rw [hr] at p
    intro vs G' ι' H' e g r
    have hlen : vs.length ≤ sizeLine := by
      have := paired_len r
      have := len fs ρ m _ xs hr
      rw [sizeLine_eq]
      omega
    rw [Res.bind_ok] at p
    cases hd : datas m1 xs with
    | none => rw [hd] at p; exact p.elim
    | some ds =>
      rw [hd] at p
      exact ⟨hlen, fun q hq => p q vs G' ι' H' e g hq (datas_rep hd r)⟩
end
end DI
namespace DI
open PySem PySem.Spec PyProof.Rows L2
section
variable {X : Cx} {W : XK} {a b c e : Expr} {es rest : List Expr} {fa fb fc f : SE} {fs : List SE} {pos p : Pos} {G H : Hp} {ι : Io} {ρ : Env} {m : Mem} {σ : L2.St}
/-! ### a place -/
theorem atD_get {α : Type} {xs : List α} {i : Int} {d : α} (h : atD xs i = some d) : ∃ j, ixN xs.length i = some j ∧ xs[j]? = some d := by
  unfold atD at h
  unfold ixN
  by_cases h0 : 0 ≤ i
  · rw [if_pos h0] at h ⊢
    have hlt := (List.getElem?_eq_some_iff.mp h).1
    rw [if_pos (by omega)]
    exact ⟨_, rfl, h⟩
  · rw [if_neg h0] at h ⊢
    by_cases h1 : -(xs.length : Int) ≤ i
    · rw [if_pos h1] at h ⊢
      exact ⟨_, rfl, h⟩
    · rw [if_neg h1] at h; cases h
theorem atI_of {vs : List V} {ds : List D} {K : Kx} (r : RepAll K G vs ds) {i : Int} {d : D} (h : atD ds i = some d) : ∃ v, atI vs i = some v ∧ Rep K G v d := by
  obtain ⟨j, h1, h2⟩ := atD_get h
  obtain ⟨v, h3, h4⟩ := r.get h2
  refine ⟨v, ?_, h4⟩
  unfold atI
  rw [r.length, h1]
  exact h3
theorem ds_ix : Op2 X dIx (rIx X.K) := by
  intro G ι m H v u x y d Q g rx ry e fin
  cases y with
  | int i =>
    cases (show u = .int i from ry)
    cases x with
    | lst xs =>
      obtain ⟨a, vs, rfl, h, r⟩ := rx
      obtain ⟨w, h1, h2⟩ := atI_of r (show atD xs i = some d from e)
      exact .inl ⟨a, vs, i, w, rfl, rfl, h, h1, fin.here g h2⟩
    | tup xs =>
      obtain ⟨a, vs, rfl, h, r⟩ := rx
      obtain ⟨w, h1, h2⟩ := atI_of r (show atD xs i = some d from e)
      exact .inr (.inl ⟨a, vs, i, w, rfl, rfl, g.sub.sqt h, h1, fin.here g h2⟩)
    | str s =>
      cases (show v = .str (txt s) from rx)
      obtain ⟨hl, e⟩ := (show s.length ≤ lineL ∧ (atD s i).map (fun c => D.str [c]) = some d from by
        have e' : (if s.length ≤ lineL then (atD s i).map fun c => D.str [c] else none) = some d := e
        split at e'
        · exact ⟨by assumption, e'⟩
        · cases e')
      cases hc : atD s i with
      | none => rw [hc] at e; cases e
      | some c =>
        rw [hc] at e
        cases e
        obtain ⟨j, h1, h2⟩ := atD_get hc
        refine .inr (.inr ⟨txt s, i, c.toNat, rfl, rfl, by rw [txt_length, ← lineL_eq]; exact hl, ?_, fin.here g (.str [c])⟩)
        unfold atI
        have e1 : (txt s).cps.toList = s.map Char.toNat := by simp [txt]
        rw [e1, List.length_map, h1]
        show (s.map Char.toNat)[j]? = _
        rw [List.getElem?_map, h2]
        rfl
    | _ => cases e
  | _ => cases x <;> cases e
theorem se_ix (ha : SEx X W a fa) (hb : SEx X W b fb) (hs : PlainIx b := by exact fun _ _ => rfl) : SEx X W (.Subscript a b pos) (e2 dIx fa fb) :=
  ⟨pe_weak (pe_ix ix_seq ha.pe hb.pe hs) fun σ H Q h => tE_op2 ds_ix h⟩
/-! ### slices -/
def tOE (X : Cx) (W : XK) (f : OE) : TO := fun σ H Q => ∃ G ι ρ m, GR X.kx G ι m H ∧ EnvR X.kx G ι ρ σ ∧ PostG X (fun _ _ (x : Option Int) y => x = y) W G ι H (f ρ m) Q
structure SOp (X : Cx) (W : XK) (e : Option Expr) (f : OE) : Prop where
  po : PO X e (tOE X W f)
theorem po_weak {e : Option Expr} {t t' : TO} (h : PO X e t) (w : ∀ σ H Q, t' σ H Q → t σ H Q) : PO X e t' := ⟨fun pins s σ H Q I q => h.run pins s σ H Q I (w _ _ _ q)⟩
theorem so_none : SOp X W none oN := ⟨po_weak po_none fun σ H Q ⟨G, ι, ρ, m, g, ev, p⟩ => p none G ι H (Ext.refl ..) g rfl⟩
theorem so_some (h : SEx X W a fa) : SOp X W (some a) (oS fa) := by
  refine ⟨po_weak (po_some h.pe) fun σ H Q ⟨G, ι, ρ, m, g, ev, p⟩ => ?_⟩
  have p' : PostG X (fun _ _ (x : Option Int) y => x = y) W G ι H ((fa ρ m).bind fun x m => match x with
    | .d (.int i) => .ok (some i) m
    | _ => .no) Q := p
  refine tE_mono (step_e g ev p') fun v H1 ⟨G1, ι1, m1, x, x1, g1, ev1, r1, _, p1⟩ => ?_
  match x, p1, r1 with
  | .d (.int i), p1, r1 => cases r1; exact ⟨i, rfl, p1 _ G1 ι1 H1 (Ext.refl ..) g1 rfl⟩
  | .d .non, p1, _ => exact p1.elim
  | .d (.bl _), p1, _ => exact p1.elim
  | .d (.str _), p1, _ => exact p1.elim
  | .d (.tup _), p1, _ => exact p1.elim
  | .d (.dct _ _), p1, _ => exact p1.elim
  | .d (.ins _ _ _), p1, _ => exact p1.elim
  | .d (.lst _), p1, _ => exact p1.elim
  | .obj _, p1, _ => exact p1.elim
theorem step_o {γ δ : Type} {R' : Hp → Io → δ → γ → Prop} {Q : δ → Hp → Prop} {fo : OE} {k : Option Int → Mem → Res γ} (g : GR X.kx G ι m H) (ev : EnvR X.kx G ι ρ σ) (p : PostG X R' W G ι H ((fo ρ m).bind k) Q) :
    tOE X W fo σ H fun v H' => ∃ G' ι' m', Ext G ι H G' ι' H' ∧ GR X.kx G' ι' m' H' ∧ EnvR X.kx G' ι' ρ σ ∧ PostG X R' W G' ι' H' (k v m') Q := by
  refine ⟨G, ι, ρ, m, g, ev, ?_⟩
  have q := postG_bind (R := fun _ _ (x : Option Int) y => x = y) p
  cases hr : fo ρ m with
  | no => rw [hr] at q; exact q
  | ex e m1 => rw [hr] at q; exact q
  | ok x m1 =>
    rw [hr] at q
    intro v G' ι' H' e g r
    obtain ⟨G2, ι2, m2, y, e2, g2, r2, he, p2⟩ := q v G' ι' H' e g r
    cases (show v = y from r2)
    exact ⟨G2, ι2, m2, e2, g2, ev.ext e2, p2⟩
theorem tOE_mono {fo : OE} {Q Q' : Option Int → Hp → Prop} (h : tOE X W fo σ H Q) (q : ∀ v H', Q v H' → Q' v H') : tOE X W fo σ H Q' := by
  obtain ⟨G, ι, ρ, m, g, ev, p⟩ := h
  refine ⟨G, ι, ρ, m, g, ev, ?_⟩
  cases hr : fo ρ m with
  | no => rw [hr] at p; exact p
  | ex e m1 => rw [hr] at p; exact p
  | ok x m1 => rw [hr] at p; exact fun v G' ι' H' e g r => q _ _ (p v G' ι' H' e g r)
def rSlD (K : PySem.W.Frag) : V → Option Int → Option Int → Hp → VK → Prop := fun x lo hi H Q => rSlL K x lo hi H Q ∨ rSlA K x lo hi H Q ∨ rSlS x lo hi H Q
theorem sl_all : SlR X (rSlD X.K) := sl_list.or (sl_tupA.or sl_str)
theorem RepAll.cut {K : Kx} {vs : List V} {ds : List D} (r : RepAll K G vs ds) (lo hi : Option Int) : RepAll K G (cutV vs lo hi) (cutD ds lo hi) := by
  unfold cutV cutD
  rw [show HT.sIx vs.length 0 lo = sixD ds.length 0 lo by rw [r.length]; cases lo <;> rfl, show HT.sIx vs.length vs.length hi = sixD ds.length ds.length hi by rw [r.length]; cases hi <;> rfl]
  exact (r.drop _).take _
theorem cutS_txt (s : List Char) (lo hi : Option Int) : cutS (txt s) lo hi = txt (cutD s lo hi) := by
  unfold cutS cutD
  rw [show (txt s).cps.toList = s.map Char.toNat by simp [txt], txt_length]
  rw [show HT.sIx s.length 0 lo = sixD s.length 0 lo by cases lo <;> rfl, show HT.sIx s.length s.length hi = sixD s.length s.length hi by cases hi <;> rfl]
  unfold txt
  rw [List.map_take, List.map_drop]
theorem cutD_whole {α : Type} (xs : List α) {lo hi : Option Int} (h : sixD xs.length 0 lo = 0 ∧ sixD xs.length xs.length hi = xs.length) : cutD xs lo hi = xs := by
  unfold cutD
  rw [h.1, h.2]
  simp
theorem ds_slice {v : V} {x d : D} {lo hi : Option Int} {Q : VK} (g : GR X.kx G ι m H) (rx : RepW X.kx G H v x) (e : dSl x lo hi = some d) (fin : Fin X.kx G ι m H Q d) : rSlD X.K v lo hi H Q := by
  cases x with
  | lst xs =>
    obtain ⟨a, vs, rfl, h, r⟩ := rx
    cases e
    exact .inl ⟨a, vs, rfl, h, fun q hq => g.layL hq (r.cut lo hi) fin⟩
  | tup xs =>
    obtain ⟨a, vs, rfl, h, r⟩ := rx
    cases e
    refine .inr (.inl ⟨a, vs, rfl, g.sub.sqt h, fun hw => ?_, fun _ q hq => g.layT hq (r.cut lo hi) fin⟩)
    rw [r.length] at hw
    rw [cutD_whole xs (by cases lo <;> cases hi <;> exact hw)] at fin
    exact fin.here g (.tup h r)
  | str s =>
    cases (show v = .str (txt s) from rx)
    obtain ⟨h, e⟩ := ite_some e
    cases e
    refine .inr (.inr ⟨txt s, rfl, by rw [txt_length, ← lineL_eq]; exact h, ?_⟩)
    rw [cutS_txt]
    exact fin.here g (.str _)
  | _ => cases e
theorem se_slice {lo hi : Option Expr} {fl fh : OE} {p2 : Pos} (ha : SEx X W a fa) (hl : SOp X W lo fl) (hh : SOp X W hi fh) : SEx X W (.Subscript a (.Slice lo hi none p2) pos) (eSl dSl fa fl fh) := by
  refine ⟨pe_weak (pe_slice sl_all ha.pe hl.po hh.po) fun σ H Q ⟨G, ι, ρ, m, g, ev, p⟩ => ?_⟩
  rw [postE_G] at p
  refine tE_mono (step_e g ev p) fun v H1 ⟨G1, ι1, m1, x, x1, g1, ev1, r1, _, p1⟩ => ?_
  refine tOE_mono (step_o g1 ev1 p1) fun l H2 ⟨G2, ι2, m2, x2, g2, ev2, p2⟩ => ?_
  refine tOE_mono (step_o g2 ev2 p2) fun u H3 ⟨G3, ι3, m3, x3, g3, ev3, p3⟩ => ?_
  rw [← postE_G] at p3
  obtain ⟨d, e, fin⟩ := post_ofO (H := H3) p3
  cases hx : vw m3 x with
  | none => rw [hx] at e; cases e
  | some dx =>
    rw [hx] at e
    exact ds_slice g3 (((r1.ext x2).ext x3).view g3 hx) e fin
/-! ### built-ins of one place -/
/-- f(x), f a built-in function or class -/
def Bi1 (X : Cx) (f : D → Option D) (r : List V → Hp → VK → Prop) : Prop := ∀ {G ι m H v x d} {Q : VK}, GR X.kx G ι m H → RepW X.kx G H v x → f x = some d → Fin X.kx G ι m H Q d → r [v] H Q
theorem tA_one {fk : PV → Mem → Res PV} {Q : VK} {k : List V → Hp → Prop} (h : tE X W (fun ρ m => (fa ρ m).bind fk) σ H Q) (hk : ∀ v H', (∃ G ι ρ m x, GR X.kx G ι m H' ∧ EnvR X.kx G ι ρ σ ∧ RepV X.kx G ι v x ∧ PostE X W G ι H' (fk x m) Q) → k [v] H') :
    tCons (tE X W fa) tNil σ H k := by
  obtain ⟨G, ι, ρ, m, g, ev, p⟩ := h
  rw [postE_G] at p
  refine tE_mono (step_e g ev p) fun v H1 ⟨G1, ι1, m1, x, x1, g1, ev1, r1, _, p1⟩ => ?_
  exact hk v H1 ⟨G1, ι1, ρ, m1, x, g1, ev1, r1, postE_G.mpr p1⟩
theorem tE_bi1 {f : D → Option D} {r : List V → Hp → VK → Prop} (hf : Bi1 X f r) {Q : VK} (h : tE X W (e1 f fa) σ H Q) : tCB r (tCons (tE X W fa) tNil) σ H Q := by
  refine tA_one (fk := fun x m => ofO ((vw m x).bind f) m) h fun v H1 ⟨G1, ι1, ρ1, m1, x, g1, ev1, r1, p1⟩ => ?_
  obtain ⟨d, e, fin⟩ := post_ofO (H := H1) p1
  cases hx : vw m1 x with
  | none => rw [hx] at e; cases e
  | some dx =>
    rw [hx] at e
    exact hf g1 (r1.view g1 hx) e fin
theorem se_bf {x : Str} {id : String} {f : D → Option D} {r : List V → Hp → VK → Prop} (hc : CallR X (.builtin id) r) (hf : Bi1 X f r) (hm : X.mg x = none) (ha : SEx X W a fa) (hv : bootBuiltins x = some (.builtin id) := by decide +kernel) (hg : Gl X x := by rfl) (hn : x ≠ "__name__" := by decide +kernel)
    (hdb : (x == ("__debug__" : Str)) = false := by decide +kernel) (he : starEach (a :: []) X.env = (false, eval a X.env) :: starEach [] X.env := by rfl) : SEx X W (.Call (.Name x p) [a] [] pos) (e1 f fa) :=
  ⟨pe_weak (pe_callB hc hg hm hv (pa_cons ha.pe pa_nil he) hn hdb he (by rfl)) fun σ H Q h => tE_bi1 hf h⟩
theorem se_bt {x : Str} {T : String} {f : D → Option D} {r : List V → Hp → VK → Prop} (hc : CallR X (.type T) r) (hf : Bi1 X f r) (hm : X.mg x = none) (ha : SEx X W a fa) (hv : bootBuiltins x = some (.type T) := by decide +kernel) (hg : Gl X x := by rfl) (hn : x ≠ "__name__" := by decide +kernel)
    (hdb : (x == ("__debug__" : Str)) = false := by decide +kernel) (he : starEach (a :: []) X.env = (false, eval a X.env) :: starEach [] X.env := by rfl) : SEx X W (.Call (.Name x p) [a] [] pos) (e1 f fa) :=
  ⟨pe_weak (pe_callTy hc hg hm hv (pa_cons ha.pe pa_nil he) hn hdb he (by rfl)) fun σ H Q h => tE_bi1 hf h⟩
theorem b_len : Bi1 X dLen (fun xs H Q => ∃ x n, xs = [x] ∧ LenV X.K x H n ∧ Q (.int n) H) := by
  intro G ι m H v x d Q g rx e fin
  cases x with
  | str s =>
    cases (show v = .str (txt s) from rx)
    obtain ⟨h, e⟩ := ite_some e
    cases e
    refine ⟨_, s.length, rfl, ⟨by rw [txt_length, ← lineL_eq]; exact h, by rw [txt_length]⟩, fin.here g (.int _)⟩
  | lst xs =>
    obtain ⟨a, vs, rfl, h, r⟩ := rx
    cases e
    exact ⟨_, xs.length, rfl, .inl ⟨vs, h, r.length.symm⟩, fin.here g (.int _)⟩
  | tup xs =>
    obtain ⟨a, vs, rfl, h, r⟩ := rx
    cases e
    exact ⟨_, xs.length, rfl, .inr ⟨vs, g.sub.sqt h, r.length.symm⟩, fin.here g (.int _)⟩
  | _ => cases e
theorem bls_rep {K : Kx} : ∀ {vs : List V} {ds : List D} {bs : List Bool}, RepAll K G vs ds → bls ds = some bs → vs = bs.map V.bl
  | _, _, _, .nil, h => by cases h; rfl
  | _, _, _, .cons r t, h => by
    cases r with
    | bl b =>
      unfold bls at h
      cases hb : bls _ with
      | none => rw [hb] at h; cases h
      | some cs => rw [hb] at h; cases h; rw [bls_rep t hb]; rfl
    | _ => cases h
theorem b_all : Bi1 X dAll (rAll X.K) := by
  intro G ι m H v x d Q g rx e fin
  cases x with
  | lst xs =>
    obtain ⟨a, vs, rfl, h, r⟩ := rx
    unfold dAll at e
    dsimp only at e
    cases hb : bls xs with
    | none => rw [hb] at e; cases e
    | some bs =>
      rw [hb] at e
      cases e
      refine ⟨a, bs, rfl, ?_, fin.here g (.bl _)⟩
      rw [← bls_rep r hb]; exact h
  | _ => cases e
theorem b_any : Bi1 X dAny (rAny X.K) := by
  intro G ι m H v x d Q g rx e fin
  cases x with
  | lst xs =>
    obtain ⟨a, vs, rfl, h, r⟩ := rx
    unfold dAny at e
    dsimp only at e
    cases hb : bls xs with
    | none => rw [hb] at e; cases e
    | some bs =>
      rw [hb] at e
      cases e
      refine ⟨a, bs, rfl, ?_, fin.here g (.bl _)⟩
      rw [← bls_rep r hb]; exact h
  | _ => cases e
theorem b_int : Bi1 X dInt (fun xs H Q => (∃ i, xs = [.int i] ∧ Q (.int i) H) ∨ ∃ k, xs = [.bl k] ∧ Q (.int (if k then 1 else 0)) H) := by
  intro G ι m H v x d Q g rx e fin
  cases x with
  | int i => cases (show v = .int i from rx); cases e; exact .inl ⟨i, rfl, fin.here g (.int _)⟩
  | bl k => cases (show v = .bl k from rx); cases e; exact .inr ⟨k, rfl, fin.here g (.int _)⟩
  | _ => cases e
theorem b_tup : Bi1 X dTupOf (fun xs H Q => ∃ p ys, xs = [.ref p] ∧ ((SqL X.K H p ys ∧ ∀ l, H l = none → Q (.ref l) (upd H l (.tup ys))) ∨ (SqT X.K H p ys ∧ Q (.ref p) H))) := by
  intro G ι m H v x d Q g rx e fin
  cases x with
  | lst xs =>
    obtain ⟨a, vs, rfl, h, r⟩ := rx
    cases e
    exact ⟨a, vs, rfl, .inl ⟨h, fun q hq => g.layT hq r fin⟩⟩
  | tup xs =>
    obtain ⟨a, vs, rfl, h, r⟩ := rx
    cases e
    exact ⟨a, vs, rfl, .inr ⟨g.sub.sqt h, fin.here g (.tup h r)⟩⟩
  | _ => cases e
/-! ### isinstance -/
def tyD : D → String
  | .non => "NoneType" | .bl _ => "bool" | .int _ => "int" | .str _ => "str" | .lst _ => "list" | .tup _ => "tuple" | .dct _ _ => "" | .ins _ _ _ => ""
def dIsi (T : String) (x : D) : Option D := if tyD x = "" then none else (kitB (tyD x) T).map D.bl
theorem RepW.ty {v : V} {x : D} (g : GR X.kx G ι m H) (r : RepW X.kx G H v x) (hx : ¬ tyD x = "") : TyX X.K H v (.type (tyD x)) := by
  cases x with
  | non => cases (show v = .non from r); exact .base .non
  | bl b => cases (show v = .bl b from r); exact .base (.bl b)
  | int b => cases (show v = .int b from r); exact .base (.int b)
  | str b => cases (show v = .str (txt b) from r); exact .base (.str _)
  | lst b =>
    obtain ⟨a, vs, rfl, h, _⟩ := r
    rcases h with (h | ⟨o, h⟩) | ⟨o, _, _, h, c, _⟩
    · exact .base (.lst h)
    · exact .base (.frz h)
    · exact .kList h c
  | tup b =>
    obtain ⟨a, vs, rfl, h, _⟩ := r
    rcases g.sub.sqt h with (h | ⟨o, h⟩) | ⟨o, _, _, h, c, _⟩
    · exact .base (.tup h)
    · exact .fTuple h
    · exact .kTuple h c
  | dct _ _ => exact absurd rfl hx
  | ins _ _ _ => exact absurd rfl hx
theorem se_isi {x t : Str} {T : String} {pt : Pos} (hm : X.mg "isinstance" = none) (hmt : X.mg t = none) (ha : SEx X W a fa) (hv : bootBuiltins t = some (.type T) := by decide +kernel) (hg : Gl X "isinstance" := by rfl) (hgt : Gl X t := by rfl) (hn : t ≠ "__name__" := by decide +kernel)
    (hdb : (t == ("__debug__" : Str)) = false := by decide +kernel) (he : starEach (a :: [.Name t pt]) X.env = (false, eval a X.env) :: starEach [.Name t pt] X.env := by rfl) : SEx X W (.Call (.Name "isinstance" p) [a, .Name t pt] [] pos) (e1 (dIsi T) fa) := by
  have pT : PE X (.Name t pt) (tC (.ty T)) := pe_bltn hgt hmt hv (rfl : RelV (.ty T) (.type T)) hn hdb
  refine ⟨pe_weak (pe_callB call_isi hg hm (by decide +kernel) (pa_cons ha.pe (pa_cons pT pa_nil (by rfl)) he) (by decide +kernel) (by decide +kernel) he (by rfl)) fun σ H Q ⟨G, ι, ρ, m, g, ev, p⟩ => ?_⟩
  rw [postE_G] at p
  refine tE_mono (step_e g ev p) fun v H1 ⟨G1, ι1, m1, x, x1, g1, ev1, r1, _, p1⟩ => ?_
  rw [← postE_G] at p1
  obtain ⟨d, e, fin⟩ := post_ofO (H := H1) p1
  cases hx : vw m1 x with
  | none => rw [hx] at e; cases e
  | some dx =>
    rw [hx] at e
    have e0 : (if tyD dx = "" then none else (kitB (tyD dx) T).map D.bl) = some d := e
    have hne : ¬ tyD dx = "" := fun z => by rw [if_pos z] at e0; cases e0
    rw [if_neg hne] at e0
    have e' : (kitB (tyD dx) T).map D.bl = some d := e0
    cases hk : kitB (tyD dx) T with
    | none => rw [hk] at e'; cases e'
    | some k =>
      rw [hk] at e'
      cases e'
      exact ⟨v, .ty T, .type (tyD dx), .type T, k, rfl, .ty T, (r1.view g1 hx).ty g1 hne, kit_ty hk, fin.here g1 (.bl _)⟩
/-! ### join, list(x) -/
theorem strsD_rep {K : Kx} : ∀ {vs : List V} {ds : List D} {ss : List (List Char)}, RepAll K G vs ds → strsD ds = some ss → vs = (ss.map txt).map V.str
  | _, _, _, .nil, h => by cases h; rfl
  | _, _, _, .cons r t, h => by
    cases r with
    | str s =>
      unfold strsD at h
      cases hb : strsD _ with
      | none => rw [hb] at h; cases h
      | some cs => rw [hb] at h; cases h; rw [strsD_rep t hb]; rfl
    | _ => cases h
theorem join_txt (s : List Char) : ∀ ys : List (List Char), Str.join (txt s) (ys.map txt) = txt (joinC s ys)
  | [] => rfl
  | [x] => rfl
  | x :: y :: r => by
    show txt x ++ txt s ++ Str.join (txt s) ((y :: r).map txt) = txt (x ++ s ++ joinC s (y :: r))
    rw [join_txt s (y :: r), txt_append, txt_append]
def rJn (K : PySem.W.Frag) : R2 := fun x y H Q => ∃ a p, ∃ ys : List Str, x = .str a ∧ y = .ref p ∧ (SqL K H p (ys.map V.str) ∨ SqT K H p (ys.map V.str)) ∧ (ys.map (·.length)).sum + ys.length * a.length ≤ 16777216 ∧ Q (.str (Txt.join a ys)) H
theorem map_len (ss : List (List Char)) : (ss.map txt).map (·.length) = ss.map List.length := by
  rw [List.map_map]
  exact List.map_congr_left fun s _ => txt_length s
theorem ds_join : Op2 X dJoin (rJn X.K) := by
  intro G ι m H v u x y d Q g rx ry e fin
  cases x with
  | str s =>
    cases (show v = .str (txt s) from rx)
    have go : ∀ (ys : List D) (p : Addr) (vs : List V), u = .ref p → (SqL X.K H p vs ∨ SqT X.K H p vs) → RepAll X.kx G vs ys → ((strsD ys).bind fun ys => if (ys.map List.length).sum + ys.length * s.length ≤ lineL then some (D.str (joinC s ys)) else none) = some d → rJn X.K (.str (txt s)) u H Q := by
      intro ys p vs eu hs r e
      cases hb : strsD ys with
      | none => rw [hb] at e; cases e
      | some ss =>
        rw [hb] at e
        obtain ⟨h, e⟩ := ite_some e
        cases e
        refine ⟨txt s, p, ss.map txt, rfl, eu, ?_, ?_, ?_⟩
        · rw [← strsD_rep r hb]; exact hs
        · rw [map_len, List.length_map, txt_length]; exact h
        · show Q (.str (Txt.join _ _)) H; unfold Txt.join
          rw [PySem.StrLaws.glued_eq_join, join_txt]
          exact fin.here g (.str _)
    cases y with
    | lst ys =>
      obtain ⟨a, vs, rfl, h, r⟩ := ry
      exact go ys a vs rfl (.inl h) r e
    | tup ys =>
      obtain ⟨a, vs, rfl, h, r⟩ := ry
      exact go ys a vs rfl (.inr (g.sub.sqt h)) r e
    | _ => cases e
  | _ => cases y <;> cases e
theorem tE_str {k : List Char → Mem → Res PV} {Q : VK} (g : GR X.kx G ι m H) (ev : EnvR X.kx G ι ρ σ) (p : PostG X (fun G ι => RepV X.kx G ι) W G ι H ((fa ρ m).bind fun x m => match x with
    | .d (.str s) => k s m
    | _ => .no) Q) : tE X W fa σ H fun v H' => ∃ G' ι' m' s, Ext G ι H G' ι' H' ∧ GR X.kx G' ι' m' H' ∧ EnvR X.kx G' ι' ρ σ ∧ v = .str (txt s) ∧ PostG X (fun G ι => RepV X.kx G ι) W G' ι' H' (k s m') Q := by
  refine tE_mono (step_e g ev p) fun v H1 ⟨G1, ι1, m1, x, x1, g1, ev1, r1, _, p1⟩ => ?_
  match x, p1, r1 with
  | .d (.str s), p1, r1 => cases r1; exact ⟨G1, ι1, m1, s, x1, g1, ev1, rfl, p1⟩
  | .d .non, p1, _ => exact p1.elim
  | .d (.bl _), p1, _ => exact p1.elim
  | .d (.int _), p1, _ => exact p1.elim
  | .d (.tup _), p1, _ => exact p1.elim
  | .d (.dct _ _), p1, _ => exact p1.elim
  | .d (.ins _ _ _), p1, _ => exact p1.elim
  | .d (.lst _), p1, _ => exact p1.elim
  | .obj _, p1, _ => exact p1.elim
theorem se_join {apos : Pos} (ha : SEx X W a fa) (hb : SEx X W b fb) (hs : starEach [b] X.env = [(false, eval b X.env)] := by rfl) (hbase : attributeBase a "join" X.env (eval a X.env) = eval a X.env := by rfl) (hline : (apos.endLine == pos.line) = true := by rfl) :
    SEx X W (.Call (.Attribute a "join" apos) [b] [] pos) (e2s dJoin fa fb) := by
  refine ⟨pe_weak (pe_join ha.pe hb.pe hs hbase hline) fun σ H Q ⟨G, ι, ρ, m, g, ev, p⟩ => ?_⟩
  rw [postE_G] at p
  refine tE_mono (tE_str g ev p) fun v H1 ⟨G1, ι1, m1, s, x1, g1, ev1, ex, p1⟩ => ?_
  subst ex
  refine ⟨⟨_, rfl⟩, tE_mono (step_e g1 ev1 p1) fun u H2 ⟨G2, ι2, m2, y, x2, g2, ev2, r2, _, p2⟩ => ?_⟩
  rw [← postE_G] at p2
  obtain ⟨d, e, fin⟩ := post_ofO (H := H2) p2
  cases hy : vw m2 y with
  | none => rw [hy] at e; cases e
  | some dy =>
    rw [hy] at e
    obtain ⟨a', p', ys, h1, h2, h3⟩ := ds_join (X := X) g2 (show RepW X.kx G2 H2 (.str (txt s)) (.str s) from rfl) (r2.view g2 hy) e fin
    exact ⟨a', p', ys, h1, by rw [h2], h3⟩
/-- list(x) -/
theorem ne_listOf (hm : X.mg "list" = none) (ha : SEx X W a fa) (hg : Gl X "list" := by rfl) (he : starEach (a :: []) X.env = (false, eval a X.env) :: starEach [] X.env := by rfl) : NEx X W (.Call (.Name "list" p) [a] [] pos) (nSq fa) := by
  refine ⟨pe_weak (pe_callTy call_list_of hg hm (by decide +kernel) (pa_cons ha.pe pa_nil he) (by decide +kernel) (by decide +kernel) he (by rfl)) fun σ H Q ⟨G, ι, ρ, m, g, ev, p⟩ => ?_⟩
  refine ⟨G, ι, ρ, m, g, ev, ?_⟩
  unfold nSq at p
  cases hr : fa ρ m with
  | no => rw [hr] at p; exact p
  | ex e m1 => rw [hr] at p; exact p
  | ok x m1 =>
    rw [hr] at p
    intro v G' ι' H' e g r
    rw [Res.bind_ok] at p
    cases hx : vw m1 x with
    | none => rw [hx] at p; exact p.elim
    | some d =>
      rw [hx] at p
      cases d with
      | lst xs =>
        obtain ⟨a, vs, rfl, h, q⟩ := r.view g hx
        exact ⟨a, vs, rfl, .inl h, fun q' hq => p q' vs G' ι' H' e g hq q⟩
      | tup xs =>
        obtain ⟨a, vs, rfl, h, q⟩ := r.view g hx
        exact ⟨a, vs, rfl, .inr (g.sub.sqt h), fun q' hq => p q' vs G' ι' H' e g hq q⟩
      | _ => exact p.elim
end
end DI
namespace DI
open PySem PySem.Spec PyProof.Rows L2
section
variable {X : Cx} {W : XK} {a b c e : Expr} {es rest : List Expr} {fa fb fc f : SE} {fs : List SE} {pos p : Pos} {G H : Hp} {ι : Io} {ρ : Env} {m : Mem} {σ : L2.St}
/-! ### targets -/
def OffEq (is : List Nat) (σ σ' : L2.St) : Prop := σ'.length = σ.length ∧ ∀ j, j ∉ is → σ'[j]? = σ[j]?
theorem OffEq.set {is : List Nat} {σ : L2.St} {i : Nat} (h : i ∈ is) (v : Option V) : OffEq is σ (σ.set i v) := ⟨by simp, fun j hj => by
  rw [List.getElem?_set_ne]
  rintro rfl
  exact hj h⟩
theorem OffEq.trans {is : List Nat} {σ σ1 σ2 : L2.St} (a : OffEq is σ σ1) (b : OffEq is σ1 σ2) : OffEq is σ σ2 := ⟨b.1.trans a.1, fun j hj => (b.2 j hj).trans (a.2 j hj)⟩
theorem OffEq.mono {is js : List Nat} {σ σ1 : L2.St} (a : OffEq is σ σ1) (h : ∀ i ∈ is, i ∈ js) : OffEq js σ σ1 := ⟨a.1, fun j hj => a.2 j fun z => hj (h j z)⟩
theorem wipe_get {σ : L2.St} : ∀ (vs : List Nat) (j : Nat), (wipe σ vs)[j]? = if j ∈ vs ∧ j < σ.length then some none else σ[j]?
  | [], j => by simp [wipe]
  | v :: vs, j => by
    unfold wipe
    by_cases h : v = j
    · subst h
      by_cases hl : v < σ.length
      · rw [List.getElem?_set_self (by rw [wipe_length]; exact hl), if_pos ⟨by simp, hl⟩]
      · rw [List.getElem?_eq_none (by rw [List.length_set, wipe_length]; omega), if_neg (fun z => hl z.2), List.getElem?_eq_none (by omega)]
    · rw [List.getElem?_set_ne h, wipe_get vs j]
      have e : (j ∈ v :: vs ∧ j < σ.length) ↔ (j ∈ vs ∧ j < σ.length) := by
        simp only [List.mem_cons]
        constructor
        · rintro ⟨h1 | h1, h2⟩
          · exact absurd h1.symm h
          · exact ⟨h1, h2⟩
        · rintro ⟨h1, h2⟩
          exact ⟨.inr h1, h2⟩
      by_cases q : j ∈ vs ∧ j < σ.length
      · rw [if_pos q, if_pos (e.mpr q)]
      · rw [if_neg q, if_neg fun z => q (e.mp z)]
theorem wipe_off {σ σ' : L2.St} {vs : List Nat} (h : OffEq vs (wipe σ vs) σ') : wipe σ' vs = wipe σ vs := by
  apply List.ext_getElem?
  intro j
  have hl : σ'.length = σ.length := by rw [h.1, wipe_length]
  rw [wipe_get, wipe_get, hl]
  by_cases q : j ∈ vs ∧ j < σ.length
  · rw [if_pos q, if_pos q]
  · rw [if_neg q, if_neg q]
    by_cases hj : j ∈ vs
    · have hlen : ¬ j < σ.length := fun z => q ⟨hj, z⟩
      rw [List.getElem?_eq_none (by omega), List.getElem?_eq_none (by omega)]
    · rw [h.2 j hj, wipe_get, if_neg q]
def tG (X : Cx) (is : List Nat) (tg : Tg) : TG := fun v σ H Q => ∃ G ι ρ m x, GR X.kx G ι m H ∧ EnvR X.kx G ι ρ σ ∧ RepV X.kx G ι v x ∧ match tg x ρ with
  | some ρ' => ∀ σ', EnvR X.kx G ι ρ' σ' → OffEq is σ σ' → Q σ' H
  | none => False
structure STg (X : Cx) (e : Expr) (is : List Nat) (tg : Tg) : Prop where
  pg : PG X e (tG X is tg)
theorem pg_weak {t t' : TG} (h : PG X e t) (w : ∀ v σ H Q, t' v σ H Q → t v σ H Q) : PG X e t' := ⟨fun pins s σ H v u Q I r q => h.run pins s σ H v u Q I r (w _ _ _ _ q)⟩
theorem pgs_weak {t t' : TGs} (h : PGs X es t) (w : ∀ v σ H Q, t' v σ H Q → t v σ H Q) : PGs X es t' := ⟨fun pins s σ H v u Q I r q => h.run pins s σ H v u Q I r (w _ _ _ _ q)⟩
theorem tg_name (i : Nat) {x : Str} (hN : X.N.Nodup) (hx : Loc X.env.scope x := by first | exact Or.inl rfl | exact Or.inr rfl) (hi : X.N[i]? = some x := by rfl) (hf : X.fn x = true ∨ X.env.scope.names.lookup x = some .local := by first | exact .inl rfl | exact .inr rfl | assumption) : STg X (.Name x pos) [i] (tN i) := by
  refine ⟨pg_weak (pg_name hN hi hx hf) fun v σ H Q ⟨G, ι, ρ, m, x, g, ev, r, q⟩ => ?_⟩
  exact q _ (ev.set r i) (OffEq.set (by simp) _)
def tGs (X : Cx) (is js : List Nat) : TGs := fun vs σ H Q => ∃ G ι ρ m xs, GR X.kx G ι m H ∧ EnvR X.kx G ι ρ σ ∧ RepAll X.kx G vs xs ∧ match setAll js xs ρ with
  | some ρ' => ∀ σ', EnvR X.kx G ι ρ' σ' → OffEq is σ σ' → Q σ' H
  | none => False
structure STgs (X : Cx) (es : List Expr) (is js : List Nat) : Prop where
  pg : PGs X es (tGs X is js)
theorem tgs_nil {is : List Nat} : STgs X [] is [] := by
  refine ⟨pgs_weak pgs_nil fun vs σ H Q ⟨G, ι, ρ, m, xs, g, ev, r, q⟩ => ?_⟩
  cases r with
  | nil => exact ⟨rfl, q σ ev ⟨rfl, fun _ _ => rfl⟩⟩
  | cons _ _ => exact q.elim
theorem tgs_cons (i : Nat) {x : Str} {is js : List Nat} (hN : X.N.Nodup) (h : STgs X es is js) (hx : Loc X.env.scope x := by first | exact Or.inl rfl | exact Or.inr rfl) (hi : X.N[i]? = some x := by rfl) (hf : X.fn x = true ∨ X.env.scope.names.lookup x = some .local := by first | exact .inl rfl | exact .inr rfl | assumption)
    (hm : i ∈ is := by decide) (hs : (assignEach (.Name x pos :: es) X.env).map (·.2) = assign (.Name x pos) X.env :: (assignEach es X.env).map (·.2) := by rfl) : STgs X (.Name x pos :: es) is (i :: js) := by
  refine ⟨pgs_weak (pgs_cons (pg_name hN hi hx hf) h.pg hs) fun vs σ H Q ⟨G, ι, ρ, m, xs, g, ev, r, q⟩ => ?_⟩
  cases r with
  | nil => exact q.elim
  | @cons v vs d ds r t =>
    refine ⟨v, vs, rfl, ⟨G, ι, ρ.set i (some (.d d)), m, ds, g, ev.set (x := .d d) r i, t, ?_⟩⟩
    have q' : match setAll js ds (ρ.set i (some (.d d))) with
      | some ρ' => ∀ σ', EnvR X.kx G ι ρ' σ' → OffEq is σ σ' → Q σ' H
      | none => False := q
    cases hs : setAll js ds (ρ.set i (some (.d d))) with
    | none => rw [hs] at q'; exact q'
    | some ρ' => rw [hs] at q'; exact fun σ' e o => q' σ' e ((OffEq.set hm _).trans o)
theorem setAll_len : ∀ {js : List Nat} {xs : List D} {ρ ρ' : Env}, setAll js xs ρ = some ρ' → xs.length = js.length
  | [], [], _, _, _ => rfl
  | [], _ :: _, _, _, h => by cases h
  | _ :: _, [], _, _, h => by cases h
  | _ :: js, _ :: xs, ρ, ρ', h => by simp [setAll_len (js := js) (xs := xs) h]
theorem tg_tup {is : List Nat} {k n : Nat} (hc : X.calm = true) (h : STgs X es is is) (hl : is.length = n := by rfl) (hn : (assignEach es X.env).length = n := by rfl) (hst : (assignEach es X.env).findIdx? (·.1) = none := by rfl) : STg X (.Tuple es k pos) is (tT is) := by
  refine ⟨pg_weak (pg_tup hc h.pg hn hst) fun v σ H Q ⟨G, ι, ρ, m, x, g, ev, r, q⟩ => ?_⟩
  match x, q, r with
  | .d (.tup xs), q, r =>
    cases r with
    | tup hs r =>
      have q' : match setAll is xs ρ with
        | some ρ' => ∀ σ', EnvR X.kx G ι ρ' σ' → OffEq is σ σ' → Q σ' H
        | none => False := q
      refine ⟨_, _, rfl, g.sub.sqt hs, ?_, ⟨G, ι, ρ, m, xs, g, ev, r, q'⟩⟩
      rw [r.length, ← hl]
      cases hs : setAll is xs ρ with
      | none => rw [hs] at q'; exact q'.elim
      | some ρ' => exact setAll_len hs
  | .d .non, q, _ => exact q.elim
  | .d (.bl _), q, _ => exact q.elim
  | .d (.int _), q, _ => exact q.elim
  | .d (.str _), q, _ => exact q.elim
  | .d (.lst _), q, _ => exact q.elim
  | .obj _, q, _ => exact q.elim
  | .raw _, q, _ => exact q.elim

/-! ### what is walked -/
structure WalkD (K : Kx) (G : Hp) (J : It) (xs : List D) : Prop where
  goes : ∀ i G' ι m H, i < xs.length → Sub G G' → GR K G' ι m H → J.go i H
  stops : ∀ G' ι m H, Sub G G' → GR K G' ι m H → J.stop xs.length H
  yields : ∀ i G' ι m H v H', i < xs.length → Sub G G' → GR K G' ι m H → J.yld i H v H' → ∃ G2 d, xs[i]? = some d ∧ Ext G' ι H G2 ι H' ∧ GR K G2 ι m H' ∧ Rep K G2 v d
def tI (X : Cx) (W : XK) (f : IE) : TI := fun σ H R => ∃ G ι ρ m, GR X.kx G ι m H ∧ EnvR X.kx G ι ρ σ ∧ PostG X (fun G _ J xs => WalkD X.kx G J xs) W G ι H (f ρ m) R
structure SIx (X : Cx) (W : XK) (tg e : Expr) (f : IE) : Prop where
  pi : PI X tg e (tI X W f)
theorem pi_weak {tg : Expr} {t t' : TI} (h : PI X tg e t) (w : ∀ σ H R, t' σ H R → t σ H R) : PI X tg e t' := ⟨fun pins s σ H R I q => h.run pins s σ H R I (w _ _ _ q)⟩
theorem pi_or {tg : Expr} {t t' : TI} (h : PI X tg e t) (h' : PI X tg e t') : PI X tg e (fun σ H R => t σ H R ∨ t' σ H R) := ⟨fun pins s σ H R I q => q.elim (h.run pins s σ H R I) (h'.run pins s σ H R I)⟩
theorem walkD_list {K : Kx} {a : Addr} {vs : List V} {xs : List D} (h : SqL K.K G a vs) (r : RepAll K G vs xs) : WalkD K G (Itl K.K a) xs where
  goes := fun i G' ι m H hi s g => by
    rw [← r.length] at hi
    exact ⟨vs, vs[i], g.sub.sql (s.sql h), by simp [hi]⟩
  stops := fun G' ι m H s g => ⟨vs, g.sub.sql (s.sql h), by rw [r.length]; exact Nat.le_refl _⟩
  yields := fun i G' ι m H v H' hi s g y => by
    obtain ⟨rfl, y⟩ := y
    have hv := y vs (g.sub.sql (s.sql h))
    obtain ⟨d, h1, h2⟩ := r.getV hv
    exact ⟨G', d, h1, Ext.refl .., g, Rep.mono s h2⟩
theorem walkD_tup {K : Kx} {a : Addr} {vs : List V} {xs : List D} (h : SqT K.K G a vs) (r : RepAll K G vs xs) : WalkD K G (Itt K.K a) xs where
  goes := fun i G' ι m H hi s g => by
    rw [← r.length] at hi
    exact ⟨vs, vs[i], g.sub.sqt (s.sqt h), by simp [hi]⟩
  stops := fun G' ι m H s g => ⟨vs, g.sub.sqt (s.sqt h), by rw [r.length]; exact Nat.le_refl _⟩
  yields := fun i G' ι m H v H' hi s g y => by
    obtain ⟨rfl, y⟩ := y
    have hv := y vs (g.sub.sqt (s.sqt h))
    obtain ⟨d, h1, h2⟩ := r.getV hv
    exact ⟨G', d, h1, Ext.refl .., g, Rep.mono s h2⟩
theorem walkD_str {K : Kx} (s : List Char) : WalkD K G (Its (txt s)) (s.map fun c => .str [c]) where
  goes := fun i G' ι m H hi _ g => by
    rw [List.length_map] at hi
    show i < (txt s).cps.size
    simpa [txt] using hi
  stops := fun G' ι m H _ g => by show (txt s).cps.size ≤ _; simp [txt]
  yields := fun i G' ι m H v H' hi _ g y => by
    obtain ⟨rfl, c, hc, rfl⟩ := y
    rw [List.length_map] at hi
    refine ⟨G', .str [s[i]], by simp [hi], Ext.refl .., g, ?_⟩
    have : c = s[i].toNat := by
      simp [txt, hi] at hc
      exact hc.symm
    subst this
    exact .str [s[i]]
theorem walkD_rng {K : Kx} (lo : Int) (n : Nat) : WalkD K G (Itr lo n) (rng lo n) where
  goes := fun i G' ι m H hi _ g => by show i < n; simpa [rng] using hi
  stops := fun G' ι m H _ g => by show n ≤ _; simp [rng]
  yields := fun i G' ι m H v H' hi _ g y => by
    obtain ⟨rfl, rfl⟩ := y
    have hi' : i < n := by simpa [rng] using hi
    exact ⟨G', .int (lo + i), by simp [rng, hi'], Ext.refl .., g, .int _⟩
/-- a list, a tuple, a text -/
theorem si_val {tg : Expr} (h : SEx X W e f) : SIx X W tg e (iV f) := by
  refine ⟨pi_weak (pi_or (pi_list h.pe) (pi_or (pi_tup h.pe) (pi_str h.pe))) fun σ H R ⟨G, ι, ρ, m, g, ev, p⟩ => ?_⟩
  have p' : PostG X (fun G _ J xs => WalkD X.kx G J xs) W G ι H ((f ρ m).bind fun x m => match x with
    | .d x => (match itD x with
      | some xs => .ok xs m
      | none => .no)
    | _ => .no) R := p
  cases hr : f ρ m with
  | no => rw [hr] at p'; exact p'.elim
  | ex ex m1 =>
    rw [hr] at p'
    refine .inl ⟨G, ι, ρ, m, g, ev, ?_⟩
    rw [hr]; exact p'
  | ok x m1 =>
    rw [hr] at p'
    rw [Res.bind_ok] at p'
    match x, p', hr with
    | .d (.lst xs), p', hr =>
      refine .inl ⟨G, ι, ρ, m, g, ev, ?_⟩
      rw [hr]
      intro v G' ι' H' e g' r
      cases r with
      | lst h r => exact ⟨_, rfl, ⟨_, g'.sub.sql h⟩, p' _ G' ι' H' e g' (walkD_list h r)⟩
    | .d (.tup xs), p', hr =>
      refine .inr (.inl ⟨G, ι, ρ, m, g, ev, ?_⟩)
      rw [hr]
      intro v G' ι' H' e g' r
      cases r with
      | tup h r => exact ⟨_, rfl, ⟨_, g'.sub.sqt h⟩, p' _ G' ι' H' e g' (walkD_tup h r)⟩
    | .d (.str s), p', hr =>
      refine .inr (.inr ⟨G, ι, ρ, m, g, ev, ?_⟩)
      rw [hr]
      intro v G' ι' H' e g' r
      cases r
      exact ⟨_, rfl, p' _ G' ι' H' e g' (walkD_str s)⟩
    | .d .non, p', _ => exact p'.elim
    | .d (.bl _), p', _ => exact p'.elim
    | .d (.int _), p', _ => exact p'.elim
    | .obj _, p', _ => exact p'.elim
    | .raw _, p', _ => exact p'.elim
theorem fits62_of {i : Int} (h : fits62 i = true) : -(2 ^ 62) ≤ i ∧ i < 2 ^ 62 := by
  have := of_decide_eq_true h
  omega
theorem si_range1 {tg : Expr} (hm : X.mg "range" = none) (h : SEx X W a fa) (hg : Gl X "range" := by rfl) (hs : starEach [a] X.env = [(false, eval a X.env)] := by rfl) : SIx X W tg (.Call (.Name "range" p) [a] [] pos) (iR1 fa) := by
  refine ⟨pi_weak (pi_range1 hg hm (pa_cons h.pe pa_nil hs) hs) fun σ H R ⟨G, ι, ρ, m, g, ev, p⟩ => ?_⟩
  have p' : PostG X (fun G _ J xs => WalkD X.kx G J xs) W G ι H ((fa ρ m).bind fun x m => match x with
    | .d (.int j) => if fits62 j then .ok (rng 0 j.toNat) m else .no
    | _ => .no) R := p
  refine tE_mono (step_e g ev p') fun v H1 ⟨G1, ι1, m1, x, x1, g1, ev1, r1, _, p1⟩ => ?_
  match x, p1, r1 with
  | .d (.int j), p1, r1 =>
    cases r1
    have p2 : PostG X (fun G _ J xs => WalkD X.kx G J xs) W G1 ι1 H1 (if fits62 j = true then .ok (rng 0 j.toNat) m1 else .no) R := p1
    by_cases hf : fits62 j = true
    · rw [if_pos hf] at p2
      exact ⟨j, rfl, (fits62_of hf).1, (fits62_of hf).2, p2 _ G1 ι1 H1 (Ext.refl ..) g1 (walkD_rng 0 _)⟩
    · rw [if_neg hf] at p2; exact p2.elim
  | .d .non, p1, _ => exact p1.elim
  | .d (.bl _), p1, _ => exact p1.elim
  | .d (.str _), p1, _ => exact p1.elim
  | .d (.tup _), p1, _ => exact p1.elim
  | .d (.dct _ _), p1, _ => exact p1.elim
  | .d (.ins _ _ _), p1, _ => exact p1.elim
  | .d (.lst _), p1, _ => exact p1.elim
  | .obj _, p1, _ => exact p1.elim
  | .raw _, p1, _ => exact p1.elim
theorem int_or (x : PV) : (∃ i, x = .d (.int i)) ∨ ∀ (α : Type) (k : Int → α) (z : α), (match x with | .d (.int i) => k i | _ => z) = z := by
  match x with
  | .d (.int i) => exact .inl ⟨i, rfl⟩
  | .d .non => exact .inr fun _ _ _ => rfl
  | .d (.bl _) => exact .inr fun _ _ _ => rfl
  | .d (.str _) => exact .inr fun _ _ _ => rfl
  | .d (.tup _) => exact .inr fun _ _ _ => rfl
  | .d (.dct _ _) => exact .inr fun _ _ _ => rfl
  | .d (.ins _ _ _) => exact .inr fun _ _ _ => rfl
  | .d (.lst _) => exact .inr fun _ _ _ => rfl
  | .obj _ => exact .inr fun _ _ _ => rfl
  | .raw _ => exact .inr fun _ _ _ => rfl
theorem si_range2 {tg : Expr} (hm : X.mg "range" = none) (h : SEx X W a fa) (h' : SEx X W b fb) (hg : Gl X "range" := by rfl) (hs : starEach [a, b] X.env = [(false, eval a X.env), (false, eval b X.env)] := by rfl) (hs2 : starEach [b] X.env = [(false, eval b X.env)] := by rfl)
    (hs3 : starEach (a :: [b]) X.env = (false, eval a X.env) :: starEach [b] X.env := by rfl) : SIx X W tg (.Call (.Name "range" p) [a, b] [] pos) (iR2 fa fb) := by
  refine ⟨pi_weak (pi_range2 hg hm (pa_cons h.pe (pa_cons h'.pe pa_nil hs2) hs3) hs hs2) fun σ H R ⟨G, ι, ρ, m, g, ev, p⟩ => ?_⟩
  have p' : PostG X (fun G _ J xs => WalkD X.kx G J xs) W G ι H ((fa ρ m).bind fun x m => (fb ρ m).bind fun y m => match x, y with
    | .d (.int i), .d (.int j) => if fits62 i && fits62 j then .ok (rng i (j - i).toNat) m else .no
    | _, _ => .no) R := p
  refine tE_mono (step_e g ev p') fun v H1 ⟨G1, ι1, m1, x, x1, g1, ev1, r1, _, p1⟩ => ?_
  refine tE_mono (step_e g1 ev1 p1) fun u H2 ⟨G2, ι2, m2, y, x2, g2, ev2, r2, _, p2⟩ => ?_
  have key : ∃ i j, x = .d (.int i) ∧ y = .d (.int j) := by
    match x, y, p2 with
    | .d (.int i), .d (.int j), _ => exact ⟨i, j, rfl, rfl⟩
    | .d (.int i), .d .non, p2 => exact p2.elim
    | .d (.int i), .d (.bl _), p2 => exact p2.elim
    | .d (.int i), .d (.str _), p2 => exact p2.elim
    | .d (.int i), .d (.tup _), p2 => exact p2.elim
    | .d (.int i), .d (.dct _ _), p2 => exact p2.elim
    | .d (.int i), .d (.ins _ _ _), p2 => exact p2.elim
    | .d (.int i), .d (.lst _), p2 => exact p2.elim
    | .d (.int i), .obj _, p2 => exact p2.elim
    | .d .non, _, p2 => exact p2.elim
    | .d (.bl _), _, p2 => exact p2.elim
    | .d (.str _), _, p2 => exact p2.elim
    | .d (.tup _), _, p2 => exact p2.elim
    | .d (.dct _ _), _, p2 => exact p2.elim
    | .d (.ins _ _ _), _, p2 => exact p2.elim
    | .d (.lst _), _, p2 => exact p2.elim
    | .obj _, _, p2 => exact p2.elim
    | .raw _, _, p2 => exact p2.elim
  obtain ⟨i, j, rfl, rfl⟩ := key
  cases r1
  cases r2
  have p3 : PostG X (fun G _ J xs => WalkD X.kx G J xs) W G2 ι2 H2 (if (fits62 i && fits62 j) = true then .ok (rng i (j - i).toNat) m2 else .no) R := p2
  by_cases hf : (fits62 i && fits62 j) = true
  · rw [if_pos hf] at p3
    rw [Bool.and_eq_true] at hf
    exact ⟨i, j, rfl, ⟨(fits62_of hf.1).1, (fits62_of hf.1).2, (fits62_of hf.2).1, (fits62_of hf.2).2⟩, p3 _ G2 ι2 H2 (Ext.refl ..) g2 (walkD_rng i _)⟩
  · rw [if_neg hf] at p3; exact p3.elim
end
end DI
namespace DI
open PySem PySem.Spec PyProof.Rows L2
section
variable {X : Cx} {W : XK} {a b c e elt tg iter : Expr} {es rest ifs : List Expr} {fa fb fc f fe : SE} {fi : IE} {tgt : Tg} {fs : List SE} {pos p : Pos} {G H : Hp} {ι : Io} {ρ : Env} {m : Mem} {σ : L2.St}
/-! ### comprehensions -/
/-- no exception is let out -/
def W0 : XK := fun _ _ _ => False
theorem tk0 {X : Cx} : Tk X W0 := fun _ _ x => by
  obtain ⟨_, _, _, _, _, _, _, _, _, _, _, _, _, _, _, _, z⟩ := x
  exact z.elim
structure STs (X : Cx) (ifs : List Expr) (f : SE) : Prop where
  pt : PTs X ifs (tTe X W0 f)
theorem pts_weak {t t' : TT} (h : PTs X ifs t) (w : ∀ σ H Q, t' σ H Q → t σ H Q) : PTs X ifs t' := ⟨fun pins s σ H Q I q => h.run pins s σ H Q I (w _ _ _ q)⟩
theorem sts_nil : STs X [] tsY := ⟨pts_weak pts_nil fun σ H Q ⟨G, ι, ρ, m, g, ev, hb, p⟩ => p true G ι H (Ext.refl ..) g rfl⟩
theorem sts_one (h : STe X W0 c f) : STs X [c] f := ⟨pts_one h.pt⟩
theorem sub_of_ext {G' ι' H'} (e : Ext G ι H G' ι' H') : Sub G G' := e.sub
/-- the accumulator stands apart -/
theorem acc_apart {K : Kx} {G G' H H' : Hp} {ι ι' : Io} {m' : Mem} {D' : Addr} {o : HO} (e : Ext G ι H G' ι' H') (g' : GR K G' ι' m' H') (h1 : H D' = some o) (h2 : D' ∉ ι.flatten) (h3 : G D' = none) : H' D' = some o ∧ D' ∉ ι'.flatten ∧ G' D' = none := by
  refine ⟨e.kp _ _ h1 h2, fun hm => ?_, ?_⟩
  · obtain ⟨t, rfl, ht⟩ := e.pre
    rw [List.flatten_append, List.mem_append] at hm
    rcases hm with hm | hm
    · exact h2 hm
    · rw [ht _ hm] at h1; cases h1
  · cases q : G' D' with
    | none => rfl
    | some u =>
      rcases e.gk _ _ q with z | z | z
      · rw [h3] at z; cases z
      · rw [h1] at z; cases z
      · exact absurd z h2
/-- a tracked object that is none of ours is changed -/
theorem GR.other {K : Kx} (g : GR K G ι m H) {q : Addr} (h2 : q ∉ ι.flatten) (h3 : G q = none) (o : HO) : GR K G ι m (upd H q o) :=
  ⟨sub_updR g.sub h3, g.len, g.nd, fun i l o' hl ho => (g.obj i l o' hl ho).mono (Sub.refl G) fun a ha => ⟨id, by
    rw [upd_ne]
    rintro rfl
    exact h2 (mem_io hl ha)⟩⟩
theorem ext_other {G' ι' H'} (e : Ext G ι H G' ι' H') {q : Addr} (hq : H q = none) (o : HO) : Ext G ι H G' ι' (upd H' q o) :=
  ⟨e.sub, e.pre, fun a u h hn => by rw [upd_ne (ne_of_none h hq)]; exact e.kp a u h hn, fun a h => by
    by_cases z : a = q
    · subst z; exact hq
    · rw [upd_ne z] at h; exact e.dm a h, e.gk⟩
def hidD (H : Hp) (q : Addr) : Hp := fun b => if b = q then none else H b
theorem hidD_ne {H : Hp} {q b : Addr} (h : b ≠ q) : hidD H q b = H b := if_neg h
theorem hidD_eq {H : Hp} {q : Addr} : hidD H q q = none := if_pos rfl
theorem upd_hid {H : Hp} {q : Addr} {o : HO} (h : H q = some o) : H = upd (hidD H q) q o := by
  funext b
  by_cases z : b = q
  · subst z; rw [upd_same, h]
  · rw [upd_ne z, hidD_ne z]
theorem lcL_cons (tgt : Tg) (ts fe : SE) (x : D) (xs : List D) (ρ : Env) (m : Mem) (acc : List D) : lcL tgt ts fe (x :: xs) ρ m acc = match tgt (.d x) ρ with
    | none => .no
    | some ρ1 => match ts ρ1 m with
      | .ok (.d (.bl true)) m1 => (match fe ρ1 m1 with
        | .ok (.d y) m2 => lcL tgt ts fe xs ρ m2 (acc ++ [y])
        | _ => .no)
      | .ok (.d (.bl false)) m1 => lcL tgt ts fe xs ρ m1 acc
      | _ => .no := rfl
theorem lcL_noex (tgt : Tg) (ts fe : SE) : ∀ (xs : List D) (ρ : Env) (m : Mem) (acc : List D) (e : Exc) (m' : Mem), lcL tgt ts fe xs ρ m acc ≠ .ex e m'
  | [], ρ, m, acc, e, m' => by unfold lcL; exact fun h => by cases h
  | x :: xs, ρ, m, acc, e, m' => by
    rw [lcL_cons]
    cases tgt (.d x) ρ with
    | none => exact fun h => by cases h
    | some ρ1 =>
      dsimp only
      cases ht : ts ρ1 m with
      | no => exact fun h => by cases h
      | ex _ _ => exact fun h => by cases h
      | ok t m1 =>
        match t with
        | .d (.bl true) =>
          dsimp only
          cases he : fe ρ1 m1 with
          | no => exact fun h => by cases h
          | ex _ _ => exact fun h => by cases h
          | ok y m2 =>
            match y with
            | .d y => exact lcL_noex tgt ts fe xs ρ m2 _ e m'
            | .obj _ => exact fun h => by cases h
            | .raw _ => exact fun h => by cases h
        | .d (.bl false) => exact lcL_noex tgt ts fe xs ρ m1 _ e m'
        | .d .non => exact fun h => by cases h
        | .d (.int _) => exact fun h => by cases h
        | .d (.str _) => exact fun h => by cases h
        | .d (.tup _) => exact fun h => by cases h
        | .d (.dct _ _) => exact fun h => by cases h
        | .d (.ins _ _ _) => exact fun h => by cases h
        | .d (.lst _) => exact fun h => by cases h
        | .obj _ => exact fun h => by cases h
        | .raw _ => exact fun h => by cases h
theorem ne_lc {own : List (Str × Nat)} {ts : SE} :
    ∀ {σ H Q}, tNE X W (nLc (own.map (·.2)) fi tgt ts fe) σ H Q → tLc (tI X W fi) (tG X (own.map (·.2)) tgt) (tTe X W0 ts) (tE X W0 fe) (own.map (·.2)) σ H Q := by
  rintro σ H Q ⟨G, ι, ρ, m, g, ev, p⟩
  refine ⟨G, ι, ρ, m, g, ev, ?_⟩
  unfold nLc at p
  cases hr : fi ρ m with
  | no => rw [hr] at p; exact p
  | ex ex m1 => rw [hr] at p; exact p
  | ok xs m1 =>
    rw [hr, Res.bind_ok] at p
    intro J G1 ι1 H1 e1 g1 wk D' hD
    generalize hvs : own.map (·.2) = vs at p ⊢
    obtain ⟨gD, iD⟩ := g1.fresh hD
    have hlen : xs.length ≤ lineL := by
      by_cases h : xs.length ≤ lineL
      · exact h
      · rw [if_neg h] at p; exact p.elim
    rw [if_pos hlen] at p
    have evw : ∀ {G' ι' H'}, Ext G1 ι1 H1 G' ι' H' → EnvR X.kx G' ι' (wipeE ρ vs) (wipe σ vs) := fun e => ((ev.ext e1).ext e).wipe vs
    let Inv0 : Nat → Hp → Prop := fun i H' => ∃ G' ι' m' acc va, Ext G1 ι1 H1 G' ι' H' ∧ GR X.kx G' ι' m' H' ∧ H' D' = some (.lst va) ∧ D' ∉ ι'.flatten ∧ G' D' = none ∧ RepAll X.kx G' va acc ∧ acc.length ≤ i ∧
      (match lcL tgt ts fe (xs.drop i) (wipeE ρ vs) m' acc with
        | .ok ys m2 => lcL tgt ts fe xs (wipeE ρ vs) m1 [] = .ok ys m2
        | _ => False)
    have whole : ∃ ys m2, lcL tgt ts fe xs (wipeE ρ vs) m1 [] = .ok ys m2 := by
      cases hw : lcL tgt ts fe xs (wipeE ρ vs) m1 [] with
      | no => rw [hw] at p; exact p.elim
      | ex ex m2 => exact (lcL_noex _ _ _ _ _ _ _ _ _ hw).elim
      | ok ys m2 => exact ⟨ys, m2, rfl⟩
    obtain ⟨ys, m2, hw⟩ := whole
    rw [hw] at p
    refine ⟨fun i k H' => k = xs.length - i ∧ i ≤ xs.length ∧ Inv0 i H', ⟨xs.length, by simp, Nat.zero_le _, G1, ι1, m1, [], [], ?_, g1.other iD gD _, upd_same, iD, gD, .nil, Nat.le_refl _, ?_⟩, ?_⟩
    · exact ext_other (Ext.refl ..) hD _
    · rw [List.drop_zero, hw]
    rintro i k H2 ⟨rfl, hi, G2, ι2, m3, acc, va, e2, g2, hD2, iD2, gD2, ra, hal, pl⟩
    by_cases hlt : i < xs.length
    · refine .inr ⟨wk.goes i G2 ι2 m3 H2 hlt e2.sub g2, fun H' => Inv0 (i + 1) H', fun H' h => ⟨xs.length - (i + 1), by omega, rfl, hlt, h⟩, fun v H3 y => ?_⟩
      obtain ⟨G3, d, hd, e3, g3, r3⟩ := wk.yields i G2 ι2 m3 H2 v H3 hlt e2.sub g2 y
      obtain ⟨hD3, iD3, gD3⟩ := acc_apart e3 g3 hD2 iD2 gD2
      rw [List.drop_eq_getElem_cons hlt, lcL_cons] at pl
      have hxd : xs[i] = d := by rw [List.getElem?_eq_getElem hlt] at hd; exact Option.some.inj hd
      rw [hxd] at pl
      refine ⟨G3, ι2, wipeE ρ vs, m3, .d d, g3, evw (e2.trans e3), r3, ?_⟩
      cases htg : tgt (.d d) (wipeE ρ vs) with
      | none => rw [htg] at pl; exact pl.elim
      | some ρ1 =>
        rw [htg] at pl
        dsimp only at pl ⊢
        intro σ' ev' off
        refine ⟨wipe_off off, ⟨G3, ι2, ρ1, m3, g3, ev', ?_, ?_⟩⟩
        · intro x m' hx
          rw [hx] at pl
          match x, pl with
          | .d (.bl b), _ => exact ⟨b, rfl⟩
          | .d .non, p => exact p.elim
          | .d (.int _), p => exact p.elim
          | .d (.str _), p => exact p.elim
          | .d (.tup _), p => exact p.elim
          | .d (.dct _ _), p => exact p.elim
          | .d (.ins _ _ _), p => exact p.elim
          | .d (.lst _), p => exact p.elim
          | .obj _, p => exact p.elim
          | .raw _, p => exact p.elim
        · cases hts : ts ρ1 m3 with
          | no => rw [hts] at pl; exact pl.elim
          | ex ex m4 => rw [hts] at pl; exact pl.elim
          | ok t m4 =>
            rw [hts] at pl
            intro bb G4 ι4 H4 e4 g4 hb
            cases (show t = .d (.bl bb) from hb)
            obtain ⟨hD4, iD4, gD4⟩ := acc_apart e4 g4 hD3 iD3 gD3
            cases bb with
            | false =>
              rw [if_neg (by decide)]
              exact ⟨G4, ι4, m4, acc, va, (e2.trans e3).trans e4, g4, hD4, iD4, gD4, RepAll.mono (e3.sub.trans e4.sub) ra, Nat.le_succ_of_le hal, pl⟩
            | true =>
              rw [if_pos rfl]
              dsimp only at pl
              refine ⟨G4, ι4, ρ1, m4, g4, ev'.ext e4, ?_⟩
              cases hfe : fe ρ1 m4 with
              | no => rw [hfe] at pl; exact pl.elim
              | ex ex m5 => rw [hfe] at pl; exact pl.elim
              | ok yv m5 =>
                rw [hfe] at pl
                match yv, pl with
                | .obj _, pl => exact pl.elim
                | .raw _, pl => exact pl.elim
                | .d yd, pl =>
                  intro y5 G5 ι5 H5 e5 g5 r5
                  obtain ⟨hD5, iD5, gD5⟩ := acc_apart e5 g5 hD4 iD4 gD4
                  refine ⟨va, hD5, ?_, G5, ι5, m5, acc ++ [yd], va ++ [y5], ?_, g5.other iD5 gD5 _, upd_same, iD5, gD5, ?_, ?_, pl⟩
                  · have := ra.length
                    rw [← lineL_eq]
                    omega
                  · exact ext_other (((e2.trans e3).trans e4).trans e5) hD _
                  · exact (RepAll.mono ((e3.sub.trans e4.sub).trans e5.sub) ra).append (.cons r5 .nil)
                  · simp; omega
    · have hie : i = xs.length := by omega
      subst hie
      refine .inl ⟨wk.stops G2 ι2 m3 H2 e2.sub g2, ?_⟩
      rw [List.drop_length] at pl
      have pl' : lcL tgt ts fe xs (wipeE ρ vs) m1 [] = .ok acc m3 := pl
      rw [hw] at pl'
      cases pl'
      rw [upd_hid hD2]
      refine p D' va G2 ι2 _ ?_ ?_ hidD_eq ra
      · refine e1.trans ⟨e2.sub, e2.pre, fun a o h hn => ?_, fun a h => ?_, e2.gk⟩
        · rw [hidD_ne (ne_of_none h hD)]
          exact e2.kp a o h hn
        · by_cases z : a = D'
          · subst z; exact hD
          · rw [hidD_ne z] at h; exact e2.dm a h
      · refine ⟨fun a o h => ?_, g2.len, g2.nd, fun i l o hl ho => (g2.obj i l o hl ho).mono (Sub.refl _) fun a ha => ⟨id, ?_⟩⟩
        · rw [hidD_ne (ne_of_none h gD2)]
          exact g2.sub a o h
        · refine hidD_ne ?_
          rintro rfl
          exact iD2 (mem_io hl ha)
/-- a comprehension as a new list -/
theorem ne_lcE {scope : Scope} {own : List (Str × Nat)} {ts : SE} (hc : X.calm = true) (hN : X.N.Nodup) (hi : SIx X W tg iter fi) (ok : BlkOk X.N X.env.scope scope own)
    (hg : ∀ (s : Shared) (H : Hp) (C : Addr) (cl : List (Str × Addr)) (fp : List Addr), STg (X.blk s H scope (compEnvC scope cl C X.env) fp) tg (own.map (·.2)) tgt) (ht : ∀ (s : Shared) (H : Hp) (C : Addr) (cl : List (Str × Addr)) (fp : List Addr), STs (X.blk s H scope (compEnvC scope cl C X.env) fp) ifs ts)
    (he : ∀ (s : Shared) (H : Hp) (C : Addr) (cl : List (Str × Addr)) (fp : List Addr), SEx (X.blk s H scope (compEnvC scope cl C X.env) fp) W0 elt fe) (hs : ∀ x, foldedSetIterable iter X.env x = pure x := by intro _; rfl) :
    NEx X W (.ListComp elt [⟨tg, iter, ifs, 0⟩] scope pos) (nLc (own.map (·.2)) fi tgt ts fe) :=
  ⟨pe_weak (pe_lc hc hN hi.pi ok (fun s H C cl fp => (hg s H C cl fp).pg) (fun s H C cl fp => (ht s H C cl fp).pt) (fun s H C cl fp => (he s H C cl fp).pe) hs) fun σ H Q h => ne_lc h⟩
end
end DI
namespace DI
open PySem PySem.Spec PyProof.Rows L2
section
variable {X : Cx} {W : XK} {a b c e elt tg iter : Expr} {es rest ifs : List Expr} {fa fb fc f fe : SE} {fi : IE} {tgt : Tg} {fs : List SE} {pos p : Pos} {G H : Hp} {ι : Io} {ρ : Env} {m : Mem} {σ : L2.St} {st : Stmt} {sts : List Stmt} {D : Ends}
/-! ### statements -/
def PostS (X : Cx) (W : XK) (D : Ends) (G : Hp) (ι : Io) (H : Hp) (o : Out) : Prop := match o with
  | .nx ρ m => ∀ σ' G' ι' H', Ext G ι H G' ι' H' → GR X.kx G' ι' m H' → EnvR X.kx G' ι' ρ σ' → D.nx σ' H'
  | .bk ρ m => ∀ σ' G' ι' H', Ext G ι H G' ι' H' → GR X.kx G' ι' m H' → EnvR X.kx G' ι' ρ σ' → D.bk σ' H'
  | .ct ρ m => ∀ σ' G' ι' H', Ext G ι H G' ι' H' → GR X.kx G' ι' m H' → EnvR X.kx G' ι' ρ σ' → D.ct σ' H'
  | .rt v m => ∀ x G' ι' H', Ext G ι H G' ι' H' → GR X.kx G' ι' m H' → RepV X.kx G' ι' x v → D.rt x H'
  | .ex e m => ∀ c dx G' ι' H', Ext G ι H G' ι' H' → GR X.kx G' ι' m H' → ExR X.kx G' H' e c dx → W c dx H'
  | .no => False
theorem PostS.ext {G1 H1 : Hp} {ι1 : Io} {o : Out} (e : Ext G ι H G1 ι1 H1) (h : PostS X W D G ι H o) : PostS X W D G1 ι1 H1 o := by
  cases o with
  | nx ρ m => exact fun σ' G' ι' H' x => h σ' G' ι' H' (e.trans x)
  | bk ρ m => exact fun σ' G' ι' H' x => h σ' G' ι' H' (e.trans x)
  | ct ρ m => exact fun σ' G' ι' H' x => h σ' G' ι' H' (e.trans x)
  | rt v m => exact fun σ' G' ι' H' x => h σ' G' ι' H' (e.trans x)
  | ex v m => exact fun c dx G' ι' H' x => h c dx G' ι' H' (e.trans x)
  | no => exact h
def tS (X : Cx) (W : XK) (f : SS) : TS := fun D σ H => ∃ G ι ρ m, GR X.kx G ι m H ∧ EnvR X.kx G ι ρ σ ∧ PostS X W D G ι H (f ρ m)
structure SSt (X : Cx) (W : XK) (st : Stmt) (f : SS) : Prop where
  ps : PS X st (tS X W f)
structure SSs (X : Cx) (W : XK) (sts : List Stmt) (f : SS) : Prop where
  pss : PSs X sts (tS X W f)
/-- what a body's context gives -/
structure CxOk (X : Cx) (W : XK) (k : Nat) : Prop where
  tk : Tk X W
  rm : Room k X.A
  calm : X.calm = true
  nd : X.N.Nodup
theorem CxOk.blk {k : Nat} (c : CxOk X W k) (s : Shared) (H : Hp) (scope : Scope) (cenv : PySem.Env) (fp : List Addr) : CxOk (X.blk s H scope cenv fp) W0 k := ⟨tk0, c.rm, c.calm, c.nd⟩
/-- an expression first -/
theorem run_e {Q : Prop} {k : PV → Mem → Out} (g : GR X.kx G ι m H) (ev : EnvR X.kx G ι ρ σ) (p : PostS X W D G ι H ((f ρ m).run k)) :
    tE X W f σ H fun v H' => ∃ G' ι' m' x, Ext G ι H G' ι' H' ∧ GR X.kx G' ι' m' H' ∧ EnvR X.kx G' ι' ρ σ ∧ RepV X.kx G' ι' v x ∧ PostS X W D G' ι' H' (k x m') := by
  refine ⟨G, ι, ρ, m, g, ev, ?_⟩
  cases hr : f ρ m with
  | no => rw [hr] at p; exact p
  | ex e m1 => rw [hr] at p; exact p
  | ok x m1 =>
    rw [hr] at p
    exact fun v G' ι' H' e g r => ⟨G', ι', m1, x, e, g, ev.ext e, r, PostS.ext e p⟩
theorem run_a {fs : Env → Mem → Res (List PV)} {k : List PV → Mem → Out} (g : GR X.kx G ι m H) (ev : EnvR X.kx G ι ρ σ) (p : PostS X W D G ι H ((fs ρ m).run k)) :
    tA X W fs σ H fun v H' => ∃ G' ι' m' x, Ext G ι H G' ι' H' ∧ GR X.kx G' ι' m' H' ∧ EnvR X.kx G' ι' ρ σ ∧ Paired (RepV X.kx G' ι') v x ∧ PostS X W D G' ι' H' (k x m') := by
  refine ⟨G, ι, ρ, m, g, ev, ?_⟩
  cases hr : fs ρ m with
  | no => rw [hr] at p; exact p
  | ex e m1 => rw [hr] at p; exact p
  | ok x m1 =>
    rw [hr] at p
    exact fun v G' ι' H' e g r => ⟨G', ι', m1, x, e, g, ev.ext e, r, PostS.ext e p⟩
theorem run_t {k : Bool → Mem → Out} (g : GR X.kx G ι m H) (ev : EnvR X.kx G ι ρ σ) (p : PostS X W D G ι H ((f ρ m).run (tstO k))) :
    tTe X W f σ H fun b H' => ∃ G' ι' m', Ext G ι H G' ι' H' ∧ GR X.kx G' ι' m' H' ∧ EnvR X.kx G' ι' ρ σ ∧ PostS X W D G' ι' H' (k b m') := by
  have hb : ∀ x m', f ρ m = .ok x m' → ∃ b, x = .d (.bl b) := by
    intro x m' hx
    rw [hx] at p
    match x, p with
    | .d (.bl b), _ => exact ⟨b, rfl⟩
    | .d .non, p => exact p.elim
    | .d (.int _), p => exact p.elim
    | .d (.str _), p => exact p.elim
    | .d (.tup _), p => exact p.elim
    | .d (.dct _ _), p => exact p.elim
    | .d (.ins _ _ _), p => exact p.elim
    | .d (.lst _), p => exact p.elim
    | .obj _, p => exact p.elim
    | .raw _, p => exact p.elim
  refine ⟨G, ι, ρ, m, g, ev, hb, ?_⟩
  cases hr : f ρ m with
  | no => rw [hr] at p; exact p
  | ex e m1 => rw [hr] at p; exact p
  | ok x m1 =>
    obtain ⟨b, rfl⟩ := hb x m1 hr
    rw [hr] at p
    intro b' G' ι' H' e g r
    cases r
    exact ⟨G', ι', m1, e, g, ev.ext e, PostS.ext e p⟩
theorem ss_nil : SSs X W [] sNil := ⟨pss_weak pss_nil fun D σ H ⟨G, ι, ρ, m, g, ev, p⟩ => p σ G ι H (Ext.refl ..) g ev⟩
theorem ss_one {s : SS} (h : SSt X W st s) : SSs X W [st] s := ⟨pss_one h.ps⟩
theorem ss_cons {s t : SS} (h : SSt X W st s) (h2 : SSs X W sts t) : SSs X W (st :: sts) (sSeq s t) := by
  refine ⟨pss_weak (pss_cons h.ps h2.pss) fun D σ H ⟨G, ι, ρ, m, g, ev, p⟩ => ⟨G, ι, ρ, m, g, ev, ?_⟩⟩
  unfold sSeq at p
  cases hr : s ρ m with
  | nx ρ1 m1 =>
    rw [hr] at p
    exact fun σ' G' ι' H' e g' ev' => ⟨G', ι', ρ1, m1, g', ev', p.ext e⟩
  | bk ρ1 m1 => rw [hr] at p; exact p
  | ct ρ1 m1 => rw [hr] at p; exact p
  | rt v m1 => rw [hr] at p; exact p
  | ex v m1 => rw [hr] at p; exact p
  | no => rw [hr] at p; exact p
theorem ss_pass : SSt X W (.Pass pos) sPass := ⟨ps_weak ps_pass fun D σ H ⟨G, ι, ρ, m, g, ev, p⟩ => p σ G ι H (Ext.refl ..) g ev⟩
theorem ss_brk : SSt X W (.Break pos) sBrk := ⟨ps_weak ps_break fun D σ H ⟨G, ι, ρ, m, g, ev, p⟩ => p σ G ι H (Ext.refl ..) g ev⟩
theorem ss_cnt : SSt X W (.Continue pos) sCnt := ⟨ps_weak ps_continue fun D σ H ⟨G, ι, ρ, m, g, ev, p⟩ => p σ G ι H (Ext.refl ..) g ev⟩
theorem ss_expr (h : SEx X W e f) (hs : swapsWith e none pos.line X.env = pure false := by rfl) : SSt X W (.Expr e pos) (sExpr f) := by
  refine ⟨ps_weak (ps_expr h.pe hs) fun D σ H ⟨G, ι, ρ, m, g, ev, p⟩ => ?_⟩
  exact tE_mono (run_e (Q := True) g ev p) fun v H' ⟨G', ι', m', x, _, g', ev', _, q⟩ => q σ G' ι' H' (Ext.refl ..) g' ev'
theorem ss_ret (h : SEx X W e f) : SSt X W (.Return (some e) pos) (sRet f) := by
  refine ⟨ps_weak (ps_ret h.pe) fun D σ H ⟨G, ι, ρ, m, g, ev, p⟩ => ?_⟩
  exact tE_mono (run_e (Q := True) g ev p) fun v H' ⟨G', ι', m', x, _, g', ev', r, q⟩ => q v G' ι' H' (Ext.refl ..) g' r
theorem ss_retN : SSt X W (.Return none pos) sRetN := ⟨ps_weak ps_retN fun D σ H ⟨G, ι, ρ, m, g, ev, p⟩ => p .non G ι H (Ext.refl ..) g .non⟩
theorem ss_if {sa sb : List Stmt} {s t : SS} (hc : STe X W c fc) (ha : SSs X W sa s) (hb : SSs X W sb t) : SSt X W (.If c sa sb pos) (sIf fc s t) := by
  refine ⟨ps_weak (ps_if hc.pt ha.pss hb.pss) fun D σ H ⟨G, ι, ρ, m, g, ev, p⟩ => ?_⟩
  refine tTe_mono (run_t g ev p) fun k H1 ⟨G1, ι1, m1, x1, g1, ev1, p1⟩ => ?_
  cases k with
  | true => rw [if_pos rfl] at p1 ⊢; exact ⟨G1, ι1, ρ, m1, g1, ev1, p1⟩
  | false => rw [if_neg (by decide)] at p1 ⊢; exact ⟨G1, ι1, ρ, m1, g1, ev1, p1⟩
theorem asg_post {is : List Nat} {te : TE} (h : te σ H fun v H' => ∃ G ι m x, GR X.kx G ι m H' ∧ EnvR X.kx G ι ρ σ ∧ RepV X.kx G ι v x ∧ PostS X W D G ι H' (match tgt x ρ with
    | some ρ1 => .nx ρ1 m
    | none => .no)) (mono : ∀ {Q Q' : VK}, te σ H Q → (∀ v H', Q v H' → Q' v H') → te σ H Q') : tAsg te (tG X is tgt) D σ H := by
  refine mono h fun v H' ⟨G, ι, m, x, g, ev, r, p⟩ => ⟨G, ι, ρ, m, x, g, ev, r, ?_⟩
  cases ht : tgt x ρ with
  | none => rw [ht] at p; exact p
  | some ρ1 => rw [ht] at p; exact fun σ' e _ => p σ' G ι H' (Ext.refl ..) g e
theorem ss_asg {is : List Nat} (hg : STg X tg is tgt) (h : SEx X W e f) (hs : swapsWithSole [tg] e pos.line X.env = pure false := by rfl) (hw : swappedStores [tg] e X.env = pure none := by rfl)
    (h1 : (assignEach [tg] X.env).map (·.2) = [assign tg X.env] := by rfl) : SSt X W (.Assign [tg] e pos) (sAsg tgt f) := by
  refine ⟨ps_weak (ps_asg h.pe hg.pg hs hw h1) fun D σ H ⟨G, ι, ρ, m, g, ev, p⟩ => ?_⟩
  refine asg_post (ρ := ρ) (tE_mono (run_e (Q := True) g ev p) fun v H' ⟨G', ι', m', x, _, g', ev', r, q⟩ => ⟨G', ι', m', x, g', ev', r, q⟩) tE_mono
/-- name = [..], in one row -/
theorem ss_asgLc {i : Nat} {y : Str} {py spos : Pos} {scope : Scope} {own : List (Str × Nat)} {ts : SE} (hc : X.calm = true) (hN : X.N.Nodup) (hi : SIx X W tg iter fi) (ok : BlkOk X.N X.env.scope scope own)
    (hg : ∀ (s : Shared) (H : Hp) (C : Addr) (cl : List (Str × Addr)) (fp : List Addr), STg (X.blk s H scope (compEnvC scope cl C X.env) fp) tg (own.map (·.2)) tgt) (ht : ∀ (s : Shared) (H : Hp) (C : Addr) (cl : List (Str × Addr)) (fp : List Addr), STs (X.blk s H scope (compEnvC scope cl C X.env) fp) ifs ts)
    (he : ∀ (s : Shared) (H : Hp) (C : Addr) (cl : List (Str × Addr)) (fp : List Addr), SEx (X.blk s H scope (compEnvC scope cl C X.env) fp) W0 elt fe)
    (hsw : swapsWith (.ListComp elt [⟨tg, iter, ifs, 0⟩] scope pos) (some (.Name y py)) spos.line X.env = pure true) (hyl : X.env.scope.names.lookup y = some .local := by rfl) (hy : X.N[i]? = some y := by rfl) (hs : ∀ x, foldedSetIterable iter X.env x = pure x := by intro _; rfl) :
    SSt X W (.Assign [.Name y py] (.ListComp elt [⟨tg, iter, ifs, 0⟩] scope pos) spos) (sAsg (tN i) (eFz (nLc (own.map (·.2)) fi tgt ts fe))) := by
  refine ⟨ps_weak (ps_setLc (g := tG X (List.map (fun (x : Str × Nat) => x.2) own) tgt) (tt := tTe X W0 ts) (te := tE X W0 fe) hc hN hy hyl hsw hi.pi ok (fun s H C cl fp => (hg s H C cl fp).pg) (fun s H C cl fp => (ht s H C cl fp).pt) (fun s H C cl fp => (he s H C cl fp).pe) hs) fun D σ H ⟨G, ι, ρ, m, g, ev, p⟩ => ?_⟩
  refine ne_lc (fe := fe) ⟨G, ι, ρ, m, g, ev, ?_⟩
  unfold sAsg eFz at p
  cases hr : nLc (own.map (·.2)) fi tgt ts fe ρ m with
  | no => rw [hr] at p; exact p
  | ex e m1 => rw [hr] at p; exact p
  | ok xs m1 =>
    rw [hr] at p
    intro q vs G' ι' H' e g' hq r
    obtain ⟨g2, e2⟩ := g'.lay hq (.lst vs)
    have q2 : PostS X W D G ι H (.nx (ρ.set i (some (.d (.lst xs)))) m1) := p
    exact q2 _ _ _ _ (e.trans e2) g2 (((ev.ext e).ext e2).set (x := .d (.lst xs)) (.lst (SqL.of upd_same) (RepAll.mono e2.sub r)) i)
theorem ss_asgLcN {i : Nat} {y : Str} {py spos : Pos} {scope : Scope} {own : List (Str × Nat)} {ts : SE} (hc : X.calm = true) (hN : X.N.Nodup) (hi : SIx X W tg iter fi) (ok : BlkOk X.N X.env.scope scope own)
    (hg : ∀ (s : Shared) (H : Hp) (C : Addr) (cl : List (Str × Addr)) (fp : List Addr), STg (X.blk s H scope (compEnvC scope cl C X.env) fp) tg (own.map (·.2)) tgt) (ht : ∀ (s : Shared) (H : Hp) (C : Addr) (cl : List (Str × Addr)) (fp : List Addr), STs (X.blk s H scope (compEnvC scope cl C X.env) fp) ifs ts)
    (he : ∀ (s : Shared) (H : Hp) (C : Addr) (cl : List (Str × Addr)) (fp : List Addr), SEx (X.blk s H scope (compEnvC scope cl C X.env) fp) W0 elt fe)
    (hsw : swapsWith (.ListComp elt [⟨tg, iter, ifs, 0⟩] scope pos) (some (.Name y py)) spos.line X.env = pure true) (hyl : X.env.scope.names.lookup y = some .local := by rfl) (hy : X.N[i]? = some y := by rfl) (hs : ∀ x, foldedSetIterable iter X.env x = pure x := by intro _; rfl) :
    SSt X W (.Assign [.Name y py] (.ListComp elt [⟨tg, iter, ifs, 0⟩] scope pos) spos) (sAsg (tN i) (eNw (nLc (own.map (·.2)) fi tgt ts fe))) := by
  refine ⟨ps_weak (ps_setLc (g := tG X (List.map (fun (x : Str × Nat) => x.2) own) tgt) (tt := tTe X W0 ts) (te := tE X W0 fe) hc hN hy hyl hsw hi.pi ok (fun s H C cl fp => (hg s H C cl fp).pg) (fun s H C cl fp => (ht s H C cl fp).pt) (fun s H C cl fp => (he s H C cl fp).pe) hs) fun D σ H ⟨G, ι, ρ, m, g, ev, p⟩ => ?_⟩
  refine ne_lc (fe := fe) ⟨G, ι, ρ, m, g, ev, ?_⟩
  unfold sAsg eNw at p
  cases hr : nLc (own.map (·.2)) fi tgt ts fe ρ m with
  | no => rw [hr] at p; exact p
  | ex e m1 => rw [hr] at p; exact p
  | ok xs m1 =>
    rw [hr] at p
    intro q vs G' ι' H' e g' hq r
    obtain ⟨g2, e2⟩ := g'.alloc hq r
    have q2 : PostS X W D G ι H (.nx (ρ.set i (some (.obj m1.length))) (m1 ++ [.l1 xs])) := p
    refine q2 _ _ _ _ (e.trans e2) g2 (((ev.ext e).ext e2).set (x := .obj m1.length) ⟨q, [], ?_, rfl⟩ i)
    rw [← g'.len, List.getElem?_append_right (Nat.le_refl _)]
    simp
/-! a, b = x, y -/
theorem setPV2 {i j : Nat} {xs : List PV} {ρ' : Env} (h : setPV [i, j] xs ρ = some ρ') : ∃ x y, xs = [x, y] ∧ ρ' = (ρ.set i (some x)).set j (some y) := by
  match xs, h with
  | [x, y], h => cases h; exact ⟨x, y, rfl, rfl⟩
  | [], h => cases h
  | [_], h => cases h
  | _ :: _ :: _ :: _, h => cases h
theorem setPV3 {i j k : Nat} {xs : List PV} {ρ' : Env} (h : setPV [i, j, k] xs ρ = some ρ') : ∃ x y z, xs = [x, y, z] ∧ ρ' = ((ρ.set i (some x)).set j (some y)).set k (some z) := by
  match xs, h with
  | [x, y, z], h => cases h; exact ⟨x, y, z, rfl, rfl⟩
  | [], h => cases h
  | [_], h => cases h
  | [_, _], h => cases h
  | _ :: _ :: _ :: _ :: _, h => cases h
theorem ss_par2 (i j : Nat) {x y : Str} {px py pt : Pos} {kt k2 pt2} (hc : X.calm = true) (hN : X.N.Nodup) (ha : SAr X W [a, b] fs) (hw : swappedStores [.Tuple [.Name x px, .Name y py] kt pt] (.Tuple [a, b] k2 pt2) X.env = pure (some [x, y]))
    (hi : X.N[i]? = some x := by rfl) (hj : X.N[j]? = some y := by rfl) (hij : i ≠ j := by decide) (hx : X.env.scope.names.lookup x = some .local := by rfl) (hy : X.env.scope.names.lookup y = some .local := by rfl)
    (hs : swapsWithSole [.Tuple [.Name x px, .Name y py] kt pt] (.Tuple [a, b] k2 pt2) pos.line X.env = pure false := by rfl) :
    SSt X W (.Assign [.Tuple [.Name x px, .Name y py] kt pt] (.Tuple [a, b] k2 pt2) pos) (sPar [i, j] fs) := by
  refine ⟨ps_weak (ps_par hc hN hi hj hij hx hy ha.pa hw hs) fun D σ H ⟨G, ι, ρ, m, g, ev, p⟩ => ?_⟩
  refine tA_mono (run_a g ev p) fun vs H' ⟨G', ι', m', xs, _, g', ev', r, q⟩ => ?_
  cases hp : setPV [i, j] xs ρ with
  | none => rw [hp] at q; exact q.elim
  | some ρ1 =>
    rw [hp] at q
    obtain ⟨x, y, rfl, rfl⟩ := setPV2 hp
    cases r with
    | cons r1 r =>
      cases r with
      | cons r2 r =>
        cases r
        exact ⟨_, _, rfl, q _ G' ι' H' (Ext.refl ..) g' ((ev'.set r1 i).set r2 j)⟩
theorem ss_par3 (i j l : Nat) {x y z : Str} {px py pz pt : Pos} {kt k2 pt2} (hc : X.calm = true) (hN : X.N.Nodup) (ha : SAr X W [a, b, c] fs) (hw : swappedStores [.Tuple [.Name x px, .Name y py, .Name z pz] kt pt] (.Tuple [a, b, c] k2 pt2) X.env = pure (some [x, y, z]))
    (hi : X.N[i]? = some x := by rfl) (hj : X.N[j]? = some y := by rfl) (hl : X.N[l]? = some z := by rfl) (hij : i ≠ j := by decide) (hil : i ≠ l := by decide) (hjl : j ≠ l := by decide)
    (hx : X.env.scope.names.lookup x = some .local := by rfl) (hy : X.env.scope.names.lookup y = some .local := by rfl) (hz : X.env.scope.names.lookup z = some .local := by rfl)
    (hs : swapsWithSole [.Tuple [.Name x px, .Name y py, .Name z pz] kt pt] (.Tuple [a, b, c] k2 pt2) pos.line X.env = pure false := by rfl) :
    SSt X W (.Assign [.Tuple [.Name x px, .Name y py, .Name z pz] kt pt] (.Tuple [a, b, c] k2 pt2) pos) (sPar [i, j, l] fs) := by
  refine ⟨ps_weak (ps_par3 hc hN hi hj hl hij hil hjl hx hy hz ha.pa hw hs) fun D σ H ⟨G, ι, ρ, m, g, ev, p⟩ => ?_⟩
  refine tA_mono (run_a g ev p) fun vs H' ⟨G', ι', m', xs, _, g', ev', r, q⟩ => ?_
  cases hp : setPV [i, j, l] xs ρ with
  | none => rw [hp] at q; exact q.elim
  | some ρ1 =>
    rw [hp] at q
    obtain ⟨x, y, z, rfl, rfl⟩ := setPV3 hp
    cases r with
    | cons r1 r =>
      cases r with
      | cons r2 r =>
        cases r with
        | cons r3 r =>
          cases r
          exact ⟨_, _, _, rfl, q _ G' ι' H' (Ext.refl ..) g' (((ev'.set r1 i).set r2 j).set r3 l)⟩
/-- .. by a tuple that is made -/
def tGp (X : Cx) (js : List Nat) : TGs := fun vs σ H Q => ∃ G ι ρ m xs, GR X.kx G ι m H ∧ EnvR X.kx G ι ρ σ ∧ Paired (RepV X.kx G ι) vs xs ∧ match setPV js xs ρ with
  | some ρ' => ∀ σ', EnvR X.kx G ι ρ' σ' → Q σ' H
  | none => False
structure STp (X : Cx) (es : List Expr) (js : List Nat) : Prop where
  pg : PGs X es (tGp X js)
theorem tp_nil : STp X [] [] := by
  refine ⟨pgs_weak pgs_nil fun vs σ H Q ⟨G, ι, ρ, m, xs, g, ev, r, q⟩ => ?_⟩
  cases r with
  | nil => exact ⟨rfl, q σ ev⟩
  | cons _ _ => exact q.elim
theorem tp_cons (i : Nat) {x : Str} {js : List Nat} (hN : X.N.Nodup) (h : STp X es js) (hx : Loc X.env.scope x := by first | exact Or.inl rfl | exact Or.inr rfl) (hi : X.N[i]? = some x := by rfl) (hf : X.fn x = true ∨ X.env.scope.names.lookup x = some .local := by first | exact .inl rfl | exact .inr rfl | assumption)
    (hs : (assignEach (.Name x pos :: es) X.env).map (·.2) = assign (.Name x pos) X.env :: (assignEach es X.env).map (·.2) := by rfl) : STp X (.Name x pos :: es) (i :: js) := by
  refine ⟨pgs_weak (pgs_cons (pg_name hN hi hx hf) h.pg hs) fun vs σ H Q ⟨G, ι, ρ, m, xs, g, ev, r, q⟩ => ?_⟩
  cases r with
  | nil => exact q.elim
  | @cons v d vs ds r t => exact ⟨v, vs, rfl, ⟨G, ι, ρ.set i (some d), m, ds, g, ev.set r i, t, q⟩⟩
theorem setPV_len : ∀ {js : List Nat} {xs : List PV} {ρ ρ' : Env}, setPV js xs ρ = some ρ' → xs.length = js.length
  | [], [], _, _, _ => rfl
  | [], _ :: _, _, _, h => by cases h
  | _ :: _, [], _, _, h => by cases h
  | _ :: js, _ :: xs, ρ, ρ', h => by simp [setPV_len (js := js) (xs := xs) h]
theorem ss_parT {ts : List Expr} {js : List Nat} {kt k2 n : Nat} {pt pt2 : Pos} (hc : X.calm = true) (ha : SAr X W es fs) (hg : STp X ts js) (hl : js.length = n := by rfl) (hn : (assignEach ts X.env).length = n := by rfl) (hst : (assignEach ts X.env).findIdx? (·.1) = none := by rfl) (hsm : js.length ≤ 1000 := by decide)
    (hs : swapsWithSole [.Tuple ts kt pt] (.Tuple es k2 pt2) pos.line X.env = pure false := by rfl) (hw : swappedStores [.Tuple ts kt pt] (.Tuple es k2 pt2) X.env = pure none := by rfl)
    (h1 : (assignEach [.Tuple ts kt pt] X.env).map (·.2) = [assign (.Tuple ts kt pt) X.env] := by rfl) : SSt X W (.Assign [.Tuple ts kt pt] (.Tuple es k2 pt2) pos) (sPar js fs) := by
  refine ⟨ps_weak (ps_asg (pe_tup ha.pa) (pg_tup hc hg.pg hn hst) hs hw h1) fun D σ H ⟨G, ι, ρ, m, g, ev, p⟩ => ?_⟩
  refine tA_mono (run_a g ev p) fun vs H' ⟨G', ι', m', xs, _, g', ev', r, q⟩ => ?_
  cases hp : setPV js xs ρ with
  | none => rw [hp] at q; exact q.elim
  | some ρ1 =>
    rw [hp] at q
    have hlen := setPV_len hp
    have hvl := paired_len r
    refine ⟨by rw [sizeLine_eq]; omega, fun t ht => ?_⟩
    obtain ⟨g1, g2⟩ := g'.fresh ht
    refine ⟨t, vs, rfl, SqT.of upd_same, by rw [hvl, hlen, hl], ?_⟩
    refine ⟨G', ι', ρ, m', xs, g'.other g2 g1 _, ev', r, ?_⟩
    rw [hp]
    exact fun σ' e => q σ' G' ι' _ (ext_other (Ext.refl ..) ht _) (g'.other g2 g1 _) e
/-! x op= e -/
theorem ss_aug (i : Nat) {x : Str} {op : Operator} {f2 : DI.D → DI.D → Option DI.D} {r : R2} {pos' : Pos} (ho : OpR X (inplaceOp op) r) (hf : Op2 X f2 r) (hN : X.N.Nodup) (h : SEx X W e f) (hx : Loc X.env.scope x := by first | exact Or.inl rfl | exact Or.inr rfl) (hi : X.N[i]? = some x := by rfl)
    (hfn : X.fn x = true ∨ X.env.scope.names.lookup x = some .local := by first | exact .inl rfl | exact .inr rfl | assumption) : SSt X W (.AugAssign (.Name x pos') op e pos) (sAug i f2 f) := by
  refine ⟨ps_weak (ps_aug hN hi hx h.pe (fun pins s σ H x y v u Q I rx ry q => ho pins s σ H x y v u Q I rx ry q) hfn) fun D σ H ⟨G, ι, ρ, m, g, ev, p⟩ => ?_⟩
  unfold sAug at p
  cases h1 : ρ[i]? with
  | none => rw [h1] at p; exact p.elim
  | some o =>
    match o, h1 with
    | none, h1 => rw [h1] at p; exact p.elim
    | some (.obj _), h1 => rw [h1] at p; exact p.elim
    | some (.raw _), h1 => rw [h1] at p; exact p.elim
    | some (.d x), h1 =>
      rw [h1] at p
      obtain ⟨v, hv, rv⟩ := ev.2 i _ h1
      refine ⟨v, hv, tE_mono (run_e (Q := True) g ev p) fun u H' ⟨G', ι', m', y, x1, g', ev', r, q⟩ => ?_⟩
      cases hy : vw m' y with
      | none => rw [hy] at q; exact q.elim
      | some dy =>
        rw [hy] at q
        cases hd : f2 x dy with
        | none => rw [show (some dy).bind (f2 x) = f2 x dy from rfl, hd] at q; exact q.elim
        | some d =>
          rw [show (some dy).bind (f2 x) = f2 x dy from rfl, hd] at q
          have rv' : RepV X.kx G' ι' v (.d x) := rv.ext x1
          exact hf g' (rv'.view g' rfl) (r.view g' hy) hd fun w G2 H2 e2 g2 r2 => q _ _ _ _ e2 g2 ((ev'.ext e2).set (x := .d d) r2 i)
/-! ### loops -/
theorem forL_cons (tgt : Tg) (s : SS) (x : DI.D) (xs : List DI.D) (ρ : Env) (m : Mem) : forL tgt s (x :: xs) ρ m = match tgt (.d x) ρ with
    | none => .no
    | some ρ1 => match s ρ1 m with
      | .nx ρ2 m2 => forL tgt s xs ρ2 m2
      | .ct ρ2 m2 => forL tgt s xs ρ2 m2
      | .bk ρ2 m2 => .nx ρ2 m2
      | o => o := rfl
theorem ss_for {is : List Nat} {body : List Stmt} {s : SS} (hp : PassesOwn (model X.prog X.w) X.A X.env X.xe) (hc : X.calm = true) (hi : SIx X W tg iter fi) (hg : STg X tg is tgt) (hb : SSs X W body s) (hs : ∀ x, foldedSetIterable iter X.env x = pure x := by intro _; rfl) :
    SSt X W (.For tg iter body [] pos) (sFor tgt fi s) := by
  refine ⟨ps_weak (ps_for hp hc hi.pi hg.pg hb.pss hs) fun D σ H ⟨G, ι, ρ, m, g, ev, p⟩ => ⟨G, ι, ρ, m, g, ev, ?_⟩⟩
  unfold sFor at p
  cases hr : fi ρ m with
  | no => rw [hr] at p; exact p
  | ex e m1 => rw [hr] at p; exact p
  | ok xs m1 =>
    rw [hr] at p
    intro J G1 ι1 H1 e1 g1 wk
    have p1 : PostS X W D G1 ι1 H1 (forL tgt s xs ρ m1) := PostS.ext e1 p
    refine ⟨fun i k σ' H' => k = xs.length - i ∧ i ≤ xs.length ∧ ∃ G' ι' ρ' m', Sub G1 G' ∧ GR X.kx G' ι' m' H' ∧ EnvR X.kx G' ι' ρ' σ' ∧ PostS X W D G' ι' H' (forL tgt s (xs.drop i) ρ' m'), ⟨xs.length, by simp, Nat.zero_le _, G1, ι1, ρ, m1, Sub.refl _, g1, ev.ext e1, by simpa using p1⟩, ?_⟩
    rintro i k σ2 H2 ⟨rfl, hi, G2, ι2, ρ2, m2, s2, g2, ev2, p2⟩
    by_cases hlt : i < xs.length
    · refine .inr ⟨wk.goes i G2 ι2 m2 H2 hlt s2 g2, fun σ' H' => ∃ G' ι' ρ' m', Sub G1 G' ∧ GR X.kx G' ι' m' H' ∧ EnvR X.kx G' ι' ρ' σ' ∧ PostS X W D G' ι' H' (forL tgt s (xs.drop (i + 1)) ρ' m'), fun σ' H' h => ⟨xs.length - (i + 1), by omega, rfl, hlt, h⟩, fun v H3 y => ?_⟩
      obtain ⟨G3, d, hd, e3, g3, r3⟩ := wk.yields i G2 ι2 m2 H2 v H3 hlt s2 g2 y
      have hxd : xs[i] = d := by rw [List.getElem?_eq_getElem hlt] at hd; exact Option.some.inj hd
      rw [List.drop_eq_getElem_cons hlt, hxd, forL_cons] at p2
      refine ⟨G3, ι2, ρ2, m2, .d d, g3, ev2.ext e3, r3, ?_⟩
      cases ht : tgt (.d d) ρ2 with
      | none => rw [ht] at p2; exact p2.elim
      | some ρ3 =>
        rw [ht] at p2
        intro σ3 ev3 _
        refine ⟨G3, ι2, ρ3, m2, g3, ev3, ?_⟩
        have p3 := PostS.ext e3 p2
        dsimp only at p3
        cases hb : s ρ3 m2 with
        | no => rw [hb] at p3; exact p3
        | ex v4 m4 => rw [hb] at p3; exact p3
        | rt v4 m4 => rw [hb] at p3; exact p3
        | bk ρ4 m4 => rw [hb] at p3; exact p3
        | nx ρ4 m4 =>
          rw [hb] at p3
          exact fun σ' G' ι' H' e g ev => ⟨G', ι', ρ4, m4, (s2.trans e3.sub).trans e.sub, g, ev, PostS.ext e p3⟩
        | ct ρ4 m4 =>
          rw [hb] at p3
          exact fun σ' G' ι' H' e g ev => ⟨G', ι', ρ4, m4, (s2.trans e3.sub).trans e.sub, g, ev, PostS.ext e p3⟩
    · have hie : i = xs.length := by omega
      subst hie
      rw [List.drop_length] at p2
      exact .inl ⟨wk.stops G2 ι2 m2 H2 s2 g2, p2 σ2 G2 ι2 H2 (Ext.refl ..) g2 ev2⟩
theorem whL_succ (c : SE) (b : SS) (n : Nat) (ρ : Env) (m : Mem) : whL c b (n + 1) ρ m = (c ρ m).run (tstO fun t m => if t = true then (match b ρ m with
      | .nx ρ2 m2 => whL c b n ρ2 m2
      | .ct ρ2 m2 => whL c b n ρ2 m2
      | .bk ρ2 m2 => .nx ρ2 m2
      | o => o) else .nx ρ m) := rfl
theorem ss_while (n : Nat) {body : List Stmt} {s : SS} (hp : PassesOwn (model X.prog X.w) X.A X.env X.xe) (hc : STe X W c fc) (hb : SSs X W body s) : SSt X W (.While c body [] pos) (whL fc s n) := by
  refine ⟨ps_weak (ps_while hp hc.pt hb.pss) fun D σ H ⟨G, ι, ρ, m, g, ev, p⟩ => ?_⟩
  refine ⟨fun k σ' H' => ∃ G' ι' ρ' m', GR X.kx G' ι' m' H' ∧ EnvR X.kx G' ι' ρ' σ' ∧ PostS X W D G' ι' H' (whL fc s k ρ' m'), ⟨n, G, ι, ρ, m, g, ev, p⟩, ?_⟩
  rintro k σ2 H2 ⟨G2, ι2, ρ2, m2, g2, ev2, p2⟩
  cases k with
  | zero => exact p2.elim
  | succ k =>
    rw [whL_succ] at p2
    refine tTe_mono (run_t g2 ev2 p2) fun b H3 ⟨G3, ι3, m3, e3, g3, ev3, p3⟩ => ?_
    cases b with
    | false => rw [if_neg (by decide)] at p3 ⊢; exact p3 σ2 G3 ι3 H3 (Ext.refl ..) g3 ev3
    | true =>
      rw [if_pos rfl] at p3 ⊢
      refine ⟨fun σ' H' => ∃ G' ι' ρ' m', GR X.kx G' ι' m' H' ∧ EnvR X.kx G' ι' ρ' σ' ∧ PostS X W D G' ι' H' (whL fc s k ρ' m'), fun σ' H' h => ⟨k, Nat.lt_succ_self k, h⟩, G3, ι3, ρ2, m3, g3, ev3, ?_⟩
      cases hb : s ρ2 m3 with
      | no => rw [hb] at p3; exact p3
      | ex v4 m4 => rw [hb] at p3; exact p3
      | rt v4 m4 => rw [hb] at p3; exact p3
      | bk ρ4 m4 => rw [hb] at p3; exact p3
      | nx ρ4 m4 => rw [hb] at p3; exact fun σ' G' ι' H' e g ev => ⟨G', ι', ρ4, m4, g, ev, PostS.ext e p3⟩
      | ct ρ4 m4 => rw [hb] at p3; exact fun σ' G' ι' H' e g ev => ⟨G', ι', ρ4, m4, g, ev, PostS.ext e p3⟩
end
end DI
namespace DI
open PySem PySem.Spec PyProof.Rows L2
section
variable {X : Cx} {W : XK} {a b c e elt tg iter : Expr} {es rest ifs : List Expr} {fa fb fc f fe fk : SE} {fi : IE} {tgt : Tg} {fs : List SE} {pos p : Pos} {G H : Hp} {ι : Io} {ρ : Env} {m : Mem} {σ : L2.St} {st : Stmt} {sts : List Stmt} {Dn : Ends}
/-! ### objects changed -/
theorem GR.write {K : Kx} (g : GR K G ι m H) {i : Nat} {q : Addr} {l : List Addr} {xs : List DI.D} (hi : ι[i]? = some (q :: l)) (hm : m[i]? = some (.l1 xs)) {vs : List V} {ys : List DI.D} (r : RepAll K G vs ys) :
    GR K G ι (m.set i (.l1 ys)) (upd H q (.lst vs)) ∧ Ext G ι H G ι (upd H q (.lst vs)) := by
  obtain ⟨a, ws, ea, g0, h0, r0⟩ := g.obj i _ _ hi hm
  cases ea
  have hq : q ∈ ι.flatten := mem_io hi (by simp)
  have apart : ∀ (j : Nat) (l' : List Addr), j ≠ i → ι[j]? = some l' → q ∉ l' := by
    intro j l' hj hl hq'
    have nd := g.nd
    have key : ∀ (L : Io) (i j : Nat) (l l' : List Addr), L.flatten.Nodup → L[i]? = some l → L[j]? = some l' → j ≠ i → q ∈ l → q ∈ l' → False := by
      intro L
      induction L with
      | nil => intro i j l l' _ h; simp at h
      | cons x L ih =>
        intro i j l l' nd hi hj hne h1 h2
        rw [List.flatten_cons, List.nodup_append] at nd
        cases i with
        | zero =>
          cases j with
          | zero => exact hne rfl
          | succ j =>
            simp at hi hj
            subst hi
            exact nd.2.2 q h1 q (mem_io hj h2) rfl
        | succ i =>
          cases j with
          | zero =>
            simp at hi hj
            subst hj
            exact nd.2.2 q h2 q (mem_io hi h1) rfl
          | succ j =>
            simp at hi hj
            exact ih i j l l' nd.2.1 hi hj (fun e => hne (by rw [e])) h1 h2
    exact key ι i j _ l' nd hi hl hj (by simp) hq'
  refine ⟨⟨sub_updR g.sub g0, by simp [g.len], g.nd, fun j l' o hl ho => ?_⟩, Sub.refl G, ⟨[], by simp, by simp⟩, fun x o h hn => ?_, fun x h => ?_, fun x o h => .inl h⟩
  · by_cases hj : j = i
    · subst hj
      rw [hi] at hl
      cases hl
      rw [List.getElem?_set_self (List.getElem?_eq_some_iff.mp hm).1] at ho
      cases ho
      exact ⟨q, vs, rfl, g0, upd_same, r⟩
    · rw [List.getElem?_set_ne (Ne.symm hj)] at ho
      refine (g.obj j l' o hl ho).mono (Sub.refl G) fun x hx => ⟨id, ?_⟩
      rw [upd_ne]
      rintro rfl
      exact apart j l' hj hl hx
  · rw [upd_ne]
    · exact h
    · rintro rfl
      exact hn hq
  · by_cases z : x = q
    · subst z; rw [upd_same] at h; cases h
    · rw [upd_ne z] at h; exact h
/-- the list of an object is read -/
theorem GR.objL {K : Kx} (g : GR K G ι m H) {i : Nat} {q : Addr} {l : List Addr} {xs : List DI.D} (hi : ι[i]? = some (q :: l)) (hm : m[i]? = some (.l1 xs)) : ∃ vs, H q = some (.lst vs) := by
  obtain ⟨a, vs, ea, _, h1, _⟩ := g.obj i _ _ hi hm
  cases ea
  exact ⟨vs, h1⟩
/-- an object that is a list now -/
theorem isL1 {o : Option MO} {k : Out} {Dn : Ends} (p : PostS X W Dn G ι H (match o with
    | some (.l1 _) => k
    | _ => .no)) : ∃ xs, o = some (.l1 xs) ∧ PostS X W Dn G ι H k := by
  match o, p with
  | some (.l1 xs), p => exact ⟨xs, rfl, p⟩
  | some (.fz _), p => exact p.elim
  | some (.tab _ _), p => exact p.elim
  | some (.l2 _), p => exact p.elim
  | none, p => exact p.elim
theorem ss_app {apos cpos : Pos} (ha : SEx X W a fa) (he : SEx X W e fe) (hbase : attributeBase a "append" X.env (eval a X.env) = eval a X.env := by rfl)
    (hfew : ((backTo cpos (starEach (e :: []) X.env)).all (fun x => !x.1) && (backToKw cpos (keywordEach [] X.env)).all (fun x => x.1.isSome)
      && decide ((e :: []).length + ([] : List Keyword).length + (if ([] : List Keyword).isEmpty then 0 else 1) < 30)) = true := by rfl)
    (hline : (apos.endLine == cpos.line) = true := by rfl) (hs : starEach (e :: []) X.env = (false, eval e X.env) :: starEach [] X.env := by rfl) :
    SSt X W (.Expr (.Call (.Attribute a "append" apos) [e] [] cpos) pos) (sApp fa fe) := by
  refine ⟨ps_weak (ps_expr (pe_bm PySem.F.plainAttrs_list PySem.F.slot_list_append PySem.F.type_list_append (show MtR X "list.append" rAppend from mt_append) ha.pe (pa_cons he.pe pa_nil hs) hbase hfew hline hs (by rfl)) (by rfl)) fun D σ H ⟨G, ι, ρ, m, g, ev, p⟩ => ?_⟩
  refine tE_mono (run_e (Q := True) g ev p) fun v H1 ⟨G1, ι1, m1, x, x1, g1, ev1, r1, p1⟩ => ?_
  cases x with
  | d x => exact p1.elim
  | raw a => exact p1.elim
  | obj i =>
    obtain ⟨q, l, hi, rfl⟩ := r1
    obtain ⟨xs0, hm0, p1⟩ := isL1 p1
    obtain ⟨vs0, h0⟩ := g1.objL hi hm0
    refine ⟨.inl ⟨rfl, vs0, SqL.of h0⟩, ?_⟩
    refine tE_mono (run_e (Q := True) g1 ev1 p1) fun u H2 ⟨G2, ι2, m2, y, x2, g2, ev2, r2, p2⟩ => ?_
    cases y with
    | obj j => exact p2.elim
    | raw a => exact p2.elim
    | d y =>
      cases hm : m2[i]? with
      | none => rw [hm] at p2; exact p2.elim
      | some o =>
        rw [hm] at p2
        cases o with
        | tab _ _ => exact p2.elim
        | l2 _ => exact p2.elim
        | tp _ => exact p2.elim
        | dead => exact p2.elim
        | dk _ => exact p2.elim
        | fz xs => exact p2.elim
        | l1 xs =>
          have p3 : PostS X W D G2 ι2 H2 (if xs.length < lineL then .nx ρ (m2.set i (.l1 (xs ++ [y]))) else .no) := p2
          by_cases hlt : xs.length < lineL
          · rw [if_pos hlt] at p3
            have hi2 := x2.get hi
            obtain ⟨a', vs, ea, g0, h1, r⟩ := g2.obj i _ _ hi2 hm
            cases ea
            obtain ⟨g3, e3⟩ := g2.write hi2 hm (r.append (.cons r2 .nil))
            exact ⟨q, vs, u, rfl, rfl, h1, by rw [r.length, ← lineL_eq]; exact hlt, p3 σ _ _ _ e3 g3 (ev2.ext e3)⟩
          · rw [if_neg hlt] at p3; exact p3.elim
theorem ss_ext {fn : NE} {apos cpos : Pos} (ha : SEx X W a fa) (he : NEx X W e fn) (hbase : attributeBase a "extend" X.env (eval a X.env) = eval a X.env := by rfl)
    (hfew : ((backTo cpos (starEach (e :: []) X.env)).all (fun x => !x.1) && (backToKw cpos (keywordEach [] X.env)).all (fun x => x.1.isSome)
      && decide ((e :: []).length + ([] : List Keyword).length + (if ([] : List Keyword).isEmpty then 0 else 1) < 30)) = true := by rfl)
    (hline : (apos.endLine == cpos.line) = true := by rfl) (hs : starEach (e :: []) X.env = (false, eval e X.env) :: starEach [] X.env := by rfl) :
    SSt X W (.Expr (.Call (.Attribute a "extend" apos) [e] [] cpos) pos) (sExt fa fn) := by
  refine ⟨ps_weak (ps_expr (pe_bm PySem.F.plainAttrs_list PySem.F.slot_list_extend PySem.F.type_list_extend (show MtR X "list.extend" rExtend from mt_extend) ha.pe (pa_cons he.pe pa_nil hs) hbase hfew hline hs (by rfl)) (by rfl)) fun D σ H ⟨G, ι, ρ, m, g, ev, p⟩ => ?_⟩
  refine tE_mono (run_e (Q := True) g ev p) fun v H1 ⟨G1, ι1, m1, x, x1, g1, ev1, r1, p1⟩ => ?_
  cases x with
  | d x => exact p1.elim
  | raw a => exact p1.elim
  | obj i =>
    obtain ⟨q, l, hi, rfl⟩ := r1
    obtain ⟨xs0, hm0, p1⟩ := isL1 p1
    obtain ⟨vs0, h0⟩ := g1.objL hi hm0
    refine ⟨.inl ⟨rfl, vs0, SqL.of h0⟩, G1, ι1, ρ, m1, g1, ev1, ?_⟩
    cases hr : fn ρ m1 with
    | no => rw [hr] at p1; exact p1
    | ex e m2 => rw [hr] at p1; exact p1
    | ok ys m2 =>
      rw [hr] at p1
      intro q2 ws G2 ι2 H2 x2 g2 hq2 r2
      dsimp only [Res.run_ok] at p1
      cases hm : m2[i]? with
      | none => rw [hm] at p1; exact p1.elim
      | some o =>
        rw [hm] at p1
        cases o with
        | tab _ _ => exact p1.elim
        | l2 _ => exact p1.elim
        | tp _ => exact p1.elim
        | dead => exact p1.elim
        | dk _ => exact p1.elim
        | fz xs => exact p1.elim
        | l1 xs =>
          have p3 : PostS X W D G1 ι1 H1 (if xs.length + ys.length ≤ lineL then .nx ρ (m2.set i (.l1 (xs ++ ys))) else .no) := p1
          by_cases hlt : xs.length + ys.length ≤ lineL
          · rw [if_pos hlt] at p3
            have hi2 := x2.get hi
            obtain ⟨a', vs, ea, g0, h1, r⟩ := g2.obj i _ _ hi2 hm
            cases ea
            obtain ⟨gq, iq⟩ := g2.fresh hq2
            have g2' := g2.other iq gq (.lst ws)
            have hne : q ≠ q2 := ne_of_none h1 hq2
            obtain ⟨g3, e3⟩ := g2'.write hi2 hm (r.append r2)
            refine ⟨q, q2, vs, ws, rfl, rfl, by rw [upd_ne hne]; exact h1, upd_same, by rw [r.length, r2.length, ← lineL_eq]; exact hlt, ?_⟩
            have e4 : Ext G1 ι1 H1 G2 ι2 (upd H2 q2 (.lst ws)) := x2.trans (ext_other (Ext.refl ..) hq2 _)
            exact p3 σ _ _ _ (e4.trans e3) g3 ((ev1.ext e4).ext e3)
          · rw [if_neg hlt] at p3; exact p3.elim
theorem ss_setI {spos : Pos} (ha : SEx X W a fa) (hk : SEx X W b fk) (he : SEx X W e fe) (hs : swapsWithSole [.Subscript a b spos] e pos.line X.env = pure false := by rfl) (hw : swappedStores [.Subscript a b spos] e X.env = pure none := by rfl)
    (h1 : (assignEach [.Subscript a b spos] X.env).map (·.2) = [assign (.Subscript a b spos) X.env] := by rfl)
    (has : ∀ v, assign (.Subscript a b spos) X.env v = (do
      let ov ← holding [v] (eval a X.env)
      let iv ← holding [v, ov] (eval b X.env)
      standAt spos
      holding [v, ov, iv] (setItem ov iv v)
      release [v, ov, iv] []) := by intro _; rfl) : SSt X W (.Assign [.Subscript a b spos] e pos) (sSetI fa fk fe) := by
  refine ⟨ps_weak (ps_asg he.pe (pg_sub ha.pe hk.pe set_list has) hs hw h1) fun D σ H ⟨G, ι, ρ, m, g, ev, p⟩ => ?_⟩
  refine tE_mono (run_e (Q := True) g ev p) fun u H1 ⟨G1, ι1, m1, y, x1, g1, ev1, r1, p1⟩ => ?_
  refine tE_mono (run_e (Q := True) g1 ev1 p1) fun v H2 ⟨G2, ι2, m2, x, x2, g2, ev2, r2, p2⟩ => ?_
  refine tE_mono (run_e (Q := True) g2 ev2 p2) fun kk H3 ⟨G3, ι3, m3, z, x3, g3, ev3, r3, p3⟩ => ?_
  have key : ∃ i k d, x = .obj i ∧ z = .d (.int k) ∧ y = .d d := by
    match x, z, y, p3 with
    | .obj i, .d (.int k), .d d, _ => exact ⟨i, k, d, rfl, rfl, rfl⟩
    | .obj i, .d (.int k), .obj _, p => exact p.elim
    | .obj i, .d .non, _, p => exact p.elim
    | .obj i, .d (.bl _), _, p => exact p.elim
    | .obj i, .d (.str _), _, p => exact p.elim
    | .obj i, .d (.tup _), _, p => exact p.elim
    | .obj i, .d (.dct _ _), _, p => exact p.elim
    | .obj i, .d (.ins _ _ _), _, p => exact p.elim
    | .obj i, .d (.lst _), _, p => exact p.elim
    | .obj i, .obj _, _, p => exact p.elim
    | .d _, _, _, p => exact p.elim
  obtain ⟨i, k, d, rfl, rfl, rfl⟩ := key
  obtain ⟨q, l, hi, rfl⟩ := r2
  cases r3
  have hi3 := x3.get hi
  cases hm : m3[i]? with
  | none => dsimp only at p3; rw [hm] at p3; exact p3.elim
  | some o =>
    dsimp only at p3
    rw [hm] at p3
    cases o with
    | tab _ _ => exact p3.elim
    | l2 _ => exact p3.elim
    | tp _ => exact p3.elim
    | dead => exact p3.elim
    | dk _ => exact p3.elim
    | fz xs => exact p3.elim
    | l1 xs =>
      have p4 : PostS X W D G3 ι3 H3 (if 0 ≤ k ∧ k < xs.length then .nx ρ (m3.set i (.l1 (xs.set k.toNat d))) else .no) := p3
      by_cases hb : 0 ≤ k ∧ k < xs.length
      · rw [if_pos hb] at p4
        obtain ⟨a', vs, ea, g0, h1, r⟩ := g3.obj i _ _ hi3 hm
        cases ea
        have rd : Rep X.kx G3 u d := Rep.mono (x2.sub.trans x3.sub) r1
        obtain ⟨g4, e4⟩ := g3.write hi3 hm (r.set rd k.toNat)
        refine ⟨q, vs, k, k.toNat, rfl, rfl, h1, ?_, p4 σ _ _ _ e4 g4 (ev3.ext e4)⟩
        unfold ixN
        rw [if_pos hb.1, if_pos (by rw [r.length]; exact hb.2)]
      · rw [if_neg hb] at p4; exact p4.elim
/-! ### a list that is changed no more -/
theorem GR.freeze {K : Kx} (g : GR K G ι m H) {i : Nat} {q : Addr} {l : List Addr} {xs : List DI.D} (hi : ι[i]? = some (q :: l)) (hm : m[i]? = some (.l1 xs)) :
    ∃ vs, GR K (upd G q (.lst vs)) ι (m.set i (.fz xs)) H ∧ Ext G ι H (upd G q (.lst vs)) ι H ∧ Rep K (upd G q (.lst vs)) (.ref q) (.lst xs) := by
  obtain ⟨a, vs, ea, g0, h0, r0⟩ := g.obj i _ _ hi hm
  cases ea
  have s : Sub G (upd G q (.lst vs)) := sub_upd g0
  have hq : q ∈ ι.flatten := mem_io hi (by simp)
  refine ⟨vs, ⟨fun x o h => ?_, by simp [g.len], g.nd, fun j l' o hl ho => ?_⟩, ⟨s, ⟨[], by simp, by simp⟩, fun x o h _ => h, fun x h => h, fun x o h => ?_⟩, .lst (SqL.of upd_same) (RepAll.mono s r0)⟩
  · by_cases z : x = q
    · subst z; rw [upd_same] at h; cases h; exact h0
    · rw [upd_ne z] at h; exact g.sub _ _ h
  · by_cases hj : j = i
    · subst hj
      rw [hi] at hl
      cases hl
      rw [List.getElem?_set_self (List.getElem?_eq_some_iff.mp hm).1] at ho
      cases ho
      exact ⟨q, vs, rfl, upd_same, RepAll.mono s r0⟩
    · rw [List.getElem?_set_ne (Ne.symm hj)] at ho
      have q0 := g.obj j l' o hl ho
      -- the objects' addresses are unlike
      have apart : q ∉ l' := by
        intro hq'
        have key : ∀ (L : Io) (i j : Nat) (l l' : List Addr), L.flatten.Nodup → L[i]? = some l → L[j]? = some l' → j ≠ i → q ∈ l → q ∈ l' → False := by
          intro L
          induction L with
          | nil => intro i j l l' _ h; simp at h
          | cons x L ih =>
            intro i j l l' nd hi hj hne h1 h2
            rw [List.flatten_cons, List.nodup_append] at nd
            cases i with
            | zero =>
              cases j with
              | zero => exact hne rfl
              | succ j =>
                simp at hi hj
                subst hi
                exact nd.2.2 q h1 q (mem_io hj h2) rfl
            | succ i =>
              cases j with
              | zero =>
                simp at hi hj
                subst hj
                exact nd.2.2 q h2 q (mem_io hi h1) rfl
              | succ j =>
                simp at hi hj
                exact ih i j l l' nd.2.1 hi hj (fun e => hne (by rw [e])) h1 h2
        exact key ι i j _ l' g.nd hi hl hj (by simp) hq'
      refine q0.mono s fun x hx => ⟨fun hn => ?_, rfl⟩
      rw [upd_ne]
      · exact hn
      · rintro rfl
        exact apart hx
  · by_cases z : x = q
    · subst z; exact .inr (.inr hq)
    · rw [upd_ne z] at h; exact .inl h
theorem ss_fz (s : Nat) {k : SS} (h : SSs X W sts k) : SSs X W sts (sFz s k) := by
  refine ⟨pss_weak h.pss fun D σ H ⟨G, ι, ρ, m, g, ev, p⟩ => ?_⟩
  unfold sFz at p
  cases h1 : ρ[s]? with
  | none => rw [h1] at p; exact p.elim
  | some o =>
    match o, h1 with
    | none, h1 => rw [h1] at p; exact p.elim
    | some (.d _), h1 => rw [h1] at p; exact p.elim
    | some (.raw _), h1 => rw [h1] at p; exact p.elim
    | some (.obj i), h1 =>
      rw [h1] at p
      dsimp only at p
      cases hm : m[i]? with
      | none => rw [hm] at p; exact p.elim
      | some o =>
        rw [hm] at p
        cases o with
        | tab _ _ => exact p.elim
        | l2 _ => exact p.elim
        | tp _ => exact p.elim
        | dead => exact p.elim
        | dk _ => exact p.elim
        | fz xs => exact p.elim
        | l1 xs =>
          obtain ⟨v, hv, q, l, hi, rfl⟩ := ev.2 s _ h1
          obtain ⟨vs, g2, e2, r2⟩ := g.freeze hi hm
          have ev2 := (ev.ext e2).set (x := .d (.lst xs)) r2 s
          have hσ : σ.set s (some (.ref q)) = σ := by
            apply List.ext_getElem?
            intro j
            by_cases hj : s = j
            · subst hj
              rw [List.getElem?_set_self (List.getElem?_eq_some_iff.mp hv).1, hv]
            · rw [List.getElem?_set_ne hj]
          rw [hσ] at ev2
          exact ⟨_, ι, _, _, g2, ev2, PostS.ext e2 p⟩
end
/-! ### functions -/
section
variable {P : Program} {w : World} {K : Kx} {base : Heap}
theorem GR.take {K : Kx} {G H : Hp} {ι : Io} {m : Mem} (g : GR K G ι m H) (n : Nat) : GR K G (ι.take n) (m.take n) H := by
  refine ⟨g.sub, by simp [g.len], ?_, fun i l o hl ho => ?_⟩
  · have : (ι.take n).flatten.Sublist ι.flatten := by
      have e : ι.flatten = (ι.take n).flatten ++ (ι.drop n).flatten := by rw [← List.flatten_append, List.take_append_drop]
      rw [e]
      exact List.sublist_append_left _ _
    exact g.nd.sublist this
  · refine g.obj i l o ?_ ?_
    · rw [List.getElem?_take] at hl
      split at hl
      · exact hl
      · cases hl
    · rw [List.getElem?_take] at ho
      split at ho
      · exact ho
      · cases ho
theorem envR_start {G : Hp} {ι : Io} {N : List Str} {vs : List V} {ds : List PV} (r : Paired (RepV K G ι) vs ds) : EnvR K G ι (ds.map some ++ List.replicate (N.length - ds.length) none) (L2.start N vs) := by
  unfold L2.start
  have hl := paired_len r
  refine ⟨by simp [hl], fun i x h => ?_⟩
  by_cases hi : i < ds.length
  · rw [List.getElem?_append_left (by simpa using hi), List.getElem?_map] at h
    have hx : ds[i]? = some x := by
      cases e : ds[i]? with
      | none => rw [e] at h; cases h
      | some y => rw [e] at h; cases h; rfl
    have get : ∀ {vs : List V} {ds : List PV} {i : Nat} {x : PV}, Paired (RepV K G ι) vs ds → ds[i]? = some x → ∃ v, vs[i]? = some v ∧ RepV K G ι v x := by
      intro vs ds i x r
      induction r generalizing i with
      | nil => intro h; simp at h
      | cons q t ih =>
        intro h
        cases i with
        | zero => simp at h; subst h; exact ⟨_, by simp, q⟩
        | succ i =>
          obtain ⟨v, h1, h2⟩ := ih (by simpa using h)
          exact ⟨v, by simpa using h1, h2⟩
    obtain ⟨v, h1, h2⟩ := get r hx
    refine ⟨v, ?_, h2⟩
    rw [List.getElem?_append_left (by simpa [hl] using hi), List.getElem?_map, h1]
    rfl
  · rw [List.getElem?_append_right (by simpa using hi), List.getElem?_replicate] at h
    split at h <;> cases h
theorem ext_take {G G' H H' : Hp} {ι ι' : Io} (e : Ext G ι H G' ι' H') {n : Nat} (hn : n = ι.length) : Ext G ι H G' (ι'.take n) H' := by
  obtain ⟨t, rfl, ht⟩ := e.pre
  refine ⟨e.sub, ⟨[], ?_, by simp⟩, e.kp, e.dm, e.gk⟩
  rw [hn, List.take_left' rfl, List.append_nil]
/-- a def of the text: its body's meaning is its worth -/
theorem fn_ok {x qual : Str} {st : Stmt} {f : Addr} {fd : FuncData} {N ps : List Str} {k n : Nat} {s : SS} (F : L2.Fun K.K x qual st f fd) (S : FnScope N ps (defScope st)) (hn : ps.length = n)
    (body : ∀ (X : Cx) (W : XK) (cdv : Value) (A : Around) (outer : List PySem.Env) (sh : Shared) (H : Hp), X = cxOf (L2N.CX P w) P w K.K K.mg base N qual (defScope st) f cdv A outer sh H W → CxOk X W k → PassesOwn (model X.prog X.w) X.A X.env X.xe → SSs X W (defBody st) s) :
    FnOk P w K.K K.mg base (L2N.CX P w) (k + 1) f fd ps (spF K n (mkFn N.length s)) := by
  obtain ⟨oc, od, kV, doc, pm, an, cdv, ct, osl, rfl, lk, hcd⟩ := F.ex
  refine fn_of lk hcd S (fun vs H Q E h => ?_) fun A outer sh H vs Q E hr h => ?_
  · obtain ⟨G, ι, m, ds, hl, _, r, _⟩ := h
    rw [paired_len r, hl, hn]
  · obtain ⟨G, ι, m, ds, hl, g, r, p⟩ := h
    have cx : CxOk (cxOf (L2N.CX P w) P w K.K K.mg base N qual (defScope st) f cdv A outer sh H E) E k :=
      ⟨L2N.takes_of rfl rfl rfl rfl, hr, rfl, S.nd⟩
    refine ⟨_, (body _ E cdv A outer sh H rfl cx (passes_of rfl)).pss, ?_⟩
    refine ⟨G, ι, _, m, g, envR_start r, ?_⟩
    have hp : PostK K E G ι H (fnR m.length (s (ds.map some ++ List.replicate (N.length - ds.length) none) m)) Q := p
    have hι : m.length = ι.length := g.len.symm
    cases ho : s (ds.map some ++ List.replicate (N.length - ds.length) none) m with
    | no => rw [ho] at hp; exact hp.elim
    | bk _ _ => rw [ho] at hp; exact hp.elim
    | ct _ _ => rw [ho] at hp; exact hp.elim
    | ex e m1 => rw [ho] at hp; exact fun c dx G' ι' H' x g' r' => hp c dx G' _ H' (ext_take x hι) (g'.take _) r'
    | nx ρ1 m1 => rw [ho] at hp; exact fun σ' G' ι' H' x g' _ => hp .non G' _ H' (ext_take x hι) (g'.take _) .non
    | rt v m1 =>
      rw [ho] at hp
      cases v with
      | d d => exact fun v G' ι' H' x g' r' => hp v G' _ H' (ext_take x hι) (g'.take _) r'
      | raw a => exact fun v G' ι' H' x g' r' => hp v G' _ H' (ext_take x hι) (g'.take _) r'
      | obj i =>
        have hp' : PostK K E G ι H (if i < m.length then .ok (.obj i) (m1.take m.length) else .ok (.obj i) m1) Q := hp
        by_cases hi : i < m.length
        · rw [if_pos hi] at hp'
          intro v G' ι' H' x g' r'
          refine hp' v G' _ H' (ext_take x hι) (g'.take _) ?_
          obtain ⟨a, l, h1, h2⟩ := r'
          exact ⟨a, l, by rw [List.getElem?_take, if_pos hi]; exact h1, h2⟩
        · rw [if_neg hi] at hp'
          exact fun v G' ι' H' x g' r' => hp' v G' ι' H' x g' r'
end
end DI
namespace DI
open PySem PySem.Spec PyProof.Rows L2
open PySem.Sem (wp)
/-- what is walked by zip and enumerate -/
inductive Sr where
  | lst (a : Addr) | tup (a : Addr) | str (x : Str)
def Sr.itr (it : Addr) (i : Nat) (h : Heap) : Sr → Prop
  | .lst a => h.IsListIter it a i
  | .tup a => h.IsTupleIter it a i
  | .str x => ∃ t, h.IsStrIter it (strIterType x) x t i
def Sr.isA (b : Addr) : Sr → Prop
  | .lst a => b = a
  | .tup a => b = a
  | .str _ => False
def Sr.val : Sr → V
  | .lst a => .ref a
  | .tup a => .ref a
  | .str x => .str x
def Sr.at (K : PySem.W.Frag) (H : Hp) (xs : List V) : Sr → Prop
  | .lst a => SqL K H a xs
  | .tup a => SqT K H a xs
  | .str x => xs = x.cps.toList.map fun c => .str ⟨#[c]⟩
theorem drawsTuple {prog : Program} {w : World} {A : Around} (hh : A.handled = none) (it l : Addr) (hne : l ≠ it) (items : Array Value) :
    Draws prog w A it [it, l] items.size (fun i v => items[i]? = some v) (fun i h => h.IsTupleIter it l i ∧ h.IsTuple l items) where
  live := fun _ _ st => let ⟨o, ho, _⟩ := st.1; ⟨o, ho⟩
  frame := fun _ _ _ st hk => ⟨st.1.at fun o e => hk it (by simp) o e, st.2.at fun o e => hk l (by simp) o e⟩
  item := fun i s Q E hi st hQ => by
    refine RZ.nextOf_tuple_item st.1 st.2 (x := items[i]) (by simp [hi]) fun h' hit' hs' => ?_
    exact hQ _ h' s.toks (by simp [hi]) ⟨hit', st.2.extBut hs'.extBut hne⟩ hs'
  done := fun s Q E st hE => RZ.nextOf_tuple_end hh st.1 st.2 (by simp) hE
section
variable {X : Cx} {pins : List (Addr × Obj)} {σ : L2.St} {H : Hp} {s : Shared}
theorem Sr.draw {A : Around} {it : Addr} {i : Nat} {xs : List V} (I : Inv X pins σ H s) (hh : A.handled = none) (sr : Sr) (hne : ∀ b, sr.isA b → b ≠ it) (h : sr.at X.K H xs) (st : sr.itr it i s.heap) :
    ∃ (fp : List Addr) (n : Nat) (P : Nat → Value → Prop) (St : Nat → Heap → Prop), Draws X.prog X.w A it fp n P St ∧ St i s.heap ∧ n = xs.length ∧ (∀ j v, P j v → ∃ x, xs[j]? = some x ∧ RelV x v) ∧ (∀ j h', St j h' → sr.itr it j h') ∧ (∀ b ∈ fp, b = it ∨ sr.isA b) := by
  cases sr with
  | lst a =>
    obtain ⟨its, rv, p, hz⟩ := I.list h
    refine ⟨_, _, _, _, Draws.list hh it a (hne a rfl) its.toArray, ⟨st, p.isList⟩, by rw [List.size_toArray, rv.length], fun j v hv => ?_, fun j h' z => z.1, fun b hb => ?_⟩
    · have hv' : its[j]? = some v := by simpa using hv
      have hj : j < its.length := by
        by_cases q : j < its.length
        · exact q
        · rw [List.getElem?_eq_none (by omega)] at hv'; cases hv'
      have hj2 : j < xs.length := by rw [rv.length]; exact hj
      obtain ⟨u, hu, ru⟩ := rv.get (List.getElem?_eq_getElem hj2)
      rw [hv'] at hu
      cases hu
      exact ⟨_, List.getElem?_eq_getElem hj2, ru⟩
    · simpa [Sr.isA] using hb
  | tup a =>
    obtain ⟨its, rv, p, hz⟩ := I.tuple h
    refine ⟨_, _, _, _, drawsTuple hh it a (hne a rfl) its.toArray, ⟨st, p⟩, by rw [List.size_toArray, rv.length], fun j v hv => ?_, fun j h' z => z.1, fun b hb => ?_⟩
    · have hv' : its[j]? = some v := by simpa using hv
      have hj : j < its.length := by
        by_cases q : j < its.length
        · exact q
        · rw [List.getElem?_eq_none (by omega)] at hv'; cases hv'
      have hj2 : j < xs.length := by rw [rv.length]; exact hj
      obtain ⟨u, hu, ru⟩ := rv.get (List.getElem?_eq_getElem hj2)
      rw [hv'] at hu
      cases hu
      exact ⟨_, List.getElem?_eq_getElem hj2, ru⟩
    · simpa [Sr.isA] using hb
  | str x =>
    obtain ⟨t, st⟩ := st
    cases h
    have D : Draws X.prog X.w A it [it] x.cps.size (fun i v => ∃ c u, x.cps[i]? = some c ∧ v = .str ⟨#[c]⟩ u) (fun i h => h.IsStrIter it (strIterType x) x t i) := by
      unfold strIterType
      split
      · exact Draws.strAscii hh it x t
      · exact Draws.strWide hh it x t
    refine ⟨_, _, _, _, D, st, by simp, fun j v hv => ?_, fun j h' z => ⟨t, z⟩, fun b hb => ?_⟩
    · obtain ⟨c, u, hc, rfl⟩ := hv
      refine ⟨.str ⟨#[c]⟩, ?_, ⟨u, rfl⟩⟩
      have : x.cps.toList[j]? = some c := by simpa using hc
      rw [List.getElem?_map, this] <;> rfl
    · exact .inl (by simpa using hb)
theorem Sr.at_inj {sr : Sr} {xs ys : List V} (I : Inv X pins σ H s) (h : sr.at X.K H xs) (h' : sr.at X.K H ys) : xs = ys := by
  cases sr with
  | lst a => exact I.list_inj h h'
  | tup a => exact I.tuple_inj h h'
  | str x => exact h.trans h'.symm
theorem Sr.itr_at {sr : Sr} {it : Addr} {i : Nat} {h h' : Heap} (st : sr.itr it i h) (k : ∀ o, h.get? it = some o → h'.get? it = some o) : sr.itr it i h' := by
  cases sr with
  | lst a => exact Heap.IsListIter.at st k
  | tup a => exact Heap.IsTupleIter.at st k
  | str x => obtain ⟨t, o, ho, r⟩ := st; exact ⟨t, o, k o ho, r⟩
theorem Sr.itr_obj {sr : Sr} {it : Addr} {i : Nat} {h : Heap} (st : sr.itr it i h) : ∃ o, h.get? it = some o ∧ ∀ v, o.data ≠ .cell v := by
  cases sr with
  | lst a => obtain ⟨o, e, _, d⟩ := st; exact ⟨o, e, fun v q => by rw [d] at q; cases q⟩
  | tup a => obtain ⟨o, e, _, d⟩ := st; exact ⟨o, e, fun v q => by rw [d] at q; cases q⟩
  | str x => obtain ⟨t, o, e, _, d⟩ := st; exact ⟨o, e, fun v q => by rw [d] at q; cases q⟩
end

/-! ### the turn of zip, of any two -/
structure ZApart (z TI TO i1 i2 : Addr) : Prop where
  TIz : TI ≠ z
  TOz : TO ≠ z
  i1z : i1 ≠ z
  i2z : i2 ≠ z
  TITO : TI ≠ TO
  TIi1 : TI ≠ i1
  TIi2 : TI ≠ i2
  TOi1 : TO ≠ i1
  TOi2 : TO ≠ i2
  i12 : i1 ≠ i2
section
variable {prog : Program} {w : World} {A : Around} {E : Value → Shared → Prop} {s : Shared}
theorem zipD_next_item {z TI TO i1 i2 : Addr} {k n1 n2 : Nat} {fp1 fp2 : List Addr} {P1 P2 : Nat → Value → Prop} {S1 S2 : Nat → Heap → Prop} {a b : Value} {Q : Value → Shared → Prop} (D : ZApart z TI TO i1 i2)
    (d1 : Draws prog w A i1 fp1 n1 P1 S1) (d2 : Draws prog w A i2 fp2 n2 P2 S2) (f1 : z ∉ fp1 ∧ TO ∉ fp1 ∧ i2 ∉ fp1) (f2 : z ∉ fp2 ∧ TO ∉ fp2 ∧ i1 ∉ fp2)
    (hz : IsZip s.heap z TI TO .none) (hTI : IsPair s.heap TI (.ref i1) (.ref i2)) (hTO : IsPair s.heap TO a b)
    (h1 : S1 k s.heap) (h2 : S2 k s.heap) (hn1 : k < n1) (hn2 : k < n2)
    (hQ : ∀ x y h' tk, P1 k x → P2 k y → IsZip h' z TI TO (rawInt s.heap.objs.size) → IsPair h' TO x y → S1 (k + 1) h' → S2 (k + 1) h' → IsPair h' s.heap.objs.size x y → h'.objs.size = s.heap.objs.size + 1 →
      (∀ c o, c ≠ z → c ≠ TO → c ≠ i1 → c ≠ i2 → s.heap.get? c = some o → h'.get? c = some o) → Q (.ref s.heap.objs.size) { s with heap := h', toks := tk }) :
    wpAny (model prog w) A (Builtin.«zip.__next__» ⟨[.ref z], []⟩) (fun fin s' => ∃ v, fin = .done (.ret v) ∧ Q v s') E s := by
  show wpAny _ _ (field (.ref z) 2 >>= _) _ _ _
  refine wpAny_bind (wpAny_field hz rfl (x := .bool false) rfl ?_)
  show wpAny _ _ (field (.ref z) 3 >>= _) _ _ _
  refine wpAny_bind (wpAny_field hz rfl (x := .ref TI) rfl ?_)
  refine wpAny_bind (wpAny_seqItems hTI rfl ?_)
  show wpAny _ _ (Builtin.SmallTypes.ownedTupleIsFree (.ref z) >>= _) _ _ _
  refine wpAny_bind ?_
  unfold Builtin.SmallTypes.ownedTupleIsFree
  refine wpAny_bind (wpAny_field hz rfl (x := .none) rfl (wpAny_pure ?_))
  simp only [if_true]
  refine wpAny_bind (wpAny_rule ?_)
  refine wpAny_bind (wpAny_field hz rfl (x := .ref TO) rfl ?_)
  refine wpAny_bind (wpAny_setField_rec hz (by simp) fun h₁ hz₁ hs₁ => ?_)
  replace hz₁ : IsZip h₁ z TI TO .ellipsis := hz₁
  have h1₁ : S1 k h₁ := d1.frame _ _ _ h1 fun c hc o e => hs₁.extBut _ _ (fun q => f1.1 (q ▸ hc)) e
  have h2₁ : S2 k h₁ := d2.frame _ _ _ h2 fun c hc o e => hs₁.extBut _ _ (fun q => f2.1 (q ▸ hc)) e
  refine wpAny_bind ?_
  simp only [List.zipIdx_cons, List.zipIdx_nil, List.forIn_cons, List.forIn_nil]

  refine wpAny_bind (wpAny_bind (wpAny_onRaise ?_))
  show wpAny _ _ (Builtin.SmallTypes.nextOf (.ref i1) >>= _) _ _ _
  refine wpAny_bind (d1.item k _ _ _ hn1 h1₁ fun x h₂ tk₂ p1 h1₂ hs₂ => wpAny_pure ?_)
  replace hs₂ : Heap.SameBut i1 h₁ h₂ := hs₂
  have hTO₂ : IsPair h₂ TO a b := hs₂.extBut _ _ D.TOi1 (hs₁.extBut _ _ D.TOz hTO)
  have h2₂ : S2 k h₂ := d2.frame _ _ _ h2₁ fun c hc o e => hs₂.extBut _ _ (fun q => f2.2.2 (q ▸ hc)) e
  refine wpAny_bind (wpAny_seqItems hTO₂ rfl ?_)
  refine wpAny_bind (wpAny_updateSeq_pair hTO₂ fun h₃ hTO₃ hs₃ => ?_)
  replace hTO₃ : IsPair h₃ TO x b := hTO₃
  replace hs₃ : Heap.SameBut TO h₂ h₃ := hs₃
  have h1₃ : S1 (k + 1) h₃ := d1.frame _ _ _ h1₂ fun c hc o e => hs₃.extBut _ _ (fun q => f1.2.1 (q ▸ hc)) e
  have h2₃ : S2 k h₃ := d2.frame _ _ _ h2₂ fun c hc o e => hs₃.extBut _ _ (fun q => f2.2.1 (q ▸ hc)) e
  refine wpAny_bind (wpAny_letGo (wpAny_pure ?_))

  refine wpAny_bind (wpAny_bind (wpAny_onRaise ?_))
  show wpAny _ _ (Builtin.SmallTypes.nextOf (.ref i2) >>= _) _ _ _
  refine wpAny_bind (d2.item k _ _ _ hn2 h2₃ fun y h₄ tk₄ p2 h2₄ hs₄ => wpAny_pure ?_)
  replace hs₄ : Heap.SameBut i2 h₃ h₄ := hs₄
  have hTO₄ : IsPair h₄ TO x b := hs₄.extBut _ _ D.TOi2 hTO₃
  have h1₄ : S1 (k + 1) h₄ := d1.frame _ _ _ h1₃ fun c hc o e => hs₄.extBut _ _ (fun q => f1.2.2 (q ▸ hc)) e
  refine wpAny_bind (wpAny_seqItems hTO₄ rfl ?_)
  refine wpAny_bind (wpAny_updateSeq_pair hTO₄ fun h₅ hTO₅ hs₅ => ?_)
  replace hTO₅ : IsPair h₅ TO x y := hTO₅
  replace hs₅ : Heap.SameBut TO h₄ h₅ := hs₅
  have h1₅ : S1 (k + 1) h₅ := d1.frame _ _ _ h1₄ fun c hc o e => hs₅.extBut _ _ (fun q => f1.2.1 (q ▸ hc)) e
  have h2₅ : S2 (k + 1) h₅ := d2.frame _ _ _ h2₄ fun c hc o e => hs₅.extBut _ _ (fun q => f2.2.1 (q ▸ hc)) e
  refine wpAny_bind (wpAny_letGo (wpAny_pure (wpAny_pure ?_)))

  refine wpAny_bind (wpAny_seqItems hTO₅ rfl ?_)
  refine wpAny_bind (wpAny_newTuple ?_)
  have hsz : h₅.objs.size = s.heap.objs.size := by rw [hs₅.1, hs₄.1, hs₃.1, hs₂.1, hs₁.1]
  have hz₅ : IsZip h₅ z TI TO .ellipsis := hs₅.extBut _ _ D.TOz.symm (hs₄.extBut _ _ D.i2z.symm (hs₃.extBut _ _ D.TOz.symm (hs₂.extBut _ _ D.i1z.symm hz₁)))
  have hk₅ : ∀ c o, c ≠ z → c ≠ TO → c ≠ i1 → c ≠ i2 → s.heap.get? c = some o → h₅.get? c = some o := fun c o c1 c2 c3 c4 e =>
    hs₅.extBut _ _ c2 (hs₄.extBut _ _ c4 (hs₃.extBut _ _ c2 (hs₂.extBut _ _ c3 (hs₁.extBut _ _ c1 e))))
  have hzlt : z < h₅.objs.size := Heap.lt_size hz₅
  have hTOlt : TO < h₅.objs.size := Heap.lt_size hTO₅
  show wpAny _ _ (Builtin.SmallTypes.ownedTupleHandOut (.ref z) (.ref h₅.objs.size) >>= _) _ _ _
  refine wpAny_bind ?_
  unfold Builtin.SmallTypes.ownedTupleHandOut
  have hz₆ : IsZip (h₅.push { cls := .type "tuple", data := .seq #[x, y] }) z TI TO .ellipsis := Heap.get?_push_of_some _ hz₅
  refine wpAny_bind (wpAny_setField_rec hz₆ (by simp) fun h₇ hz₇ hs₇ => ?_)
  replace hz₇ : IsZip h₇ z TI TO (rawInt h₅.objs.size) := hz₇
  refine wpAny_setField_rec hz₇ (by simp) fun h₈ hz₈ hs₈ => ?_
  replace hz₈ : IsZip h₈ z TI TO (rawInt h₅.objs.size) := hz₈
  have up : ∀ c o, c ≠ z → h₅.get? c = some o → h₈.get? c = some o := fun c o c1 e => hs₈.extBut _ _ c1 (hs₇.extBut _ _ c1 (Heap.get?_push_of_some _ e))
  have hT₈ : IsPair h₈ h₅.objs.size x y := hs₈.extBut _ _ (Nat.ne_of_gt hzlt) (hs₇.extBut _ _ (Nat.ne_of_gt hzlt) (Heap.get?_push_size _ rfl))
  have hz8 : h₈.objs.size = h₅.objs.size + 1 := by rw [hs₈.1, hs₇.1, Heap.size_push]
  have h1₈ : S1 (k + 1) h₈ := d1.frame _ _ _ h1₅ fun c hc o e => up _ _ (fun q => f1.1 (q ▸ hc)) e
  have h2₈ : S2 (k + 1) h₈ := d2.frame _ _ _ h2₅ fun c hc o e => up _ _ (fun q => f2.1 (q ▸ hc)) e
  rw [hsz] at hz₈ hT₈ hz8
  refine wpAny_pure ⟨_, rfl, ?_⟩
  show Q (.ref h₅.objs.size) _
  rw [hsz]
  exact hQ x y h₈ tk₄ p1 p2 hz₈ (up _ _ D.TOz hTO₅) h1₈ h2₈ hT₈ hz8 fun c o c1 c2 c3 c4 e => up c o c1 (hk₅ c o c1 c2 c3 c4 e)

theorem zipD_next_end {z TI TO i1 i2 : Addr} {k n1 n2 : Nat} {fp1 fp2 : List Addr} {P1 P2 : Nat → Value → Prop} {S1 S2 : Nat → Heap → Prop} {a b : Value} {Q : PySem.Fin → Shared → Prop} (D : ZApart z TI TO i1 i2)
    (d1 : Draws prog w A i1 fp1 n1 P1 S1) (d2 : Draws prog w A i2 fp2 n2 P2 S2) (f1 : z ∉ fp1 ∧ TO ∉ fp1 ∧ i2 ∉ fp1) (f2 : z ∉ fp2 ∧ TO ∉ fp2 ∧ i1 ∉ fp2)
    (hz : IsZip s.heap z TI TO .none) (hTI : IsPair s.heap TI (.ref i1) (.ref i2)) (hTO : IsPair s.heap TO a b)
    (h1 : S1 k s.heap) (h2 : S2 k s.heap) (hend : k = n1 ∨ (k < n1 ∧ k = n2))
    (hE : ∀ h' tk e, (∀ c o, c ≠ z → c ≠ TO → c ≠ i1 → c ≠ i2 → s.heap.get? c = some o → h'.get? c = some o) → (∃ o, h'.get? e = some o ∧ o.cls = .type "StopIteration") → E (.ref e) { s with heap := h', toks := tk }) :
    wpAny (model prog w) A (Builtin.«zip.__next__» ⟨[.ref z], []⟩) Q E s := by
  show wpAny _ _ (field (.ref z) 2 >>= _) _ _ _
  refine wpAny_bind (wpAny_field hz rfl (x := .bool false) rfl ?_)
  show wpAny _ _ (field (.ref z) 3 >>= _) _ _ _
  refine wpAny_bind (wpAny_field hz rfl (x := .ref TI) rfl ?_)
  refine wpAny_bind (wpAny_seqItems hTI rfl ?_)
  show wpAny _ _ (Builtin.SmallTypes.ownedTupleIsFree (.ref z) >>= _) _ _ _
  refine wpAny_bind ?_
  unfold Builtin.SmallTypes.ownedTupleIsFree
  refine wpAny_bind (wpAny_field hz rfl (x := .none) rfl (wpAny_pure ?_))
  simp only [if_true]
  refine wpAny_bind (wpAny_rule ?_)
  refine wpAny_bind (wpAny_field hz rfl (x := .ref TO) rfl ?_)
  refine wpAny_bind (wpAny_setField_rec hz (by simp) fun h₁ hz₁ hs₁ => ?_)
  replace hz₁ : IsZip h₁ z TI TO .ellipsis := hz₁
  have h1₁ : S1 k h₁ := d1.frame _ _ _ h1 fun c hc o e => hs₁.extBut _ _ (fun q => f1.1 (q ▸ hc)) e
  have h2₁ : S2 k h₁ := d2.frame _ _ _ h2 fun c hc o e => hs₁.extBut _ _ (fun q => f2.1 (q ▸ hc)) e
  refine wpAny_bind ?_
  simp only [List.zipIdx_cons, List.zipIdx_nil, List.forIn_cons, List.forIn_nil]
  refine wpAny_bind (wpAny_bind (wpAny_onRaise ?_))
  show wpAny _ _ (Builtin.SmallTypes.nextOf (.ref i1) >>= _) _ _ _
  rcases hend with hx | ⟨hx, hy⟩
  · subst hx
    refine wpAny_bind (d1.done _ _ _ h1₁ fun h₂ e hs₂ he => ?_)
    obtain ⟨oe, hoe, hce⟩ := he
    replace hs₂ : Heap.ExtBut i1 h₁ h₂ := hs₂
    have hz₂ : IsZip h₂ z TI TO .ellipsis := hs₂ _ _ D.i1z.symm hz₁
    have hez : e ≠ z := fun x => by subst x; rw [hz₂] at hoe; cases hoe; simp at hce
    exact wpAny_setField_rec hz₂ (by simp) fun h₃ _ hs₃ => hE h₃ _ e (fun c o c1 _ c3 _ x => hs₃.extBut _ _ c1 (hs₂ _ _ c3 (hs₁.extBut _ _ c1 x))) ⟨oe, hs₃.extBut _ _ hez hoe, hce⟩
  · subst hy
    refine wpAny_bind (d1.item k _ _ _ hx h1₁ fun x h₂ tk₂ p1 h1₂ hs₂ => wpAny_pure ?_)
    replace hs₂ : Heap.SameBut i1 h₁ h₂ := hs₂
    have hTO₂ : IsPair h₂ TO a b := hs₂.extBut _ _ D.TOi1 (hs₁.extBut _ _ D.TOz hTO)
    have h2₂ : S2 k h₂ := d2.frame _ _ _ h2₁ fun c hc o e => hs₂.extBut _ _ (fun q => f2.2.2 (q ▸ hc)) e
    refine wpAny_bind (wpAny_seqItems hTO₂ rfl ?_)
    refine wpAny_bind (wpAny_updateSeq_pair hTO₂ fun h₃ hTO₃ hs₃ => ?_)
    replace hs₃ : Heap.SameBut TO h₂ h₃ := hs₃
    have h2₃ : S2 k h₃ := d2.frame _ _ _ h2₂ fun c hc o e => hs₃.extBut _ _ (fun q => f2.2.1 (q ▸ hc)) e
    refine wpAny_bind (wpAny_letGo (wpAny_pure ?_))
    refine wpAny_bind (wpAny_bind (wpAny_onRaise ?_))
    show wpAny _ _ (Builtin.SmallTypes.nextOf (.ref i2) >>= _) _ _ _
    refine wpAny_bind (d2.done _ _ _ h2₃ fun h₄ e hs₄ he => ?_)
    obtain ⟨oe, hoe, hce⟩ := he
    replace hs₄ : Heap.ExtBut i2 h₃ h₄ := hs₄
    have hz₄ : IsZip h₄ z TI TO .ellipsis := hs₄ _ _ D.i2z.symm (hs₃.extBut _ _ D.TOz.symm (hs₂.extBut _ _ D.i1z.symm hz₁))
    have hez : e ≠ z := fun x => by subst x; rw [hz₄] at hoe; cases hoe; simp at hce
    exact wpAny_setField_rec hz₄ (by simp) fun h₅ _ hs₅ => hE h₅ _ e (fun c o c1 c2 c3 c4 x => hs₅.extBut _ _ c1 (hs₄ _ _ c4 (hs₃.extBut _ _ c2 (hs₂.extBut _ _ c3 (hs₁.extBut _ _ c1 x))))) ⟨oe, hs₅.extBut _ _ hez hoe, hce⟩
end
end DI
namespace DI
open PySem PySem.Spec PyProof.Rows L2
open PySem.Sem (wp)
section
variable {prog : Program} {w : World} {A : Around} {E : Value → Shared → Prop} {s : Shared}
theorem pyNext_zipD_item {z TI TO i1 i2 : Addr} {k n1 n2 : Nat} {fp1 fp2 : List Addr} {P1 P2 : Nat → Value → Prop} {S1 S2 : Nat → Heap → Prop} {a b : Value} {Q : Option Value → Shared → Prop} (D : ZApart z TI TO i1 i2)
    (d1 : Draws prog w A.in1 i1 fp1 n1 P1 S1) (d2 : Draws prog w A.in1 i2 fp2 n2 P2 S2) (f1 : z ∉ fp1 ∧ TO ∉ fp1 ∧ i2 ∉ fp1) (f2 : z ∉ fp2 ∧ TO ∉ fp2 ∧ i1 ∉ fp2)
    (hz : IsZip s.heap z TI TO .none) (hTI : IsPair s.heap TI (.ref i1) (.ref i2)) (hTO : IsPair s.heap TO a b)
    (h1 : S1 k s.heap) (h2 : S2 k s.heap) (hn1 : k < n1) (hn2 : k < n2)
    (hQ : ∀ x y h' tk, P1 k x → P2 k y → IsZip h' z TI TO (rawInt s.heap.objs.size) → IsPair h' TO x y → S1 (k + 1) h' → S2 (k + 1) h' → IsPair h' s.heap.objs.size x y → h'.objs.size = s.heap.objs.size + 1 →
      (∀ c o, c ≠ z → c ≠ TO → c ≠ i1 → c ≠ i2 → s.heap.get? c = some o → h'.get? c = some o) → Q (some (.ref s.heap.objs.size)) { s with heap := h', toks := tk }) :
    wpAny (model prog w) A (pyNext (.ref z)) Q E s := by
  have hT : s.TypeIs (.ref z) "zip" := ⟨_, hz, rfl⟩
  unfold pyNext
  exact wpAny_bind (wpAny_attempt (wpAny_callSpecial?_slot (name := Str.ofString "__next__") hT F.slot_zip_next
    (wpAny_call_entry F.slot_zip_next hT F.entry_zip_next
      (zipD_next_item D d1 d2 f1 f2 hz hTI hTO h1 h2 hn1 hn2 fun x y h' tk p1 p2 a1 a2 a3 a4 a5 a6 a7 => wpAny_pure (hQ x y h' tk p1 p2 a1 a2 a3 a4 a5 a6 a7)) (F.args_zip_next_1 _))))
theorem pyNext_zipD_end {z TI TO i1 i2 : Addr} {k n1 n2 : Nat} {fp1 fp2 : List Addr} {P1 P2 : Nat → Value → Prop} {S1 S2 : Nat → Heap → Prop} {a b : Value} {Q : Option Value → Shared → Prop} (D : ZApart z TI TO i1 i2)
    (d1 : Draws prog w A.in1 i1 fp1 n1 P1 S1) (d2 : Draws prog w A.in1 i2 fp2 n2 P2 S2) (f1 : z ∉ fp1 ∧ TO ∉ fp1 ∧ i2 ∉ fp1) (f2 : z ∉ fp2 ∧ TO ∉ fp2 ∧ i1 ∉ fp2)
    (hz : IsZip s.heap z TI TO .none) (hTI : IsPair s.heap TI (.ref i1) (.ref i2)) (hTO : IsPair s.heap TO a b)
    (h1 : S1 k s.heap) (h2 : S2 k s.heap) (hend : k = n1 ∨ (k < n1 ∧ k = n2))
    (hQ : ∀ h' tk, (∀ c o, c ≠ z → c ≠ TO → c ≠ i1 → c ≠ i2 → s.heap.get? c = some o → h'.get? c = some o) → Q none { s with heap := h', toks := tk }) : wpAny (model prog w) A (pyNext (.ref z)) Q E s := by
  have hT : s.TypeIs (.ref z) "zip" := ⟨_, hz, rfl⟩
  unfold pyNext
  refine wpAny_bind (wpAny_attempt (wpAny_callSpecial?_slot (name := Str.ofString "__next__") hT F.slot_zip_next
    (wpAny_call_entry F.slot_zip_next hT F.entry_zip_next (zipD_next_end D d1 d2 f1 f2 hz hTI hTO h1 h2 hend fun h' tk e hk he => ?_) (F.args_zip_next_1 _))))
  obtain ⟨o, ho, hc⟩ := he
  refine wpAny_bind (wpAny_isInstance (T := "StopIteration") (b := true) ⟨o, ho, hc⟩ isSubtype_stop ?_)
  exact wpAny_pure (hQ _ _ hk)
end

def ItzS (K : PySem.W.Frag) (sa sb : Sr) : It :=
  ⟨fun i H => ∃ (xs ys : List V) (x y : V), sa.at K H xs ∧ sb.at K H ys ∧ xs[i]? = some x ∧ ys[i]? = some y,
    fun i H v H' => ∃ T x y, v = .ref T ∧ H T = none ∧ H' = upd H T (.tup [x, y]) ∧ (∀ xs, sa.at K H xs → xs[i]? = some x) ∧ ∀ ys, sb.at K H ys → ys[i]? = some y,
    fun i H => ∃ xs ys : List V, sa.at K H xs ∧ sb.at K H ys ∧ i = min xs.length ys.length⟩
theorem turn_zipD {P : Program} {w : World} {K : PySem.W.Frag} {elts : List Expr} {kk : Nat} {tpos : Pos} {sa sb : Sr} {z TI TO i1 i2 : Addr} (D : ZApart z TI TO i1 i2)
    (n1 : ∀ b, sa.isA b → b ≠ z ∧ b ≠ TO ∧ b ≠ i2 ∧ b ≠ i1) (n2 : ∀ b, sb.isA b → b ≠ z ∧ b ≠ TO ∧ b ≠ i1 ∧ b ≠ i2) :
    Turn P w K (.Tuple elts kk tpos) (ItzS K sa sb) [z, TI, TO, i1, i2] z (fun i h => IsZip h z TI TO .none ∧ IsPair h TI (.ref i1) (.ref i2) ∧ (∃ x y, IsPair h TO x y) ∧ sa.itr i1 i h ∧ sb.itr i2 i h) where
  mem := by simp
  obj := fun i h st c hc => by
    obtain ⟨hz, hTI, ⟨x, y, hTO⟩, h1, h2⟩ := st
    have e' : c = z ∨ c = TI ∨ c = TO ∨ c = i1 ∨ c = i2 := by simpa using hc
    rcases e' with q | q | q | q | q
    · rw [q]; exact ⟨_, hz, fun v q => nomatch q⟩
    · rw [q]; exact ⟨_, hTI, fun v q => nomatch q⟩
    · rw [q]; exact ⟨_, hTO, fun v q => nomatch q⟩
    · rw [q]; exact Sr.itr_obj h1
    · rw [q]; exact Sr.itr_obj h2
  keep := fun i h h' st k => by
    obtain ⟨hz, hTI, ⟨x, y, hTO⟩, h1, h2⟩ := st
    exact ⟨k z (by simp) _ hz, k TI (by simp) _ hTI, ⟨x, y, k TO (by simp) _ hTO⟩, Sr.itr_at h1 fun o q => k i1 (by simp) o q, Sr.itr_at h2 fun o q => k i2 (by simp) o q⟩
  item := by
    intro X hP hw hK hc i pins s σ H E I hf st hg
    subst hP hw hK
    obtain ⟨hz, hTI, ⟨x0, y0, hTO⟩, h1, h2⟩ := st
    obtain ⟨xs, ys, x, y, hqx, hqy, hx, hy⟩ := hg
    have hh : X.A.in1.handled = none := I.ok.hd hc
    obtain ⟨fp1, m1, P1, S1, d1, s1, e1, g1, j1, k1⟩ := Sr.draw I hh sa (fun b hb => (n1 b hb).2.2.2) hqx h1
    obtain ⟨fp2, m2, P2, S2, d2, s2, e2, g2, j2, k2⟩ := Sr.draw I hh sb (fun b hb => (n2 b hb).2.2.2) hqy h2
    have lx : i < xs.length := by
      by_cases q : i < xs.length
      · exact q
      · rw [List.getElem?_eq_none (by omega)] at hx; cases hx
    have ly : i < ys.length := by
      by_cases q : i < ys.length
      · exact q
      · rw [List.getElem?_eq_none (by omega)] at hy; cases hy
    have f1 : z ∉ fp1 ∧ TO ∉ fp1 ∧ i2 ∉ fp1 := ⟨fun q => (k1 _ q).elim (fun r => D.i1z r.symm) fun r => (n1 _ r).1 rfl, fun q => (k1 _ q).elim (fun r => D.TOi1 r) fun r => (n1 _ r).2.1 rfl, fun q => (k1 _ q).elim (fun r => D.i12 r.symm) fun r => (n1 _ r).2.2.1 rfl⟩
    have f2 : z ∉ fp2 ∧ TO ∉ fp2 ∧ i1 ∉ fp2 := ⟨fun q => (k2 _ q).elim (fun r => D.i2z r.symm) fun r => (n2 _ r).1 rfl, fun q => (k2 _ q).elim (fun r => D.TOi2 r) fun r => (n2 _ r).2.1 rfl, fun q => (k2 _ q).elim (fun r => D.i12 r) fun r => (n2 _ r).2.2.1 rfl⟩
    have hzl : z < s.heap.objs.size := Heap.lt_size hz
    refine pyNext_zipD_item D d1 d2 f1 f2 hz hTI hTO s1 s2 (by omega) (by omega) fun u u2 h' tk p1 p2 z' TO' h1' h2' hT hsz hk => ?_
    obtain ⟨x', hx', ru⟩ := g1 _ _ p1
    obtain ⟨y', hy', ru2⟩ := g2 _ _ p2
    rw [hx] at hx'
    cases hx'
    rw [hy] at hy'
    cases hy'
    refine ⟨_, rfl, wpAny_letOwnedTupleGo_zip (s := { s with heap := h', toks := tk }) z' fun h'' z'' sb' => ?_⟩
    have hT2 : h''.get? s.heap.objs.size = some { cls := .type "tuple", data := .seq #[u, u2] } := (sb'.2 _ (Nat.ne_of_gt hzl)).trans hT
    have new : ObjOk X.prog X.w (upd H s.heap.objs.size (.tup [x, y])) h'' s.heap.objs.size (.tup [x, y]) :=
      ⟨by show 2 ≤ sizeLine; decide, [u, u2], .cons ru (.cons ru2 .nil), ⟨_, hT2, rfl, _, rfl⟩⟩
    have I1 : Inv X pins σ (upd H s.heap.objs.size (.tup [x, y])) { s with heap := h'', toks := tk } :=
      I.turnedNew (t' := tk) (ch := [z, TI, TO, i1, i2]) (fun c o hb q => (sb'.2 c (fun q' => hb (by simp [q']))).trans (hk c o (fun q' => hb (by simp [q'])) (fun q' => hb (by simp [q'])) (fun q' => hb (by simp [q'])) (fun q' => hb (by simp [q'])) q)) hf (Nat.le_refl _) new
    refine ⟨.ref s.heap.objs.size, _, I1, rfl, ⟨_, x, y, rfl, I.hok.fresh (Nat.le_refl _), rfl, fun l hl => by rw [Sr.at_inj I hl hqx]; exact hx, fun l hl => by rw [Sr.at_inj I hl hqy]; exact hy⟩, ⟨z'', ?_, ⟨u, u2, ?_⟩, ?_, ?_⟩, fun c hcm => ?_⟩
    · exact (sb'.2 _ D.TIz).trans (hk _ _ D.TIz D.TITO D.TIi1 D.TIi2 hTI)
    · exact (sb'.2 _ D.TOz).trans TO'
    · exact Sr.itr_at (j1 _ _ h1') fun o q => (sb'.2 _ D.i1z).trans q
    · exact Sr.itr_at (j2 _ _ h2') fun o q => (sb'.2 _ D.i2z).trans q
    · have hlt : c < s.heap.objs.size := by
        have e' : c = z ∨ c = TI ∨ c = TO ∨ c = i1 ∨ c = i2 := by simpa using hcm
        rcases e' with q | q | q | q | q
        · rw [q]; exact hzl
        · rw [q]; exact Heap.lt_size hTI
        · rw [q]; exact Heap.lt_size hTO
        · rw [q]; obtain ⟨_, e1, _⟩ := Sr.itr_obj h1; exact Heap.lt_size e1
        · rw [q]; obtain ⟨_, e2, _⟩ := Sr.itr_obj h2; exact Heap.lt_size e2
      rw [upd_ne (Nat.ne_of_lt hlt)]
      exact (hf c hcm).1
  done := by
    intro X hP hw hK hc i pins s σ H E I hf st hg
    subst hP hw hK
    obtain ⟨hz, hTI, ⟨x0, y0, hTO⟩, h1, h2⟩ := st
    obtain ⟨xs, ys, hqx, hqy, hend⟩ := hg
    have hh : X.A.in1.handled = none := I.ok.hd hc
    obtain ⟨fp1, m1, P1, S1, d1, s1, e1, g1, j1, k1⟩ := Sr.draw I hh sa (fun b hb => (n1 b hb).2.2.2) hqx h1
    obtain ⟨fp2, m2, P2, S2, d2, s2, e2, g2, j2, k2⟩ := Sr.draw I hh sb (fun b hb => (n2 b hb).2.2.2) hqy h2
    have f1 : z ∉ fp1 ∧ TO ∉ fp1 ∧ i2 ∉ fp1 := ⟨fun q => (k1 _ q).elim (fun r => D.i1z r.symm) fun r => (n1 _ r).1 rfl, fun q => (k1 _ q).elim (fun r => D.TOi1 r) fun r => (n1 _ r).2.1 rfl, fun q => (k1 _ q).elim (fun r => D.i12 r.symm) fun r => (n1 _ r).2.2.1 rfl⟩
    have f2 : z ∉ fp2 ∧ TO ∉ fp2 ∧ i1 ∉ fp2 := ⟨fun q => (k2 _ q).elim (fun r => D.i2z r.symm) fun r => (n2 _ r).1 rfl, fun q => (k2 _ q).elim (fun r => D.TOi2 r) fun r => (n2 _ r).2.1 rfl, fun q => (k2 _ q).elim (fun r => D.i12 r) fun r => (n2 _ r).2.2.1 rfl⟩
    exact pyNext_zipD_end D d1 d2 f1 f2 hz hTI hTO s1 s2 (by omega) fun h' tk hk => ⟨rfl, I.turnedL (t' := tk) (ch := [z, TI, TO, i1, i2]) (fun c o hb q =>
      hk c o (fun q' => hb (by simp [q'])) (fun q' => hb (by simp [q'])) (fun q' => hb (by simp [q'])) (fun q' => hb (by simp [q'])) q) hf⟩
  self := fun A i s Q E st h => wpAny_pyIter_zip st.1 h

/-! ### the iterators made -/
def Itrs (u : Value) (o : Obj) (h : Heap) : Prop := ∀ (prog : Program) (w : World) (A : Around) (E : Value → Shared → Prop) (Q : Value → Shared → Prop) (s : Shared), s.heap = h → Q (.ref s.heap.objs.size) { s with heap := s.heap.push o } → wpAny (model prog w) A (pyIter u) Q E s

theorem Itrs.lst {a : Addr} {h : Heap} {its : Array Value} (p : h.IsList a its) : Itrs (.ref a) { cls := .type "list_iterator", data := .fields #[.ref a, .int 0 0] } h := fun prog w A E Q s e hQ => by
  subst e
  exact wpAny_pyIter_list p hQ
theorem Itrs.tup {a : Addr} {h : Heap} {its : Array Value} (p : h.IsTuple a its) : Itrs (.ref a) { cls := .type "tuple_iterator", data := .fields #[.ref a, .int 0 0] } h := fun prog w A E Q s e hQ => by
  subst e
  exact wpAny_pyIter_tuple p hQ
theorem Itrs.str {x : Str} {t : Tok} {h : Heap} : Itrs (.str x t) { cls := .type (strIterType x), data := .fields #[.str x t, .int 0 0] } h := fun prog w A E Q s e hQ => by
  subst e
  exact wpAny_pyIter_strU hQ
/-- the same in words that wp_walk can use -/
def It5 (u : Value) (o : Obj) (h : Heap) (g : Heap → Shared) : Prop := ∀ (prog : Program) (w : World) (A : Around) (E : Value → Shared → Prop) (Q : Value → Shared → Prop), Q (.ref h.objs.size) (g (h.push o)) → wpAny (model prog w) A (pyIter u) Q E (g h)
abbrev zH1 (h : Heap) (o1 : Obj) : Heap := h.push o1
abbrev zH2 (h : Heap) (o1 o2 : Obj) : Heap := (zH1 h o1).push o2
abbrev zH3 (h : Heap) (o1 o2 : Obj) : Heap := (zH2 h o1 o2).push { cls := .type "tuple", data := .seq #[.ref h.objs.size, .ref (zH1 h o1).objs.size] }
abbrev zH4 (h : Heap) (o1 o2 : Obj) : Heap := (zH3 h o1 o2).push { cls := .type "tuple", data := .seq #[.none, .none] }
abbrev zH5 (h : Heap) (o1 o2 : Obj) : Heap := (zH4 h o1 o2).push { cls := .type "zip", data := .fields #[.none, .bool false, .bool false, .ref (zH2 h o1 o2).objs.size, .ref (zH3 h o1 o2).objs.size] }
theorem meets_zipS_new (u1 u2 : Value) (o1 o2 : Obj) :
    Meets (Builtin.«zip.__new__» ⟨[.type "zip", u1, u2], []⟩) (fun _ R s => Itrs u1 o1 s.heap ∧ Itrs u2 o2 (s.heap.push o1) ∧
      R (.ok (.ret (.ref (zH4 s.heap o1 o2).objs.size))) { s with heap := zH5 s.heap o1 o2 }) :=
  .of_wp fun prog w A R s h => by
    obtain ⟨hp, g, d, tk, os⟩ := s; obtain ⟨hl1, hl2, h⟩ := h
    have hsub := sub_zip
    have k1 : ∀ {A : Around} {E : Value → Shared → Prop} {Q : Value → Shared → Prop}, Q (.ref hp.objs.size) ⟨hp.push o1, g, d, tk, os⟩ → wpAny (model prog w) A (pyIter u1) Q E ⟨hp, g, d, tk, os⟩ := fun {A E Q} hQ => hl1 prog w A E Q ⟨hp, g, d, tk, os⟩ rfl hQ
    have k2 : ∀ {A : Around} {E : Value → Shared → Prop} {Q : Value → Shared → Prop}, Q (.ref (hp.push o1).objs.size) ⟨(hp.push o1).push o2, g, d, tk, os⟩ → wpAny (model prog w) A (pyIter u2) Q E ⟨hp.push o1, g, d, tk, os⟩ := fun {A E Q} hQ => hl2 prog w A E Q ⟨hp.push o1, g, d, tk, os⟩ rfl hQ
    wp_walk using k1, k2
    exact ⟨_, rfl, h⟩
section
variable {prog : Program} {w : World} {A : Around} {E : Value → Shared → Prop} {s : Shared}
theorem call_zipS {u1 u2 : Value} {o1 o2 : Obj} {Q : Value → Shared → Prop} (f1 : o1.isFreed = false) (f2 : o2.isFreed = false) (hl1 : Itrs u1 o1 s.heap) (hl2 : Itrs u2 o2 (s.heap.push o1))
    (h : ∀ h', IsZip h' (s.heap.objs.size + 4) (s.heap.objs.size + 2) (s.heap.objs.size + 3) .none → IsPair h' (s.heap.objs.size + 2) (.ref s.heap.objs.size) (.ref (s.heap.objs.size + 1)) →
      IsPair h' (s.heap.objs.size + 3) .none .none → h'.get? s.heap.objs.size = some o1 → h'.get? (s.heap.objs.size + 1) = some o2 → h'.objs.size = s.heap.objs.size + 5 →
      (∀ c o, s.heap.get? c = some o → h'.get? c = some o) → Q (.ref (s.heap.objs.size + 4)) { s with heap := h' }) :
    wpAny (model prog w) A (call (.type "zip") [u1, u2]) Q E s := by
  refine callType_new F.called_zip (by decide) (F.typeCall_zip_2 _ _) (F.newCall_zip_2 _ _) (fun obj => F.args_object_init_3 obj _ _) F.entry_zip_new
    (meets_zipS_new u1 u2 o1 o2) ⟨hl1, hl2, ?_⟩
  have z1 : (zH1 s.heap o1).objs.size = s.heap.objs.size + 1 := Heap.size_push ..
  have z2 : (zH2 s.heap o1 o2).objs.size = s.heap.objs.size + 2 := by rw [Heap.size_push, z1]
  have z3 : (zH3 s.heap o1 o2).objs.size = s.heap.objs.size + 3 := by rw [Heap.size_push, z2]
  have z4 : (zH4 s.heap o1 o2).objs.size = s.heap.objs.size + 4 := by rw [Heap.size_push, z3]
  have z5 : (zH5 s.heap o1 o2).objs.size = s.heap.objs.size + 5 := by rw [Heap.size_push, z4]
  have g5 : (zH5 s.heap o1 o2).get? (zH4 s.heap o1 o2).objs.size = some _ := Heap.get?_push_size _ rfl
  have g4 : (zH5 s.heap o1 o2).get? (zH3 s.heap o1 o2).objs.size = some _ := Heap.get?_push_of_some _ (Heap.get?_push_size _ rfl)
  have g3 : (zH5 s.heap o1 o2).get? (zH2 s.heap o1 o2).objs.size = some _ := Heap.get?_push_of_some _ (Heap.get?_push_of_some _ (Heap.get?_push_size _ rfl))
  have g2 : (zH5 s.heap o1 o2).get? (zH1 s.heap o1).objs.size = some _ := Heap.get?_push_of_some _ (Heap.get?_push_of_some _ (Heap.get?_push_of_some _ (Heap.get?_push_size _ f2)))
  have g1 : (zH5 s.heap o1 o2).get? s.heap.objs.size = some _ := Heap.get?_push_of_some _ (Heap.get?_push_of_some _ (Heap.get?_push_of_some _ (Heap.get?_push_of_some _ (Heap.get?_push_size _ f1))))
  show _ ∧ _
  rw [z2, z3, z4] at g5
  rw [z1, z2] at g3
  rw [z3] at g4
  rw [z1] at g2
  rw [z4]
  exact ⟨⟨_, g5, rfl⟩, h _ g5 g3 g4 g1 g2 z5 fun c o x =>
    Heap.get?_push_of_some _ (Heap.get?_push_of_some _ (Heap.get?_push_of_some _ (Heap.get?_push_of_some _ (Heap.get?_push_of_some _ x))))⟩
end
end DI
namespace DI
open PySem PySem.Spec PyProof.Rows L2
open PySem.Sem (wp)
open AutoSeq1 (wpAny_loadPart')
def Sr.RV (K : PySem.W.Frag) (H : Hp) (v : V) (xs : List V) (sr : Sr) : Prop := v = sr.val ∧ sr.at K H xs
def iZipS (K : PySem.W.Frag) (ta : TA) : TI := fun σ H R => ta σ H fun vs H1 => ∃ sa sb xs ys, vs = [sa.val, sb.val] ∧ sa.at K H1 xs ∧ sb.at K H1 ys ∧ R (ItzS K sa sb) H1
/-- the source's iterator -/
theorem Sr.start {X : Cx} {pins : List (Addr × Obj)} {σ : L2.St} {H : Hp} {s : Shared} {sr : Sr} {xs : List V} {u : Value} (I : Inv X pins σ H s) (h : sr.at X.K H xs) (r : RelV sr.val u) :
    ∃ o, o.isFreed = false ∧ (∀ h', (∀ c ob, s.heap.get? c = some ob → h'.get? c = some ob) → Itrs u o h') ∧ (∀ it h', h'.get? it = some o → sr.itr it 0 h') ∧ ∀ b, sr.isA b → b < s.heap.objs.size := by
  cases sr with
  | lst a =>
    cases r
    obtain ⟨its, rv, p, hz⟩ := I.list h
    exact ⟨_, rfl, fun h' k => Itrs.lst (p.isList.at fun o e => k a o e), fun it h' e => ⟨_, e, rfl, rfl⟩, fun b hb => by rw [show b = a from hb]; exact p.lt⟩
  | tup a =>
    cases r
    obtain ⟨its, rv, p, hz⟩ := I.tuple h
    have p' : s.heap.IsTuple a its.toArray := p
    exact ⟨_, rfl, fun h' k => Itrs.tup (p'.at fun o e => k a o e), fun it h' e => ⟨_, e, rfl, rfl⟩, fun b hb => by rw [show b = a from hb]; obtain ⟨o, ho, _⟩ := p'; exact Heap.lt_size ho⟩
  | str x =>
    obtain ⟨t, rfl⟩ := r
    exact ⟨_, rfl, fun h' k => Itrs.str, fun it h' e => ⟨t, _, e, rfl, rfl⟩, fun b hb => hb.elim⟩
theorem pi_zipS {X : Cx} {e e2 : Expr} {ta : TA} {p pos tpos : Pos} {elts : List Expr} {kk : Nat} (hg : Gl X "zip") (hm : X.mg "zip" = none) (ha : PA X [e, e2] ta)
    (hs : starEach [e, e2] X.env = (false, eval e X.env) :: starEach [e2] X.env := by rfl) (hpl : (backTo pos (starEach [e2] X.env)).any (·.1) = false := by rfl) :
    PI X (.Tuple elts kk tpos) (.Call (.Name "zip" p) [e, e2] [] pos) (iZipS X.K ta) := by
  refine ⟨fun pins s σ H R I h => ?_⟩
  refine Call_ (ld_blt I hg hm PyProof.Rows.boot_zip (PyProof.Rows.callWith_type1 (thn (ha.run pos pins s σ H _ I h) fun us s1 ⟨vs, H1, I1, r1, q1⟩ => ?_) hs hpl))
  obtain ⟨sa, sb, xs, ys, ex, hqx, hqy, q⟩ := q1
  subst ex
  cases r1 with
  | @cons _ u1 _ _ r rr =>
    cases rr with
    | @cons _ u2 _ _ r' rr =>
      cases rr
      obtain ⟨o1, f1, i1, st1, l1⟩ := Sr.start I1 hqx r
      obtain ⟨o2, f2, i2, st2, l2⟩ := Sr.start I1 hqy r'
      have fresh5 : ∀ c, c ∈ [s1.heap.objs.size + 4, s1.heap.objs.size + 2, s1.heap.objs.size + 3, s1.heap.objs.size, s1.heap.objs.size + 1] → FpOk X pins H1 c := fun c hcm => by
        have e' : c = s1.heap.objs.size + 4 ∨ c = s1.heap.objs.size + 2 ∨ c = s1.heap.objs.size + 3 ∨ c = s1.heap.objs.size ∨ c = s1.heap.objs.size + 1 := by simpa using hcm
        have hle : s1.heap.objs.size ≤ c := by
          rcases e' with z | z | z | z | z
          · rw [z]; exact Nat.le_add_right _ _
          · rw [z]; exact Nat.le_add_right _ _
          · rw [z]; exact Nat.le_add_right _ _
          · rw [z]; exact Nat.le_refl _
          · rw [z]; exact Nat.le_add_right _ _
        exact I1.fpOk hle (I1.hok.fresh hle)
      refine call_zipS f1 f2 (i1 _ fun _ _ e => e) (i2 _ fun c ob e => Heap.get?_push_of_some _ e) fun h' hz hTI hTO h1 h2 hsz hk => wpAny_pyIter_zip hz ?_
      have I2 : Inv X pins σ H1 { s1 with heap := h' } := I1.kept (t' := s1.toks) hk
      have ap : ZApart (s1.heap.objs.size + 4) (s1.heap.objs.size + 2) (s1.heap.objs.size + 3) s1.heap.objs.size (s1.heap.objs.size + 1) := by
        constructor <;> (intro z; simp at z)
      have ne : ∀ b, b < s1.heap.objs.size → b ≠ s1.heap.objs.size + 4 ∧ b ≠ s1.heap.objs.size + 3 ∧ b ≠ s1.heap.objs.size + 1 ∧ b ≠ s1.heap.objs.size := fun b hb =>
        ⟨Nat.ne_of_lt (Nat.lt_of_lt_of_le hb (Nat.le_add_right _ _)), Nat.ne_of_lt (Nat.lt_of_lt_of_le hb (Nat.le_add_right _ _)), Nat.ne_of_lt (Nat.lt_of_lt_of_le hb (Nat.le_add_right _ _)), Nat.ne_of_lt hb⟩
      exact ⟨s1.heap.objs.size + 4, [s1.heap.objs.size + 4, s1.heap.objs.size + 2, s1.heap.objs.size + 3, s1.heap.objs.size, s1.heap.objs.size + 1], _, _, H1, rfl, I2,
        turn_zipD ap (fun b hb => ⟨(ne b (l1 b hb)).1, (ne b (l1 b hb)).2.1, (ne b (l1 b hb)).2.2.1, (ne b (l1 b hb)).2.2.2⟩) (fun b hb => ⟨(ne b (l2 b hb)).1, (ne b (l2 b hb)).2.1, (ne b (l2 b hb)).2.2.2, (ne b (l2 b hb)).2.2.1⟩),
        ⟨hz, hTI, ⟨_, _, hTO⟩, st1 _ _ h1, st2 _ _ h2⟩, fresh5, q⟩

/-! ### enumerate -/
def IteS (K : PySem.W.Frag) (sr : Sr) : It :=
  ⟨fun i H => ∃ (xs : List V) (x : V), sr.at K H xs ∧ xs[i]? = some x, fun i H v H' => ∃ T x, v = .ref T ∧ H T = none ∧ H' = upd H T (.tup [.int (i : Nat), x]) ∧ ∀ xs, sr.at K H xs → xs[i]? = some x, fun i H => ∃ xs : List V, sr.at K H xs ∧ i = xs.length⟩
theorem turn_enumD {P : Program} {w : World} {K : PySem.W.Frag} {elts : List Expr} {kk : Nat} {tpos : Pos} (sr : Sr) (e it : Addr) (hne : e ≠ it) (n1 : ∀ b, sr.isA b → b ≠ e ∧ b ≠ it) :
    Turn P w K (.Tuple elts kk tpos) (IteS K sr) [e, it] e (fun i h => (∃ old, IsEnum h e it ((i : Nat) : Int) old) ∧ sr.itr it i h) where
  mem := by simp
  obj := fun i h st b hb => by
    obtain ⟨⟨old, he⟩, h1⟩ := st
    have e' : b = e ∨ b = it := by simpa using hb
    rcases e' with z | z
    · rw [z]; exact ⟨_, he, fun v q => nomatch q⟩
    · rw [z]; exact Sr.itr_obj h1
  keep := fun i h h' st k => let ⟨⟨old, he⟩, hi⟩ := st; ⟨⟨old, k e (by simp) _ he⟩, Sr.itr_at hi fun o q => k it (by simp) o q⟩
  item := by
    intro X hP hw hK hc i pins s σ H E I hf st hg
    subst hP hw hK
    obtain ⟨⟨old, he⟩, hit⟩ := st
    obtain ⟨xs, x, hq, hx⟩ := hg
    have hh : X.A.in1.handled = none := I.ok.hd hc
    obtain ⟨fp1, m1, P1, S1, d1, s1, e1, g1, j1, k1⟩ := Sr.draw I hh sr (fun b hb => (n1 b hb).2) hq hit
    have lx : i < xs.length := by
      by_cases q : i < xs.length
      · exact q
      · rw [List.getElem?_eq_none (by omega)] at hx; cases hx
    have hel : e < s.heap.objs.size := Heap.lt_size he
    have hil : it < s.heap.objs.size := by obtain ⟨_, q, _⟩ := Sr.itr_obj hit; exact Heap.lt_size q
    have hef : e ∉ fp1 := fun q => (k1 _ q).elim (fun r => hne r) fun r => (n1 _ r).1 rfl
    refine wpAny_pyNext_enum_itemD d1 he s1 (by omega) hne hef fun u h' tk p1 ho hit' hT hsz hk => ?_
    obtain ⟨x', hx', ru⟩ := g1 _ _ p1
    rw [hx] at hx'
    cases hx'
    refine ⟨_, rfl, wpAny_letOwnedTupleGo_enum (s := { s with heap := h', toks := tk + 1 }) ho fun h'' he' sb => ?_⟩
    have hT2 : h''.get? s.heap.objs.size = some { cls := .type "tuple", data := .seq #[.int i tk, u] } := (sb.2 _ (Nat.ne_of_gt hel)).trans hT
    have new : ObjOk X.prog X.w (upd H s.heap.objs.size (.tup [.int (i : Nat), x])) h'' s.heap.objs.size (.tup [.int (i : Nat), x]) :=
      ⟨by show 2 ≤ sizeLine; decide, [.int i tk, u], .cons ⟨_, rfl⟩ (.cons ru .nil), ⟨_, hT2, rfl, _, rfl⟩⟩
    have I1 : Inv X pins σ (upd H s.heap.objs.size (.tup [.int (i : Nat), x])) { s with heap := h'', toks := tk + 1 } :=
      I.turnedNew (ch := [e, it]) (fun b ob hb q => (sb.2 b (fun z => hb (by simp [z]))).trans (hk b ob (fun z => hb (by simp [z])) (fun z => hb (by simp [z])) q)) hf (Nat.le_refl _) new
    refine ⟨.ref s.heap.objs.size, _, I1, rfl, ⟨_, x, rfl, I.hok.fresh (Nat.le_refl _), rfl, fun ys hy => by rw [Sr.at_inj I hy hq]; exact hx⟩, ⟨⟨u, ?_⟩, Sr.itr_at (j1 _ _ hit') fun o q => (sb.2 it (Ne.symm hne)).trans q⟩, fun b hb => ?_⟩
    · have e1 : ((i + 1 : Nat) : Int) = (i : Int) + 1 := by omega
      rw [e1]; exact he'
    · have hb' : b < s.heap.objs.size := by
        have e' : b = e ∨ b = it := by simpa using hb
        rcases e' with z | z
        · rw [z]; exact hel
        · rw [z]; exact hil
      rw [upd_ne (Nat.ne_of_lt hb')]
      exact (hf b hb).1
  done := by
    intro X hP hw hK hc i pins s σ H E I hf st hg
    subst hP hw hK
    obtain ⟨⟨old, he⟩, hit⟩ := st
    obtain ⟨xs, hq, hx⟩ := hg
    have hh : X.A.in1.handled = none := I.ok.hd hc
    obtain ⟨fp1, m1, P1, S1, d1, s1, e1, g1, j1, k1⟩ := Sr.draw I hh sr (fun b hb => (n1 b hb).2) hq hit
    obtain ⟨f0, f1, f2, f3, f4, f5⟩ := hf it (by simp)
    subst hx
    have s1' : S1 m1 s.heap := by rw [e1]; exact s1
    exact wpAny_pyNext_enum_endD d1 he s1' fun h' eb => ⟨rfl, I.turned (t' := s.toks) (fun b o hb q => eb b o hb q) f0 f1 f3 f4 f5⟩
  self := fun A i s Q E st h => let ⟨⟨_, he⟩, _⟩ := st; wpAny_pyIter_enum he h
theorem meets_enumerate_newT' (l : Addr) (items : Array Value) (n : Nat) (dct : Option Addr) (sl : Array (Option Value)) :
    Meets (Builtin.«enumerate.__new__» ⟨[.type "enumerate", .ref l], []⟩) (fun _ R s => s.heap.get? l = some { cls := .type "tuple", dict := dct, data := .seq items n, slots := sl } ∧
      R (.ok (.ret (.ref (s.heap.push { cls := .type "tuple_iterator", data := .fields #[.ref l, .int 0 0] }).objs.size)))
        { s with heap := (s.heap.push { cls := .type "tuple_iterator", data := .fields #[.ref l, .int 0 0] }).push { cls := .type "enumerate", data := .fields #[.none, .bool false, .ref s.heap.objs.size, rawInt 0, .none, .none] } }) :=
  .of_wp fun prog w A R s h => by
    obtain ⟨hp, g, d, tk, os⟩ := s; obtain ⟨hl, h⟩ := h
    have hsub := sub_enumerate
    have hL : Heap.IsTuple (Shared.heap ⟨hp, g, d, tk, os⟩) l items := ⟨_, hl, rfl, n, rfl⟩
    wp_walk using wpAny_loadPart' hl
    refine wpAny_stack_any fun st => wpAny_pure ?_
    split
    · rename_i c _ _ _ _ _
      cases (c == Value.type "enumerate")
      · wp_walk using wpAny_loadPart' hl, wpAny_pyIter_tuple hL
        exact ⟨_, rfl, h⟩
      · wp_walk using wpAny_loadPart' hl, wpAny_pyIter_tuple hL
        exact ⟨_, rfl, h⟩
    · wp_walk using wpAny_loadPart' hl, wpAny_pyIter_tuple hL
      exact ⟨_, rfl, h⟩
end DI
namespace DI
open PySem PySem.Spec PyProof.Rows L2
open PySem.Sem (wp)
section
variable {prog : Program} {w : World} {A : Around} {E : Value → Shared → Prop} {s : Shared}
theorem call_enumerate_tuple {l : Addr} {items : Array Value} {Q : Value → Shared → Prop} (hL : s.heap.IsTuple l items)
    (h : ∀ h', IsEnum h' (s.heap.objs.size + 1) s.heap.objs.size 0 .none → h'.IsTupleIter s.heap.objs.size l 0 → h'.objs.size = s.heap.objs.size + 2 →
      (∀ b o, s.heap.get? b = some o → h'.get? b = some o) → Q (.ref (s.heap.objs.size + 1)) { s with heap := h' }) :
    wpAny (model prog w) A (call (.type "enumerate") [.ref l]) Q E s := by
  obtain ⟨⟨c, dct, dt, sl⟩, hl, hc, n, hd⟩ := hL
  replace hc : c = .type "tuple" := hc
  replace hd : dt = .seq items n := hd
  subst hc hd
  refine callType_new F.called_enumerate (by decide) (F.typeCall_enumerate_1 _) (F.newCall_enumerate_1 _) (fun obj => F.args_object_init_2 obj _) F.entry_enumerate_new
    (meets_enumerate_newT' l items n dct sl) ⟨hl, ?_⟩
  have hz : (s.heap.push { cls := .type "tuple_iterator", data := .fields #[.ref l, .int 0 0] }).objs.size = s.heap.objs.size + 1 := Heap.size_push ..
  show _ ∧ _
  rw [hz]
  have he : IsEnum ((s.heap.push { cls := .type "tuple_iterator", data := .fields #[.ref l, .int 0 0] }).push
      { cls := .type "enumerate", data := .fields #[.none, .bool false, .ref s.heap.objs.size, rawInt 0, .none, .none] }) (s.heap.objs.size + 1) s.heap.objs.size 0 .none := by
    have := Heap.get?_push_size (s.heap.push { cls := .type "tuple_iterator", data := .fields #[.ref l, .int 0 0] })
      (o := { cls := .type "enumerate", data := .fields #[.none, .bool false, .ref s.heap.objs.size, rawInt 0, .none, .none] }) rfl
    rw [hz] at this; exact this
  refine ⟨⟨_, he, rfl⟩, h _ he ⟨_, Heap.get?_push_of_some _ (Heap.get?_push_size _ rfl), rfl, rfl⟩ (by rw [Heap.size_push, hz]) fun b o x => Heap.get?_push_of_some _ (Heap.get?_push_of_some _ x)⟩
end
def iEnumS (K : PySem.W.Frag) (ta : TA) : TI := fun σ H R => ta σ H fun vs H1 => ∃ sr xs, vs = [sr.val] ∧ sr.at K H1 xs ∧ R (IteS K sr) H1
theorem pi_enumS {X : Cx} {e : Expr} {ta : TA} {p pos tpos : Pos} {elts : List Expr} {kk : Nat} (hg : Gl X "enumerate") (hm : X.mg "enumerate" = none) (ha : PA X [e] ta) (hs : starEach [e] X.env = [(false, eval e X.env)] := by rfl) :
    PI X (.Tuple elts kk tpos) (.Call (.Name "enumerate" p) [e] [] pos) (iEnumS X.K ta) := by
  refine ⟨fun pins s σ H R I h => ?_⟩
  refine Call_ (ld_blt I hg hm boot_enumerate (PyProof.Rows.callWith_type1 (thn (ha.run pos pins s σ H _ I h) fun us s1 ⟨vs, H1, I1, r1, q1⟩ => ?_) hs rfl))
  obtain ⟨sr, xs, ex, hq, q⟩ := q1
  subst ex
  cases r1 with
  | @cons _ u _ _ r rr =>
    cases rr
    have fin : ∀ h', IsEnum h' (s1.heap.objs.size + 1) s1.heap.objs.size 0 .none → sr.itr s1.heap.objs.size 0 h' → (∀ b, sr.isA b → b < s1.heap.objs.size) → (∀ b o, s1.heap.get? b = some o → h'.get? b = some o) →
        wpAny (model X.prog X.w) X.A (pyIter (.ref (s1.heap.objs.size + 1))) (PIE X pins σ (.Tuple elts kk tpos) R) X.xe { s1 with heap := h' } := fun h' he hit hlt hk => by
      refine wpAny_pyIter_enum he ?_
      have I2 : Inv X pins σ H1 { s1 with heap := h' } := I1.kept (t' := s1.toks) hk
      refine ⟨s1.heap.objs.size + 1, [s1.heap.objs.size + 1, s1.heap.objs.size], _, _, H1, rfl, I2, turn_enumD sr (s1.heap.objs.size + 1) s1.heap.objs.size (Nat.succ_ne_self _) (fun b hb => ⟨Nat.ne_of_lt (Nat.lt_succ_of_lt (hlt b hb)), Nat.ne_of_lt (hlt b hb)⟩), ⟨⟨.none, he⟩, hit⟩, fun b hb => ?_, q⟩
      have e' : b = s1.heap.objs.size + 1 ∨ b = s1.heap.objs.size := by simpa using hb
      have hle : s1.heap.objs.size ≤ b := by
        rcases e' with z | z
        · rw [z]; exact Nat.le_add_right _ _
        · rw [z]; exact Nat.le_refl _
      exact I1.fpOk hle (I1.hok.fresh hle)
    cases sr with
    | lst a =>
      cases r
      obtain ⟨its, rv, p', hz⟩ := I1.list hq
      exact call_enumerate_list p'.isList fun h' he hit hsz hk => fin h' he hit (fun b hb => by rw [show b = a from hb]; exact p'.lt) hk
    | tup a =>
      cases r
      obtain ⟨its, rv, p', hz⟩ := I1.tuple hq
      have p2 : s1.heap.IsTuple a its.toArray := p'
      exact call_enumerate_tuple p2 fun h' he hit hsz hk => fin h' he hit (fun b hb => by rw [show b = a from hb]; obtain ⟨o, ho, _⟩ := p2; exact Heap.lt_size ho) hk
    | str x =>
      obtain ⟨t, rfl⟩ := r
      exact call_enumerate_str fun h' he hit hsz hk => fin h' he ⟨t, hit⟩ (fun b hb => hb.elim) hk

/-! ### data -/
theorem Sr.sub {K : PySem.W.Frag} {G H : Hp} {xs : List V} {sr : Sr} (s : Sub G H) (h : sr.at K G xs) : sr.at K H xs := by
  cases sr with
  | lst a => exact s.sql h
  | tup a => exact s.sqt h
  | str x => exact h
theorem repAll_str {K : Kx} {G : Hp} : ∀ (s : List Char), RepAll K G ((txt s).cps.toList.map fun c => .str ⟨#[c]⟩) (s.map fun c => .str [c]) := by
  intro s
  have e : (txt s).cps.toList = s.map Char.toNat := by simp [txt]
  rw [e, List.map_map]
  induction s with
  | nil => exact .nil
  | cons c s ih => exact .cons (.str [c]) (ih (by simp [txt]))
theorem Sr.of {K : Kx} {G : Hp} {v : V} {x : D} {xs : List D} (r : Rep K G v x) (h : itD x = some xs) : ∃ (sr : Sr) (vs : List V), v = sr.val ∧ sr.at K.K G vs ∧ RepAll K G vs xs := by
  cases r with
  | lst a b => cases h; exact ⟨.lst _, _, rfl, a, b⟩
  | tup a b => cases h; exact ⟨.tup _, _, rfl, a, b⟩
  | str s => cases h; exact ⟨.str _, _, rfl, rfl, repAll_str s⟩
  | non => cases h
  | bl _ => cases h
  | int _ => cases h
  | dct _ _ _ _ => cases h
  | ins _ _ _ _ _ => cases h
theorem walkD_zip {K : Kx} {G : Hp} {sa sb : Sr} {vs us : List V} {xs ys : List D} (h1 : sa.at K.K G vs) (h2 : sb.at K.K G us) (r1 : RepAll K G vs xs) (r2 : RepAll K G us ys) :
    WalkD K G (ItzS K.K sa sb) ((xs.zip ys).map fun p => .tup [p.1, p.2]) where
  goes := fun i G' ι m H hi s g => by
    rw [List.length_map, List.length_zip, ← r1.length, ← r2.length] at hi
    have a1 : i < vs.length := by omega
    have a2 : i < us.length := by omega
    exact ⟨vs, us, vs[i], us[i], Sr.sub g.sub (Sr.sub s h1), Sr.sub g.sub (Sr.sub s h2), by simp [a1], by simp [a2]⟩
  stops := fun G' ι m H s g => ⟨vs, us, Sr.sub g.sub (Sr.sub s h1), Sr.sub g.sub (Sr.sub s h2), by rw [List.length_map, List.length_zip, r1.length, r2.length]⟩
  yields := fun i G' ι m H v H' hi s g y => by
    obtain ⟨T, x, y', rfl, hT, rfl, f1, f2⟩ := y
    have e1 := f1 vs (Sr.sub g.sub (Sr.sub s h1))
    have e2 := f2 us (Sr.sub g.sub (Sr.sub s h2))
    obtain ⟨d1, a1, b1⟩ := r1.getV e1
    obtain ⟨d2, a2, b2⟩ := r2.getV e2
    obtain ⟨g1, x1⟩ := g.lay hT (.tup [x, y'])
    refine ⟨_, .tup [d1, d2], ?_, x1, g1, .tup (SqT.of upd_same) (.cons (Rep.mono (s.trans x1.sub) b1) (.cons (Rep.mono (s.trans x1.sub) b2) .nil))⟩
    rw [List.getElem?_map, List.getElem?_zip_eq_some (z := (d1, d2)) |>.mpr ⟨a1, a2⟩] <;> rfl
theorem walkD_enum {K : Kx} {G : Hp} {sr : Sr} {vs : List V} {xs : List D} (h1 : sr.at K.K G vs) (r1 : RepAll K G vs xs) :
    WalkD K G (IteS K.K sr) (xs.mapIdx fun i x => .tup [.int i, x]) where
  goes := fun i G' ι m H hi s g => by
    rw [List.length_mapIdx, ← r1.length] at hi
    exact ⟨vs, vs[i], Sr.sub g.sub (Sr.sub s h1), by simp [hi]⟩
  stops := fun G' ι m H s g => ⟨vs, Sr.sub g.sub (Sr.sub s h1), by rw [List.length_mapIdx, r1.length]⟩
  yields := fun i G' ι m H v H' hi s g y => by
    obtain ⟨T, x, rfl, hT, rfl, f1⟩ := y
    have e1 := f1 vs (Sr.sub g.sub (Sr.sub s h1))
    obtain ⟨d1, a1, b1⟩ := r1.getV e1
    obtain ⟨g1, x1⟩ := g.lay hT (.tup [.int (i : Nat), x])
    refine ⟨_, .tup [.int i, d1], ?_, x1, g1, .tup (SqT.of upd_same) (.cons (.int _) (.cons (Rep.mono (s.trans x1.sub) b1) .nil))⟩
    rw [List.getElem?_mapIdx, a1] <;> rfl
section
variable {X : Cx} {W : XK} {a b : Expr} {fa fb f : SE} {p pos tpos : Pos} {elts : List Expr} {kk : Nat}
theorem si_zip (hm : X.mg "zip" = none) (h : SEx X W a fa) (h' : SEx X W b fb) (hg : Gl X "zip" := by rfl) (hs : starEach [a, b] X.env = (false, eval a X.env) :: starEach [b] X.env := by rfl) (hs2 : starEach [b] X.env = [(false, eval b X.env)] := by rfl)
    (hpl : (backTo pos (starEach [b] X.env)).any (·.1) = false := by rfl) : SIx X W (.Tuple elts kk tpos) (.Call (.Name "zip" p) [a, b] [] pos) (iZip fa fb) := by
  refine ⟨pi_weak (pi_zipS hg hm (pa_cons h.pe (pa_cons h'.pe pa_nil hs2) hs) hs hpl) fun σ H R ⟨G, ι, ρ, m, g, ev, q⟩ => ?_⟩
  have p' : PostG X (fun G _ J xs => WalkD X.kx G J xs) W G ι H ((fa ρ m).bind fun x m => (fb ρ m).bind fun y m => match x, y with
    | .d x, .d y => (match itD x, itD y with
      | some xs, some ys => .ok ((xs.zip ys).map fun p => .tup [p.1, p.2]) m
      | _, _ => .no)
    | _, _ => .no) R := q
  refine tE_mono (step_e g ev p') fun v H1 ⟨G1, ι1, m1, x, x1, g1, ev1, r1, _, p1⟩ => ?_
  refine tE_mono (step_e g1 ev1 p1) fun u H2 ⟨G2, ι2, m2, y, x2, g2, ev2, r2, _, p2⟩ => ?_
  have r1 := r1.ext x2
  match x, y, p2, r1, r2 with
  | .d x, .d y, p2, r1, r2 =>
    have p3 : PostG X (fun G _ J xs => WalkD X.kx G J xs) W G2 ι2 H2 (match itD x, itD y with
      | some xs, some ys => .ok ((xs.zip ys).map fun p => .tup [p.1, p.2]) m2
      | _, _ => .no) R := p2
    cases h1 : itD x with
    | none => rw [h1] at p3; exact p3.elim
    | some xs =>
      cases h2 : itD y with
      | none => rw [h1, h2] at p3; exact p3.elim
      | some ys =>
        rw [h1, h2] at p3
        obtain ⟨sa, vs, rfl, t1, w1⟩ := Sr.of r1 h1
        obtain ⟨sb, us, rfl, t2, w2⟩ := Sr.of r2 h2
        exact ⟨sa, sb, vs, us, rfl, Sr.sub g2.sub t1, Sr.sub g2.sub t2, p3 _ G2 ι2 H2 (Ext.refl ..) g2 (walkD_zip t1 t2 w1 w2)⟩
  | .obj _, _, p2, _, _ => exact p2.elim
  | .raw _, _, p2, _, _ => exact p2.elim
  | .d _, .obj _, p2, _, _ => exact p2.elim
theorem si_enum (hm : X.mg "enumerate" = none) (h : SEx X W a fa) (hg : Gl X "enumerate" := by rfl) (hs : starEach [a] X.env = [(false, eval a X.env)] := by rfl) : SIx X W (.Tuple elts kk tpos) (.Call (.Name "enumerate" p) [a] [] pos) (iEnum fa) := by
  refine ⟨pi_weak (pi_enumS hg hm (pa_cons h.pe pa_nil hs) hs) fun σ H R ⟨G, ι, ρ, m, g, ev, q⟩ => ?_⟩
  have p' : PostG X (fun G _ J xs => WalkD X.kx G J xs) W G ι H ((fa ρ m).bind fun x m => match x with
    | .d x => (match itD x with
      | some xs => .ok (xs.mapIdx fun i x => .tup [.int i, x]) m
      | none => .no)
    | _ => .no) R := by
    have e : iEnum fa ρ m = ((fa ρ m).bind fun x m => match x with
    | .d x => (match itD x with
      | some xs => .ok (xs.mapIdx fun i x => .tup [.int i, x]) m
      | none => .no)
    | _ => .no) := by
      unfold iEnum iV
      cases fa ρ m with
      | no => rfl
      | ex _ _ => rfl
      | ok x m1 =>
        rw [Res.bind_ok, Res.bind_ok]
        cases x with
        | obj _ => rfl
        | raw _ => rfl
        | d x =>
          show Res.bind (match itD x with
            | some xs => .ok xs m1
            | none => .no) (fun xs m => .ok (xs.mapIdx fun (i : Nat) x => D.tup [D.int i, x]) m) = (match itD x with
            | some xs => Res.ok (xs.mapIdx fun (i : Nat) x => D.tup [D.int i, x]) m1
            | none => .no)
          cases itD x with
          | none => rfl
          | some xs => rfl
    rw [← e]
    exact q
  refine tE_mono (step_e g ev p') fun v H1 ⟨G1, ι1, m1, x, x1, g1, ev1, r1, _, p1⟩ => ?_
  match x, p1, r1 with
  | .d x, p1, r1 =>
    have p3 : PostG X (fun G _ J xs => WalkD X.kx G J xs) W G1 ι1 H1 (match itD x with
      | some xs => .ok (xs.mapIdx fun i x => .tup [.int i, x]) m1
      | none => .no) R := p1
    cases h1 : itD x with
    | none => rw [h1] at p3; exact p3.elim
    | some xs =>
      rw [h1] at p3
      obtain ⟨sa, vs, rfl, t1, w1⟩ := Sr.of r1 h1
      exact ⟨sa, vs, rfl, Sr.sub g1.sub t1, p3 _ G1 ι1 H1 (Ext.refl ..) g1 (walkD_enum t1 w1)⟩
  | .obj _, p1, _ => exact p1.elim
  | .raw _, p1, _ => exact p1.elim
end
end DI
namespace DI
open PySem PySem.Spec PyProof.Rows L2
theorem tuple_mulS (l : Addr) (items : Array Value) (n : Nat) (dd : Option Addr) (sl : Array (Option Value)) (x : Int) (u : Tok) (c0 : (decide (x < -(2 ^ 63)) || decide (x ≥ 2 ^ 63)) = false) (c1 : (items.isEmpty || x == 1) = true) :
    Meets (Builtin.«tuple.__mul__» ⟨[.ref l, .int x u], []⟩) (fun _ R s => s.heap.get? l = some { cls := .type "tuple", dict := dd, data := .seq items n, slots := sl } ∧
      R (.ok (.ret (Value.ref l))) s) :=
  .of_wp fun prog w A R s h => by
    obtain ⟨hp, g, d, tk, os⟩ := s
    obtain ⟨hl, h⟩ := h
    have f1 := AutoSeq1.idx_int
    wp_walk using wpAny_loadPart' hl
    repeat (first
      | (refine wpAny_ite_false (decide_eq_false (by rw [c0]; exact Bool.false_ne_true)) ?_; wp_walk using wpAny_loadPart' hl)
      | (refine wpAny_ite_true (decide_eq_true c1) ?_; wp_walk using wpAny_loadPart' hl))
    exact ⟨_, rfl, h⟩
theorem tuple_mulN (l : Addr) (items : Array Value) (n : Nat) (dd : Option Addr) (sl : Array (Option Value)) (x : Int) (u : Tok) (c0 : (decide (x < -(2 ^ 63)) || decide (x ≥ 2 ^ 63)) = false) (c1 : (items.isEmpty || x == 1) = false) (c2 : (decide (x ≤ 0) || items.isEmpty) = true) :
    Meets (Builtin.«tuple.__mul__» ⟨[.ref l, .int x u], []⟩) (fun _ R s => s.heap.get? l = some { cls := .type "tuple", dict := dd, data := .seq items n, slots := sl } ∧
      R (.ok (.ret (Value.ref s.heap.objs.size))) { s with heap := s.heap.push { cls := Value.type "tuple", data := Data.seq #[] }, toks := s.toks }) :=
  .of_wp fun prog w A R s h => by
    obtain ⟨hp, g, d, tk, os⟩ := s
    obtain ⟨hl, h⟩ := h
    have f1 := AutoSeq1.idx_int
    wp_walk using wpAny_loadPart' hl
    repeat (first
      | (refine wpAny_ite_false (decide_eq_false (by rw [c0]; exact Bool.false_ne_true)) ?_; wp_walk using wpAny_loadPart' hl)
      | (refine wpAny_ite_false (decide_eq_false (by rw [c1]; exact Bool.false_ne_true)) ?_; wp_walk using wpAny_loadPart' hl)
      | (refine wpAny_ite_true (decide_eq_true c2) ?_; wp_walk using wpAny_loadPart' hl))
    exact ⟨_, rfl, h⟩
section
variable {X : Cx}
def rRepS (K : PySem.W.Frag) : R2 := fun x y H Q => ∃ l k xs, x = .ref l ∧ y = .int k ∧ SqT K H l xs ∧ (xs = [] ∨ k = 1) ∧ -(2 ^ 63) ≤ k ∧ k < 2 ^ 63 ∧ Q (.ref l) H
def rRepN (K : PySem.W.Frag) : R2 := fun x y H Q => ∃ l k xs, x = .ref l ∧ y = .int k ∧ SqT K H l xs ∧ xs ≠ [] ∧ k ≤ 0 ∧ -(2 ^ 63) ≤ k ∧ ∀ p, H p = none → Q (.ref p) (upd H p (.tup []))
theorem int_rmul_tup (k : Int) (t : Tok) {s : Shared} {l : Addr} {its : List Value} {n : Nat} {dd : Option Addr} {sl : Array (Option Value)} (ho : s.heap.get? l = some { cls := .type "tuple", dict := dd, data := .seq its.toArray n, slots := sl }) : True := trivial
theorem op_repS : OpR X (binaryOp .Mult) (rRepS X.K) := by
  intro pins s σ H x y v u Q I rx ry h
  obtain ⟨l, k, xs, rfl, rfl, hT, hne, h1, h2, q⟩ := h
  cases rx
  obtain ⟨t, rfl⟩ := ry
  obtain ⟨its, r, ⟨⟨cls, dd, data, sl⟩, ho, hc, n, hd⟩, hs⟩ := I.tuple hT
  simp only at hc hd
  subst hc hd
  have c0 : (decide (k < -(2 ^ 63)) || decide (k ≥ 2 ^ 63)) = false := by
    rw [decide_eq_false (by omega), decide_eq_false (by omega)] <;> rfl
  have c1 : (its.toArray.isEmpty || k == 1) = true := by
    rcases hne with rfl | rfl
    · cases r; rfl
    · simp
  exact wpAny_binaryOp_repeat_ref (T := "tuple") (U := "int") (by decide) ⟨_, ho, rfl⟩ (fun s' => typeIs_int s' k t) noFill_tuple_mul F.fills_int_mul F.slot_int_rmul repeat_tuple F.slot_int_index.lookup
    (call_meets F.slot_int_rmul (typeIs_int s k t) F.entry_int_rmul (F.args_int_rmul_2 _ _) (int_rmul_tuple k t l its.toArray n dd sl)
      ⟨ho, rfl, ⟨_, ho, rfl⟩, call_meets F.slot_tuple_mul ⟨_, ho, rfl⟩ F.entry_tuple_mul (F.args_tuple_mul_2 _ _) (tuple_mulS l its.toArray n dd sl k t c0 c1) ⟨ho, .ref l, H, I, rfl, q⟩⟩)
theorem op_repN : OpR X (binaryOp .Mult) (rRepN X.K) := by
  intro pins s σ H x y v u Q I rx ry h
  obtain ⟨l, k, xs, rfl, rfl, hT, hne, h1, h2, q⟩ := h
  cases rx
  obtain ⟨t, rfl⟩ := ry
  obtain ⟨its, r, ⟨⟨cls, dd, data, sl⟩, ho, hc, n, hd⟩, hs⟩ := I.tuple hT
  simp only at hc hd
  subst hc hd
  have hi : its.toArray.isEmpty = false := by
    cases r with
    | nil => exact absurd rfl hne
    | cons a b => rfl
  have c0 : (decide (k < -(2 ^ 63)) || decide (k ≥ 2 ^ 63)) = false := by
    rw [decide_eq_false (by omega), decide_eq_false (by omega)] <;> rfl
  have c1 : (its.toArray.isEmpty || k == 1) = false := by
    rw [hi, Bool.false_or]
    exact beq_eq_false_iff_ne.mpr (by omega)
  have c2 : (decide (k ≤ 0) || its.toArray.isEmpty) = true := by
    rw [decide_eq_true h1] <;> rfl
  refine wpAny_binaryOp_repeat_ref (T := "tuple") (U := "int") (by decide) ⟨_, ho, rfl⟩ (fun s' => typeIs_int s' k t) noFill_tuple_mul F.fills_int_mul F.slot_int_rmul repeat_tuple F.slot_int_index.lookup
    (call_meets F.slot_int_rmul (typeIs_int s k t) F.entry_int_rmul (F.args_int_rmul_2 _ _) (int_rmul_tuple k t l its.toArray n dd sl)
      ⟨ho, rfl, ⟨_, ho, rfl⟩, call_meets F.slot_tuple_mul ⟨_, ho, rfl⟩ F.entry_tuple_mul (F.args_tuple_mul_2 _ _) (tuple_mulN l its.toArray n dd sl k t c0 c1 c2) ⟨ho, ?_⟩⟩)
  refine ⟨.ref s.heap.objs.size, _, I.laid (t' := s.toks) (o := .tup []) (fun b ob q => Heap.get?_push_of_some _ q) (Nat.le_refl _) ?_, rfl, q _ (I.hok.fresh (Nat.le_refl _))⟩
  exact ⟨Nat.zero_le _, [], .nil, IsTup.new _ _⟩
def rMulStr : R2 := fun x y H Q => ∃ t k, x = .str t ∧ y = .int k ∧ MulOk t k ∧ Q (.str (Txt.mul t k)) H
theorem op_mulStr : OpR X (binaryOp .Mult) rMulStr := by
  intro pins s σ H x y v u Q I rx ry h
  obtain ⟨t, k, rfl, rfl, hm, q⟩ := h
  obtain ⟨t1, rfl⟩ := rx
  obtain ⟨t2, rfl⟩ := ry
  exact SB.mul hm fun t' tk => ⟨.str _, H, I.tok _, ⟨_, rfl⟩, q⟩
def rMulD (K : PySem.W.Frag) : R2 := fun x y H Q => rI CMul (fun i j => .int (i * j)) x y H Q ∨ rMulStr x y H Q ∨ rRepT K x y H Q ∨ rRepS K x y H Q ∨ rRepN K x y H Q
theorem op_mulD : OpR X (binaryOp .Mult) (rMulD X.K) := op_mul.or (op_mulStr.or (op_repT.or (op_repS.or op_repN)))
end
end DI
namespace DI
def dMulD : D → D → Option D
  | .int i, .int j => dMul (.int i) (.int j)
  | .str s, .int k => if -1000000 ≤ k ∧ k ≤ 1000000 ∧ s.length * k.toNat ≤ lineL then some (.str (List.replicate k.toNat s).flatten) else none
  | .tup xs, .int k => if -1000000 ≤ k ∧ k ≤ 1000 ∧ xs.length ≤ 1000 then some (.tup (List.replicate k.toNat xs).flatten) else none
  | _, _ => none
def intsD : List D → Option (List Int)
  | [] => some []
  | .int i :: r => (intsD r).map (i :: ·)
  | _ :: _ => none
def maxI : List Int → Option Int
  | [] => none
  | [a] => some a
  | a :: r => match maxI r with
    | some b => some (if a < b then b else a)
    | none => none
def minI : List Int → Option Int
  | [] => none
  | [a] => some a
  | a :: r => match minI r with
    | some b => some (if b < a then b else a)
    | none => none
def dMax : D → Option D
  | .lst xs => (intsD xs).bind fun ns => (maxI ns).map .int
  | _ => none
def dMin : D → Option D
  | .lst xs => (intsD xs).bind fun ns => (minI ns).map .int
  | _ => none
def dSum : D → Option D
  | .lst xs => (intsD xs).map fun ns => .int ns.sum
  | _ => none
def dIsD (a b : D) : Option D := match b with
  | .bl c => dIsB c a
  | _ => none
def dNotD (a b : D) : Option D := match b with
  | .bl c => dNotB c a
  | _ => none
def tyP : D → String
  | .non => "NoneType" | .bl _ => "bool" | .int _ => "int" | .str _ => "str" | .lst _ => "list" | .tup _ => "tuple" | .dct _ _ => "" | .ins _ _ _ => ""
/-- isinstance(x, T) -/
def dIsiP (T : String) (x : D) : Option D := if ["int", "str", "bool", "tuple", "list"].contains T && !(tyP x == "") then some (.bl (T == tyP x || (T == "int" && tyP x == "bool"))) else none
/-- what no run of ours comes to -/
def sNo : SS := fun _ _ => .no
def eNo : SE := fun _ _ => .no
end DI
namespace DI
/-- list(range(..)) -/
def nRg1 (a : SE) : NE := fun ρ m => (a ρ m).bind fun x m => match x with
  | .d (.int j) => if j.natAbs ≤ 1000000 then .ok (rng 0 j.toNat) m else .no
  | _ => .no
def nRg2 (a b : SE) : NE := fun ρ m => (a ρ m).bind fun x m => (b ρ m).bind fun y m => match x, y with
  | .d (.int i), .d (.int j) => if i.natAbs ≤ 1000000 ∧ j.natAbs ≤ 1000000 then .ok (rng i (j - i).toNat) m else .no
  | _, _ => .no
end DI
namespace DI
/-- list(x): of a list, a tuple, a text -/
def nSqA (a : SE) : NE := fun ρ m => (a ρ m).bind fun x m => match vw m x with
  | some (.lst xs) => .ok xs m
  | some (.tup xs) => .ok xs m
  | some (.str s) => if s.length ≤ lineL then .ok (s.map fun c => .str [c]) m else .no
  | _ => .no
end DI
namespace DI
/-- x[::-1] -/
def dRev : D → Option D
  | .lst xs => some (.lst xs.reverse)
  | .tup xs => some (.tup xs.reverse)
  | _ => none
end DI
namespace DI
/-- the first place of y -/
def firstIx (y : D) : List D → Option Nat
  | [] => none
  | z :: r => if D.eqv z y then some 0 else (firstIx y r).map (· + 1)
/-- xs.index(y) -/
def dIndex : D → D → Option D
  | .lst xs, y => if flatD y && xs.all flatD then (firstIx y xs).map fun (j : Nat) => .int j else none
  | _, _ => none
/-- xs + ys, lists, as a new list -/
def nCat (a b : SE) : NE := fun ρ m => (a ρ m).bind fun x m => (b ρ m).bind fun y m => match vw m x, vw m y with
  | some (.lst xs), some (.lst ys) => if xs.length + ys.length ≤ lineL then .ok (xs ++ ys) m else .no
  | _, _ => .no
end DI
namespace DI
/-- a list's method of one argument -/
def eMeth (f : D → D → Option D) (a b : SE) : SE := fun ρ m => (a ρ m).bind fun x m => match vw m x with
  | some (.lst _) => (b ρ m).bind fun y m => ofO ((vw m x).bind fun dx => (vw m y).bind fun dy => f dx dy) m
  | _ => .no
end DI
namespace DI
open PySem PySem.Spec PyProof.Rows L2
theorem foldl_repN (its : List Nat) : ∀ (k : Nat) (acc : List Nat), List.foldl (fun x1 x2 => x1 ++ x2) acc.toArray (List.replicate k its.toArray) = (acc ++ (List.replicate k its).flatten).toArray
  | 0, acc => by simp
  | k + 1, acc => by
    have e : acc.toArray ++ its.toArray = (acc ++ its).toArray := by simp
    have e2 : (acc ++ its) ++ (List.replicate k its).flatten = acc ++ (List.replicate (k + 1) its).flatten := by
      simp [List.replicate_succ]
    rw [← e2, ← foldl_repN its k (acc ++ its), ← e, List.replicate_succ, List.foldl_cons]
theorem txt_mul (s : List Char) (k : Int) : Txt.mul (txt s) k = txt (List.replicate k.toNat s).flatten := by
  unfold Txt.mul
  by_cases h1 : k < 1
  · rw [if_pos h1, show k.toNat = 0 by omega]; rfl
  · rw [if_neg h1]
    by_cases h2 : (k == 1 || (txt s).length == 0) = true
    · rw [if_pos h2]
      rw [Bool.or_eq_true] at h2
      rcases h2 with h2 | h2
      · have : k = 1 := eq_of_beq h2
        subst this
        show txt s = txt (List.replicate 1 s).flatten
        simp [List.replicate]
      · have h3 : (txt s).length = 0 := eq_of_beq h2
        rw [txt_length] at h3
        have : s = [] := List.eq_nil_of_length_eq_zero h3
        subst this
        congr 1
        induction k.toNat with
        | zero => rfl
        | succ n ih => rw [List.replicate_succ, List.flatten_cons, ← ih]; rfl
    · rw [if_neg h2]
      have := foldl_repN (s.map Char.toNat) k.toNat []
      show Str.mk (List.foldl (fun x1 x2 => x1 ++ x2) #[] (List.replicate k.toNat (s.map Char.toNat).toArray)) = txt _
      rw [show (#[] : Array Nat) = ([] : List Nat).toArray from rfl, this]
      simp [txt, List.map_flatten]
section
variable {X : Cx} {W : XK} {a b c e elt tg iter : Expr} {es rest ifs : List Expr} {fa fb fc f fe : SE} {pos p : Pos} {G H : Hp} {ι : Io} {ρ : Env} {m : Mem} {σ : L2.St} {st : Stmt} {sts : List Stmt}
theorem ds_mulD : Op2 X dMulD (rMulD X.K) := by
  intro G ι m H v u x y d Q g rx ry e fin
  cases x with
  | int i =>
    cases y with
    | int j => exact .inl (ds_mul g rx ry e fin)
    | _ => cases e
  | str s =>
    cases y with
    | int k =>
      cases (show v = .str (txt s) from rx)
      cases (show u = .int k from ry)
      obtain ⟨h, e⟩ := ite_some e
      cases e
      refine .inr (.inl ⟨_, _, rfl, rfl, ⟨?_, fun h1 h2 => ?_, fun h1 h2 => ?_⟩, ?_⟩)
      · rw [decide_eq_false (by omega), decide_eq_false (by omega)] <;> rfl
      · rw [txt_length]
        have h3 := h.2.2
        have hk : 1 ≤ k := by omega
        have h4 : ((s.length : Nat) : Int) * k ≤ 16777216 := by
          have : ((s.length * k.toNat : Nat) : Int) ≤ 16777216 := by unfold lineL at h3; omega
          rw [Int.natCast_mul, Int.toNat_of_nonneg (by omega)] at this
          exact this
        have h5 : ((s.length : Nat) : Int) ≤ (2 ^ 63 - 1) / k := (Int.le_ediv_iff_mul_le (by omega)).mpr (by omega)
        omega
      · rw [txt_length]
        have h3 := h.2.2
        unfold Builtin.Str.tooLong
        rw [← lineL_eq]
        exact decide_eq_false (by omega)
      · rw [txt_mul]
        exact fin.here g (.str _)
    | _ => cases e
  | tup xs =>
    cases y with
    | int k =>
      obtain ⟨a, vs, rfl, h1, r1⟩ := rx
      cases (show u = .int k from ry)
      obtain ⟨h, e⟩ := ite_some e
      cases e
      by_cases hs : vs = [] ∨ k = 1
      · refine .inr (.inr (.inr (.inl ⟨a, k, vs, rfl, rfl, g.sub.sqt h1, hs, by omega, by omega, fin.here g ?_⟩)))
        have e2 : (List.replicate k.toNat xs).flatten = xs := by
          rcases hs with rfl | rfl
          · cases r1
            induction k.toNat with
            | zero => rfl
            | succ n ih => rw [List.replicate_succ, List.flatten_cons, ih]; rfl
          · show (List.replicate 1 xs).flatten = xs
            simp [List.replicate]
        rw [e2]
        exact .tup h1 r1
      · have hne : vs ≠ [] := fun z => hs (.inl z)
        have hk1 : k ≠ 1 := fun z => hs (.inr z)
        by_cases hk : k ≤ 0
        · refine .inr (.inr (.inr (.inr ⟨a, k, vs, rfl, rfl, g.sub.sqt h1, hne, hk, by omega, fun p hp => ?_⟩)))
          rw [show k.toNat = 0 by omega] at fin
          exact g.layT hp .nil fin
        · refine .inr (.inr (.inl ⟨a, k, vs, rfl, rfl, g.sub.sqt h1, hne, by omega, h.2.1, by rw [r1.length]; exact h.2.2, fun p hp => g.layT hp ?_ fin⟩))
          induction k.toNat with
          | zero => exact .nil
          | succ n ih => rw [List.replicate_succ, List.flatten_cons, List.replicate_succ, List.flatten_cons]; exact r1.append ih
    | _ => cases e
  | _ => cases e
theorem ds_isBl : Op2 X dIsD rIsB := by
  intro G ι m H v u x y d Q g rx ry e fin
  cases y with
  | bl c =>
    cases x with
    | bl b =>
      cases (show v = .bl b from rx)
      cases (show u = .bl c from ry)
      cases e
      refine ⟨b, c, rfl, rfl, fin.here g ?_⟩
      have : (b == c) = decide (b = c) := by cases b <;> cases c <;> rfl
      rw [this]
      exact .bl _
    | _ => cases e
  | _ => cases x <;> cases e
theorem ds_notBl : Op2 X dNotD rNotB := by
  intro G ι m H v u x y d Q g rx ry e fin
  cases y with
  | bl c =>
    cases x with
    | bl b =>
      cases (show v = .bl b from rx)
      cases (show u = .bl c from ry)
      cases e
      refine ⟨b, c, rfl, rfl, fin.here g ?_⟩
      have : (b == c) = decide (b = c) := by cases b <;> cases c <;> rfl
      rw [this]
      exact .bl _
    | _ => cases e
  | _ => cases x <;> cases e
theorem intsD_rep {K : Kx} {G : Hp} : ∀ {xs : List D} {ns : List Int} {vs : List V}, intsD xs = some ns → RepAll K G vs xs → vs = ns.map V.int
  | [], _, _, h, r => by cases h; cases r; rfl
  | .int i :: xs, ns, _, h, r => by
    cases r with
    | @cons v vs _ _ r1 rr =>
      cases r1
      have h' : (intsD xs).map (i :: ·) = some ns := h
      cases h2 : intsD xs with
      | none => rw [h2] at h'; cases h'
      | some ms =>
        rw [h2] at h'
        cases h'
        rw [intsD_rep h2 rr] <;> rfl
  | .non :: _, _, _, h, _ => by cases h
  | .bl _ :: _, _, _, h, _ => by cases h
  | .str _ :: _, _, _, h, _ => by cases h
  | .tup _ :: _, _, _, h, _ => by cases h
  | .lst _ :: _, _, _, h, _ => by cases h
theorem maxI_of : ∀ {ns : List Int} {k : Int}, maxI ns = some k → k ∈ ns ∧ ∀ y, y ∈ ns → y ≤ k
  | [], _, h => by cases h
  | [a], k, h => by cases h; simp
  | a :: b :: r, k, h => by
    have h' : (match maxI (b :: r) with
      | some b => some (if a < b then b else a)
      | none => none) = some k := h
    cases h2 : maxI (b :: r) with
    | none => rw [h2] at h'; cases h'
    | some q =>
      rw [h2] at h'
      obtain ⟨i1, i2⟩ := maxI_of h2
      have e : (if a < q then q else a) = k := Option.some.inj h'
      by_cases z : a < q
      · rw [if_pos z] at e
        subst e
        exact ⟨List.mem_cons_of_mem _ i1, fun y hy => (List.mem_cons.mp hy).elim (fun w => by omega) (fun w => i2 y w)⟩
      · rw [if_neg z] at e
        subst e
        exact ⟨List.mem_cons_self .., fun y hy => (List.mem_cons.mp hy).elim (fun w => by omega) (fun w => Int.le_trans (i2 y w) (by omega))⟩
theorem minI_of : ∀ {ns : List Int} {k : Int}, minI ns = some k → k ∈ ns ∧ ∀ y, y ∈ ns → k ≤ y
  | [], _, h => by cases h
  | [a], k, h => by cases h; simp
  | a :: b :: r, k, h => by
    have h' : (match minI (b :: r) with
      | some b => some (if b < a then b else a)
      | none => none) = some k := h
    cases h2 : minI (b :: r) with
    | none => rw [h2] at h'; cases h'
    | some q =>
      rw [h2] at h'
      obtain ⟨i1, i2⟩ := minI_of h2
      have e : (if q < a then q else a) = k := Option.some.inj h'
      by_cases z : q < a
      · rw [if_pos z] at e
        subst e
        exact ⟨List.mem_cons_of_mem _ i1, fun y hy => (List.mem_cons.mp hy).elim (fun w => by omega) (fun w => i2 y w)⟩
      · rw [if_neg z] at e
        subst e
        exact ⟨List.mem_cons_self .., fun y hy => (List.mem_cons.mp hy).elim (fun w => by omega) (fun w => Int.le_trans (by omega) (i2 y w))⟩
theorem b_max : Bi1 X dMax (rMax X.K) := by
  intro G ι m H v x d Q g rx e fin
  cases x with
  | lst xs =>
    obtain ⟨a, vs, rfl, h, r⟩ := rx
    have e' : ((intsD xs).bind fun ns => (maxI ns).map D.int) = some d := e
    cases h1 : intsD xs with
    | none => rw [h1] at e'; cases e'
    | some ns =>
      rw [h1] at e'
      have e2 : (maxI ns).map D.int = some d := e'
      cases h2 : maxI ns with
      | none => rw [h2] at e2; cases e2
      | some k =>
        rw [h2] at e2
        cases e2
        obtain ⟨i1, i2⟩ := maxI_of h2
        refine ⟨a, ns, rfl, by rw [← intsD_rep h1 r]; exact h, List.length_pos_of_mem i1, fun q hq hm => ?_⟩
        have : q = k := Int.le_antisymm (i2 q hq) (hm k i1)
        subst this
        exact fin.here g (.int _)
  | _ => cases e
theorem b_min : Bi1 X dMin (rMin X.K) := by
  intro G ι m H v x d Q g rx e fin
  cases x with
  | lst xs =>
    obtain ⟨a, vs, rfl, h, r⟩ := rx
    have e' : ((intsD xs).bind fun ns => (minI ns).map D.int) = some d := e
    cases h1 : intsD xs with
    | none => rw [h1] at e'; cases e'
    | some ns =>
      rw [h1] at e'
      have e2 : (minI ns).map D.int = some d := e'
      cases h2 : minI ns with
      | none => rw [h2] at e2; cases e2
      | some k =>
        rw [h2] at e2
        cases e2
        obtain ⟨i1, i2⟩ := minI_of h2
        refine ⟨a, ns, rfl, by rw [← intsD_rep h1 r]; exact h, List.length_pos_of_mem i1, fun q hq hm => ?_⟩
        have : q = k := Int.le_antisymm (hm k i1) (i2 q hq)
        subst this
        exact fin.here g (.int _)
  | _ => cases e
theorem b_sum : Bi1 X dSum (rSum X.K) := by
  intro G ι m H v x d Q g rx e fin
  cases x with
  | lst xs =>
    obtain ⟨a, vs, rfl, h, r⟩ := rx
    have e' : ((intsD xs).map fun ns => D.int ns.sum) = some d := e
    cases h1 : intsD xs with
    | none => rw [h1] at e'; cases e'
    | some ns =>
      rw [h1] at e'
      cases e'
      exact ⟨a, ns, rfl, by rw [← intsD_rep h1 r]; exact h, fin.here g (.int _)⟩
  | _ => cases e
theorem isiP {T : String} {x d : D} (h : dIsiP T x = some d) : dIsi T x = some d := by
  obtain ⟨h1, h2⟩ := ite_some h
  subst h2
  rw [Bool.and_eq_true] at h1
  have h3 : T ∈ ["int", "str", "bool", "tuple", "list"] := by simpa using h1.1
  have h4 : ¬ tyP x = "" := by simpa using h1.2
  simp only [List.mem_cons, List.not_mem_nil, or_false] at h3
  have h5 : ¬ tyD x = "" := by
    cases x <;> first | exact absurd rfl h4 | (simp only [tyD]; decide)
  unfold dIsi
  rw [if_neg h5]
  have key : kitB (tyD x) T = some (T == tyP x || (T == "int" && tyP x == "bool")) := by
    rcases h3 with rfl | rfl | rfl | rfl | rfl <;> cases x <;> first | exact absurd rfl h4 | (simp only [tyD, tyP]; decide +kernel)
  rw [key] <;> rfl
theorem e1_mono {f g : D → Option D} (w : ∀ x d, f x = some d → g x = some d) (h : SEx X W e (e1 g fa)) : SEx X W e (e1 f fa) := by
  refine ⟨pe_weak h.pe fun σ H Q ⟨G, ι, ρ, m, g0, ev, p⟩ => ⟨G, ι, ρ, m, g0, ev, ?_⟩⟩
  have key : e1 f fa ρ m = e1 g fa ρ m ∨ e1 f fa ρ m = .no := by
    unfold e1
    cases fa ρ m with
    | no => exact .inl rfl
    | ex _ _ => exact .inl rfl
    | ok x m1 =>
      rw [Res.bind_ok, Res.bind_ok]
      cases hv : vw m1 x with
      | none => exact .inl rfl
      | some d =>
        cases hf : f d with
        | none => right; show ofO (f d) m1 = .no; rw [hf] <;> rfl
        | some d' => left; show ofO (f d) m1 = ofO (g d) m1; rw [hf, w _ _ hf]
  rcases key with k | k
  · rw [← k]; exact p
  · rw [k] at p; exact p.elim
theorem se_isiP {t : Str} {T : String} {pt : Pos} (hm : X.mg "isinstance" = none) (hmt : X.mg t = none) (ha : SEx X W a fa) (hv : bootBuiltins t = some (.type T) := by decide +kernel) (hg : Gl X "isinstance" := by rfl) (hgt : Gl X t := by rfl) (hn : t ≠ "__name__" := by decide +kernel)
    (hdb : (t == ("__debug__" : Str)) = false := by decide +kernel) (he : starEach (a :: [.Name t pt]) X.env = (false, eval a X.env) :: starEach [.Name t pt] X.env := by rfl) : SEx X W (.Call (.Name "isinstance" p) [a, .Name t pt] [] pos) (e1 (dIsiP T) fa) :=
  e1_mono (fun _ _ h => isiP h) (se_isi (x := "isinstance") hm hmt ha hv hg hgt hn hdb he)
/-- what no run of ours comes to: anything -/
theorem ss_no : SSt X W st sNo := ⟨⟨fun pins s σ H D I h => by obtain ⟨_, _, _, _, _, _, p⟩ := h; exact p.elim⟩⟩
theorem se_no : SEx X W e eNo := ⟨⟨fun pins s σ H Q I h => by obtain ⟨_, _, _, _, _, _, p⟩ := h; exact p.elim⟩⟩
end
end DI
namespace DI
open PySem PySem.Spec PyProof.Rows L2
def GlobC (K : Kx) (x : Str) (d : D) : Prop := ∃ v u, K.mg x = some u ∧ RelV v u ∧ ∀ G, Rep K G v d
section
variable {X : Cx} {W : XK} {pos : Pos}
theorem se_globE {x : Str} {d : D} (h : GlobC X.kx x d) (hg : Gl X x := by rfl) (hd : (x == ("__debug__" : Str)) = false := by decide +kernel) : SEx X W (.Name x pos) (eC d) := by
  obtain ⟨v, u, h1, h2, h3⟩ := h
  exact se_glob h1 h2 h3 hg hd
end
theorem globC_int {K : Kx} {x : Str} {i : Int} {t : Tok} (h : K.mg x = some (.int i t)) : GlobC K x (.int i) := ⟨.int i, _, h, ⟨t, rfl⟩, fun _ => .int i⟩
theorem globC_str {K : Kx} {x y : Str} {s : List Char} {t : Tok} (h : K.mg x = some (.str y t)) (e : y = txt s := by decide +kernel) : GlobC K x (.str s) := ⟨.str y, _, h, ⟨t, rfl⟩, fun _ => by rw [e]; exact .str s⟩
theorem globC_tup {K : Kx} {x : Str} {a : Addr} {dd : Option Addr} {its : Array Value} {n : Nat} {sl : Array (Option Value)} {vs : List V} {ds : List D} (h : K.mg x = some (.ref a)) (l : K.K.lookup a = some ⟨.type "tuple", dd, .seq its n, sl⟩)
    (hz : its.size ≤ 1000) (hv : Vals vs its.toList) (r : ∀ G, RepAll K G vs ds) : GlobC K x (.tup ds) :=
  ⟨.ref a, _, h, rfl, fun G => .tup (.inr ⟨_, its, n, l, rfl, rfl, Nat.le_trans hz (by decide), hv⟩) (r G)⟩
theorem repAll_ints {K : Kx} {G : Hp} : ∀ ns : List Int, RepAll K G (ns.map V.int) (ns.map D.int)
  | [] => .nil
  | n :: ns => .cons (.int n) (repAll_ints ns)
theorem walk {l : PySem.W.OpenLaw} {q : Program} {loose : List Str} {XP : (Str → Option Value) → Heap → Prop} {YP : World → Heap → Prop} {d : DefRec} {K : Params → PySem.W.Frag} {lv : Nat} {F : Fn} (hn : l.most = some 63) (hdf : d.params.defaults = []) (hr : Room lv callerA)
    (hY : ∀ (w : World) (h : Heap), YP w h → (K w.params).In h)
    (HF : ∀ (w : World) (mg : Str → Option Value) (fa : Addr) (h : Heap), (K w.params).In h → h.Ns mainGlobals mg → mg d.name = some (.ref fa) →
      ∃ fd : FuncData, (∀ (s : Shared) (u : Value), BindsTo s fd ⟨[u], []⟩ [("script", u)]) ∧ ∀ base : Heap, (K w.params).In base → base.Ns mainGlobals mg → FnOk l.prog w (K w.params) mg base (L2N.CX l.prog w) lv fa fd ["script"] (spF ⟨K w.params, mg⟩ 1 F))
    (law : ∀ ns : List Int, ns.length ≤ 63 → ∃ m', F [.d (.lst (ns.map .int))] [] = .ok (.d (.bl true)) m') :
    PySem.W.WalkO q loose XP YP l.row.toRowW d [] (fun f vs => PySem.call f vs) :=
  L2.walk_of (n := 63) (k := lv) (x := "script") (CX := fun w => L2N.CX l.prog w) (sp := fun w vs H Q E => ∃ (a : Addr) (ns : List Int), vs = [.ref a] ∧ SqL (K w.params) H a (ns.map V.int) ∧ ns.length ≤ 63 ∧ ∀ H', Q (.bl true) H') hn (by decide) hdf hr hY
    (fun w mg fa h KX G hmg => by
      obtain ⟨fd, hb, hF⟩ := HF w mg fa h KX G hmg
      refine ⟨fd, hb, fun base k1 k2 => (hF base k1 k2).imp fun vs H Q E h => ?_⟩
      obtain ⟨a, ns, rfl, hS, hl, k⟩ := h
      obtain ⟨m', e⟩ := law ns hl
      refine ⟨H, [], [], [.d (.lst (ns.map .int))], rfl, ⟨Sub.refl H, rfl, by simp, fun i l o h => by simp at h⟩, .cons (.lst hS (repAll_ints ns)) .nil, ?_⟩
      rw [e]
      intro v G' ι' H' x g r
      cases r
      exact k H')
    (fun _ _ a ns hl _ hS => ⟨a, ns, rfl, hS, hl, fun _ => rfl⟩) fun _ _ _ _ _ z => by
      obtain ⟨_, _, _, _, _, _, _, _, _, _, _, _, h⟩ := z
      exact h
/-- .. of a law that makes lambdas: c its code object, T that one's table -/
theorem walkT {l : PySem.W.OpenLaw} {q : Program} {loose : List Str} {XP : (Str → Option Value) → Heap → Prop} {YP : World → Heap → Prop} {d : DefRec} {K : Params → PySem.W.Frag} {lv : Nat} {T : Addr} {F : Addr → Fn} (qn : String) (hn : l.most = some 63) (hdf : d.params.defaults = []) (hr : Room lv callerA)
    (hY : ∀ (w : World) (h : Heap), YP w h → (K w.params).In h) (hT : ∀ (w : World) (h : Heap), YP w h → ∀ P ∈ [T], h.get? P = some { cls := .none, data := .fields #[] })
    (HF : ∀ (w : World) (mg : Str → Option Value) (fa : Addr) (h : Heap), (K w.params).In h → h.Ns mainGlobals mg → mg d.name = some (.ref fa) →
      ∃ (c : Addr) (fd : FuncData), PySem.W.codeHdIn (K w.params) c T = true ∧ (K w.params).lookup T = none ∧ (∀ (s : Shared) (u : Value), BindsTo s fd ⟨[u], []⟩ [("script", u)]) ∧
        ∀ base : Heap, (K w.params).In base → base.Ns mainGlobals mg → LamX.TabB base mg c T → FnOk l.prog w (K w.params) mg base (L2N.CX l.prog w) lv fa fd ["script"] (spF ⟨K w.params, mg⟩ 1 (F T)))
    (law : ∀ (T : Addr) (ns : List Int), ns.length ≤ 63 → ∃ m', F T [.d (.lst (ns.map .int))] [.tab T qn] = .ok (.d (.bl true)) m') :
    PySem.W.WalkO q loose XP YP l.row.toRowW d [] (fun f vs => PySem.call f vs) :=
  LamX.walk_ofTs (n := 63) (k := lv) (x := "script") (CX := fun w => L2N.CX l.prog w) hn (by decide) hdf hr hY
    (fun w mg fa h Y KX G hmg => by
      obtain ⟨c, fd, h1, h2, hb, hF⟩ := HF w mg fa h KX G hmg
      have one : ∀ {φ : Addr × Addr → Prop}, φ (c, T) → ∀ p ∈ [(c, T)], φ p := fun {φ} z p hp => by
        have e : p = (c, T) := by simpa using hp
        rw [e]; exact z
      refine ⟨fd, [(c, T)], fun vs H Q E => ∃ (a : Addr) (ns : List Int), vs = [.ref a] ∧ SqL (K w.params) H a (ns.map V.int) ∧ ns.length ≤ 63 ∧ H T = some (.tbl #[]) ∧ ∀ H', Q (.bl true) H', one (hT w h Y T (by simp)), one h2, one (PySem.W.codeHd_of_K KX h1), hb, fun H a ns hl _ hH hS => ⟨a, ns, rfl, hS, hl, hH (c, T) (by simp), fun _ => rfl⟩, fun base k1 k2 k3 => (hF base k1 k2 (k3 (c, T) (by simp))).imp fun vs H Q E h => ?_⟩
      obtain ⟨a, ns, rfl, hS, hl, hH, k⟩ := h
      obtain ⟨m', e⟩ := law T ns hl
      -- the script is frozen, the table is ours
      refine ⟨fun b => if b = T then none else H b, [[T]], [.tab T qn], [.d (.lst (ns.map .int))], rfl, ⟨fun b o q => ?_, rfl, by simp, fun i l o hl ho => ?_⟩, .cons (.lst ?_ (repAll_ints ns)) .nil, ?_⟩
      · by_cases z : b = T
        · rw [if_pos z] at q; cases q
        · rw [if_neg z] at q; exact q
      · cases i with
        | succ i => simp at hl
        | zero =>
          simp at hl ho
          subst hl ho
          exact ⟨#[], rfl, if_pos rfl, hH, True.intro, fun pos cv hc => by simp [codeAmong] at hc⟩
      · have hne : a ≠ T ∨ ∃ o its n, (K w.params).lookup a = some o ∧ o.cls = .type "list" ∧ o.dict = none ∧ o.data = .seq its n ∧ its.size ≤ sizeLine ∧ Vals (ns.map V.int) its.toList := by
          rcases hS with (hS | ⟨o, hS⟩) | hS
          · exact .inl fun z => by rw [z, hH] at hS; cases hS
          · exact .inl fun z => by rw [z, hH] at hS; cases hS
          · exact .inr hS
        rcases hne with z | z
        · rcases hS with (hS | ⟨o, hS⟩) | hS
          · exact .inl (.inl ((if_neg z).trans hS))
          · exact .inl (.inr ⟨o, (if_neg z).trans hS⟩)
          · exact .inr hS
        · exact .inr z
      · rw [e]
        intro v G' ι' H' x g r
        cases r
        exact k H')
    fun _ _ _ _ _ z => by
      obtain ⟨_, _, _, _, _, _, _, _, _, _, _, _, h⟩ := z
      exact h
end DI
namespace DI
open PySem PySem.Spec PyProof.Rows L2
theorem rgV_rep {K : Kx} {G : Hp} (a b : Int) : RepAll K G (rgV a b) (rng a (b - a).toNat) := by
  unfold rgV rng
  induction List.range (b - a).toNat with
  | nil => exact .nil
  | cons n ns ih => exact .cons (.int _) ih
section
variable {X : Cx} {W : XK} {a b : Expr} {fa fb : SE} {pos p p2 pos2 : Pos} {G H : Hp} {ι : Io} {ρ : Env} {m : Mem} {σ : L2.St}
/-- the way to a new list from an expression's steps -/
theorem tNE_G {f : NE} {Q : VK} {g0 : GR X.kx G ι m H} (ev : EnvR X.kx G ι ρ σ) (p : match f ρ m with
  | .ok xs m' => ∀ q vs G' ι' H', Ext G ι H G' ι' H' → GR X.kx G' ι' m' H' → H' q = none → RepAll X.kx G' vs xs → Q (.ref q) (upd H' q (.lst vs))
  | .ex e m' => ∀ c dx G' ι' H', Ext G ι H G' ι' H' → GR X.kx G' ι' m' H' → ExR X.kx G' H' e c dx → W c dx H'
  | .no => False) : PostG X (fun G _ (v : Addr × List V) xs => RepAll X.kx G v.2 xs) W G ι H (f ρ m) (fun v H' => H' v.1 = none → Q (.ref v.1) (upd H' v.1 (.lst v.2))) := by
  cases hr : f ρ m with
  | no => rw [hr] at p; exact p
  | ex e m1 => rw [hr] at p; exact p
  | ok xs m1 =>
    rw [hr] at p
    exact fun v G' ι' H' e g r hq => p v.1 v.2 G' ι' H' e g hq r
theorem ne_rg1 (hc : X.calm = true) (hml : X.mg "list" = none) (hm : X.mg "range" = none) (h : SEx X W a fa) (hgl : Gl X "list" := by rfl) (hg : Gl X "range" := by rfl) (hs : starEach [a] X.env = (false, eval a X.env) :: starEach [] X.env := by rfl)
    (hs0 : starEach [.Call (.Name "range" p2) [a] [] pos2] X.env = (false, eval (.Call (.Name "range" p2) [a] [] pos2) X.env) :: starEach [] X.env := by rfl) :
    NEx X W (.Call (.Name "list" p) [.Call (.Name "range" p2) [a] [] pos2] [] pos) (nRg1 fa) := by
  refine ⟨pe_weak (pe_listRg hc hgl hml (prg_1 hg hm h.pe hs) hs0) fun σ H Q ⟨G, ι, ρ, m, g, ev, p⟩ => ?_⟩
  have p' := tNE_G (f := nRg1 fa) (g0 := g) ev p
  have p2 : PostG X (fun G _ (v : Addr × List V) xs => RepAll X.kx G v.2 xs) W G ι H ((fa ρ m).bind fun x m => match x with
    | .d (.int j) => if j.natAbs ≤ 1000000 then .ok (rng 0 j.toNat) m else .no
    | _ => .no) (fun v H' => H' v.1 = none → Q (.ref v.1) (upd H' v.1 (.lst v.2))) := p'
  refine tE_mono (step_e g ev p2) fun v H1 ⟨G1, ι1, m1, x, x1, g1, ev1, r1, _, p3⟩ => ?_
  match x, p3, r1 with
  | .d (.int j), p3, r1 =>
    cases r1
    have p4 : PostG X (fun G _ (v : Addr × List V) xs => RepAll X.kx G v.2 xs) W G1 ι1 H1 (if j.natAbs ≤ 1000000 then .ok (rng 0 j.toNat) m1 else .no) (fun v H' => H' v.1 = none → Q (.ref v.1) (upd H' v.1 (.lst v.2))) := p3
    by_cases hf : j.natAbs ≤ 1000000
    · rw [if_pos hf] at p4
      refine ⟨j, rfl, ⟨by omega, by omega, by omega, by omega, by omega⟩, fun q hq => p4 (q, rgV 0 j) G1 ι1 H1 (Ext.refl ..) g1 ?_ hq⟩
      have := rgV_rep (K := X.kx) (G := G1) 0 j
      rw [Int.sub_zero] at this
      exact this
    · rw [if_neg hf] at p4; exact p4.elim
  | .d .non, p1, _ => exact p1.elim
  | .d (.bl _), p1, _ => exact p1.elim
  | .d (.str _), p1, _ => exact p1.elim
  | .d (.tup _), p1, _ => exact p1.elim
  | .d (.dct _ _), p1, _ => exact p1.elim
  | .d (.ins _ _ _), p1, _ => exact p1.elim
  | .d (.lst _), p1, _ => exact p1.elim
  | .obj _, p1, _ => exact p1.elim
  | .raw _, p1, _ => exact p1.elim
theorem ne_rg2 (hc : X.calm = true) (hml : X.mg "list" = none) (hm : X.mg "range" = none) (h : SEx X W a fa) (h' : SEx X W b fb) (hgl : Gl X "list" := by rfl) (hg : Gl X "range" := by rfl) (hs : starEach [a, b] X.env = (false, eval a X.env) :: starEach [b] X.env := by rfl)
    (hsb : starEach [b] X.env = (false, eval b X.env) :: starEach [] X.env := by rfl) (hpl : (backTo pos2 (starEach [b] X.env)).any (·.1) = false := by rfl)
    (hs0 : starEach [.Call (.Name "range" p2) [a, b] [] pos2] X.env = (false, eval (.Call (.Name "range" p2) [a, b] [] pos2) X.env) :: starEach [] X.env := by rfl) :
    NEx X W (.Call (.Name "list" p) [.Call (.Name "range" p2) [a, b] [] pos2] [] pos) (nRg2 fa fb) := by
  refine ⟨pe_weak (pe_listRg hc hgl hml (prg_2 hg hm h.pe h'.pe hs hsb hpl) hs0) fun σ H Q ⟨G, ι, ρ, m, g, ev, p⟩ => ?_⟩
  have p' := tNE_G (f := nRg2 fa fb) (g0 := g) ev p
  have p2 : PostG X (fun G _ (v : Addr × List V) xs => RepAll X.kx G v.2 xs) W G ι H ((fa ρ m).bind fun x m => (fb ρ m).bind fun y m => match x, y with
    | .d (.int i), .d (.int j) => if i.natAbs ≤ 1000000 ∧ j.natAbs ≤ 1000000 then .ok (rng i (j - i).toNat) m else .no
    | _, _ => .no) (fun v H' => H' v.1 = none → Q (.ref v.1) (upd H' v.1 (.lst v.2))) := p'
  refine tE_mono (step_e g ev p2) fun v H1 ⟨G1, ι1, m1, x, x1, g1, ev1, r1, _, p3⟩ => ?_
  refine tE_mono (step_e g1 ev1 p3) fun u H2 ⟨G2, ι2, m2, y, x2, g2, ev2, r2, _, p4⟩ => ?_
  have key : ∃ i j, x = .d (.int i) ∧ y = .d (.int j) := by
    match x, y, p4 with
    | .d (.int i), .d (.int j), _ => exact ⟨i, j, rfl, rfl⟩
    | .d (.int i), .d .non, p2 => exact p2.elim
    | .d (.int i), .d (.bl _), p2 => exact p2.elim
    | .d (.int i), .d (.str _), p2 => exact p2.elim
    | .d (.int i), .d (.tup _), p2 => exact p2.elim
    | .d (.int i), .d (.dct _ _), p2 => exact p2.elim
    | .d (.int i), .d (.ins _ _ _), p2 => exact p2.elim
    | .d (.int i), .d (.lst _), p2 => exact p2.elim
    | .d (.int i), .obj _, p2 => exact p2.elim
    | .d .non, _, p2 => exact p2.elim
    | .d (.bl _), _, p2 => exact p2.elim
    | .d (.str _), _, p2 => exact p2.elim
    | .d (.tup _), _, p2 => exact p2.elim
    | .d (.dct _ _), _, p2 => exact p2.elim
    | .d (.ins _ _ _), _, p2 => exact p2.elim
    | .d (.lst _), _, p2 => exact p2.elim
    | .obj _, _, p2 => exact p2.elim
    | .raw _, _, p2 => exact p2.elim
  obtain ⟨i, j, rfl, rfl⟩ := key
  cases r1
  cases r2
  have p5 : PostG X (fun G _ (v : Addr × List V) xs => RepAll X.kx G v.2 xs) W G2 ι2 H2 (if i.natAbs ≤ 1000000 ∧ j.natAbs ≤ 1000000 then .ok (rng i (j - i).toNat) m2 else .no) (fun v H' => H' v.1 = none → Q (.ref v.1) (upd H' v.1 (.lst v.2))) := p4
  by_cases hf : i.natAbs ≤ 1000000 ∧ j.natAbs ≤ 1000000
  · rw [if_pos hf] at p5
    exact ⟨i, j, rfl, rfl, ⟨by omega, by omega, by omega, by omega, by omega⟩, fun q hq => p5 (q, rgV i j) G2 ι2 H2 (Ext.refl ..) g2 (rgV_rep i j) hq⟩
  · rw [if_neg hf] at p5; exact p5.elim
theorem signs_vals {x : Str} {acc : Array Value} (h : ItemsOf (SignAt x) acc x.cps.size) : Vals (x.cps.toList.map fun c => V.str ⟨#[c]⟩) acc.toList := by
  have e : acc.toList.length = x.cps.toList.length := by rw [Array.length_toList, h.1]; simp
  have e2 : (x.cps.toList.map fun c => V.str ⟨#[c]⟩) = (List.range acc.toList.length).map fun i => V.str ⟨#[x.cps.toList.getD i 0]⟩ := by
    apply List.ext_getElem?
    intro i
    by_cases hi : i < x.cps.toList.length
    · have hi2 : i < acc.toList.length := by omega
      rw [List.getElem?_map, List.getElem?_map, List.getElem?_eq_getElem hi, List.getElem?_range hi2]
      have hi3 : i < x.cps.size := by simpa using hi
      simp [List.getD, hi3]
    · rw [List.getElem?_eq_none (by simpa using hi), List.getElem?_eq_none (by rw [List.length_map, List.length_range]; omega)]
  rw [e2]
  refine vals_of_get acc.toList _ fun j u hj => ?_
  obtain ⟨c, t, hc, rfl⟩ := h.2 j u (by rw [← hj, Array.getElem?_toList])
  have hc2 : x.cps.toList[j]? = some c := by rw [Array.getElem?_toList]; exact hc
  refine ⟨t, ?_⟩
  simp [List.getD, hc2]
theorem call_list_txt (hc : X.calm = true) : CallR X (.type "list") (fun xs H Q => ∃ z, xs = [.str z] ∧ z.length ≤ sizeLine ∧ ∀ l, H l = none → Q (.ref l) (upd H l (.lst (z.cps.toList.map fun c => .str ⟨#[c]⟩)))) := by
  intro pins s σ H xs us Q I r h
  obtain ⟨z, rfl, hz, q⟩ := h
  obtain ⟨u, rfl, t, rfl⟩ := vals1 r
  refine call_list_str (I.ok.hd hc) z t (fun h' tk acc' c' hk hS hi => ?_) hz
  refine ⟨.ref s.heap.objs.size, _, I.laid (t' := tk) hk (Nat.le_refl _) (show ObjOk X.prog X.w _ h' _ (.lst _) from ⟨?_, acc'.toList, c', signs_vals hi, ?_⟩), rfl, q _ (I.hok.fresh (Nat.le_refl _))⟩
  · have : z.cps.size ≤ sizeLine := hz
    simpa using this
  · rw [Array.toArray_toList]; exact hS
theorem ne_listA (hc : X.calm = true) (hm : X.mg "list" = none) (ha : SEx X W a fa) (hg : Gl X "list" := by rfl) (he : starEach (a :: []) X.env = (false, eval a X.env) :: starEach [] X.env := by rfl) : NEx X W (.Call (.Name "list" p) [a] [] pos) (nSqA fa) := by
  refine ⟨pe_weak (pe_callTy (call_list_of.or (call_list_txt hc)) hg hm (by decide +kernel) (pa_cons ha.pe pa_nil he) (by decide +kernel) (by decide +kernel) he (by rfl)) fun σ H Q ⟨G, ι, ρ, m, g, ev, p⟩ => ?_⟩
  refine ⟨G, ι, ρ, m, g, ev, ?_⟩
  unfold nSqA at p
  cases hr : fa ρ m with
  | no => rw [hr] at p; exact p
  | ex e m1 => rw [hr] at p; exact p
  | ok x m1 =>
    rw [hr] at p
    intro v G' ι' H' e g r
    rw [Res.bind_ok] at p
    cases hx : vw m1 x with
    | none => rw [hx] at p; exact p.elim
    | some d =>
      rw [hx] at p
      cases d with
      | lst xs =>
        obtain ⟨a, vs, rfl, h, q⟩ := r.view g hx
        exact .inl ⟨a, vs, rfl, .inl h, fun q' hq => p q' vs G' ι' H' e g hq q⟩
      | tup xs =>
        obtain ⟨a, vs, rfl, h, q⟩ := r.view g hx
        exact .inl ⟨a, vs, rfl, .inr (g.sub.sqt h), fun q' hq => p q' vs G' ι' H' e g hq q⟩
      | str s =>
        cases (show v = .str (txt s) from r.view g hx)
        by_cases hl : s.length ≤ lineL
        · have p' := p
          dsimp only at p'
          rw [if_pos hl] at p'
          exact .inr ⟨_, rfl, by rw [txt_length, ← lineL_eq]; exact hl, fun q' hq => p' q' _ G' ι' H' e g hq (repAll_str s)⟩
        · have p' := p
          dsimp only at p'
          rw [if_neg hl] at p'
          exact p'.elim
      | _ => exact p.elim
end
end DI
namespace DI
open PySem PySem.Spec PyProof.Rows L2 HT
section
variable {prog : Program} {w : World} {A : Around} {E : Value → Shared → Prop} {s : Shared}
theorem sliceApplied_rev {sl : Addr} {vl vu vs : Value} {n : Nat} {Q : Int × Int × Nat → Shared → Prop} (hs : s.heap.IsSliceOf sl vl vu vs) (pl : IsPart vl none) (pu : IsPart vu none) (ps : IsPart vs (some (-1)))
    (h : Q ((n : Int) - 1, -1, n) s) : wpAny (model prog w) A (Builtin.Slice.sliceApplied (.ref sl) (pure (n : Int))) Q E s := by
  obtain ⟨os, hos, hcs, hds⟩ := id hs
  unfold Builtin.Slice.sliceApplied Builtin.Slice.sliceFields
  refine wpAny_bind (wpAny_bind (wpAny_field hos hds (x := vl) rfl (wpAny_bind (wpAny_field hos hds (x := vu) rfl (wpAny_bind (wpAny_field hos hds (x := vs) rfl (wpAny_pure ?_)))))))
  refine wpAny_bind (slicePart_ ps ?_)
  show wpAny _ _ (if ((-1 : Int) == 0) = true then _ else _) _ _ s
  rw [if_neg (by decide)]
  refine wpAny_bind (slicePart_ pl (wpAny_bind (slicePart_ pu (wpAny_bind (wpAny_pure ?_)))))
  show wpAny _ _ (match Builtin.Slice.sliceAdjust none none (-1) (n : Int) with | (lo, hi) => pure (lo, (-1 : Int), Builtin.Slice.slicePlaces lo hi (-1))) _ _ s
  have e : Builtin.Slice.sliceAdjust none none (-1) (n : Int) = ((n : Int) - 1, -1) := rfl
  rw [e]
  show wpAny _ _ (pure ((n : Int) - 1, (-1 : Int), Builtin.Slice.slicePlaces ((n : Int) - 1) (-1) (-1))) _ _ s
  have e2 : Builtin.Slice.slicePlaces ((n : Int) - 1) (-1) (-1) = n := by
    unfold Builtin.Slice.slicePlaces
    rw [if_neg (by decide)]
    by_cases h : (n : Int) - 1 > -1
    · rw [if_pos h]
      have : ((n : Int) - 1 - -1 - 1) / (- -1) = (n : Int) - 1 := by
        rw [show (- -1 : Int) = 1 by decide, Int.ediv_one]
        omega
      rw [this]
      omega
    · rw [if_neg h]
      omega
  rw [e2]
  exact wpAny_pure h
theorem fm_some {α β : Type} {f : α → Option β} {g : α → β} : ∀ l : List α, (∀ x ∈ l, f x = some (g x)) → l.filterMap f = l.map g
  | [], _ => rfl
  | x :: l, h => by rw [List.filterMap_cons_some (h x (by simp)), fm_some l fun y hy => h y (by simp [hy]), List.map_cons]
theorem pick_rev (xs : Array Value) : ((List.range xs.size).filterMap fun (k : Nat) => xs[((xs.size : Int) - 1 + (k : Int) * -1).toNat]?).toArray = xs.toList.reverse.toArray := by
  congr 1
  have key : ∀ l : List Value, (List.range l.length).filterMap (fun (k : Nat) => l[((l.length : Int) - 1 + (k : Int) * -1).toNat]?) = l.reverse := by
    intro l
    apply List.ext_getElem?
    intro i
    have e : (List.range l.length).filterMap (fun (k : Nat) => l[((l.length : Int) - 1 + (k : Int) * -1).toNat]?) = (List.range l.length).map fun k => l.getD (l.length - 1 - k) .none := by
      refine fm_some _ fun k hk => ?_
      rw [List.mem_range] at hk
      have e1 : ((l.length : Int) - 1 + (k : Int) * -1).toNat = l.length - 1 - k := by omega
      rw [e1]
      have hlt : l.length - 1 - k < l.length := by omega
      simp [List.getD, List.getElem?_eq_getElem hlt]
    rw [e]
    by_cases hi : i < l.length
    · rw [List.getElem?_map, List.getElem?_range hi, List.getElem?_reverse hi]
      have hlt : l.length - 1 - i < l.length := by omega
      simp [List.getD, List.getElem?_eq_getElem hlt]
    · rw [List.getElem?_eq_none (by rw [List.length_map, List.length_range]; omega), List.getElem?_eq_none (by rw [List.length_reverse]; omega)]
  have := key xs.toList
  simpa using this
theorem getItem_tuple_rev {t sl : Addr} {items : Array Value} {vl vu vs : Value} {Q : Value → Shared → Prop} (ht : IsTup s.heap t items) (hs : s.heap.IsSliceOf sl vl vu vs) (pl : IsPart vl none) (pu : IsPart vu none) (ps : IsPart vs (some (-1)))
    (h : Q (.ref s.heap.objs.size) { s with heap := s.heap.push { cls := .type "tuple", data := .seq items.toList.reverse.toArray } })
    (hsz : items.size ≤ sizeLine) : wpAny (model prog w) A (getItem (.ref t) (.ref sl)) Q E s := by
  have hok : sizeOk (.seq items.toList.reverse.toArray) := by
    show items.toList.reverse.toArray.size ≤ sizeLine
    rw [List.size_toArray, List.length_reverse, Array.length_toList]
    exact hsz
  obtain ⟨os, hos, hcs, hds⟩ := id hs
  have hTs : s.TypeIs (.ref sl) "slice" := ⟨os, hos, hcs⟩
  unfold getItem
  try with_reducible refine wpAny_holding ?_
  first | refine wpAny_bind (wpAny_pure ?_) | skip
  refine wpAny_bind (wpAny_sequenceKey ht.typeIs (by decide) ?_)
  refine wpAny_bind (wpAny_callSpecial?_slot (name := Str.ofString "__getitem__") ht.typeIs PyProof.Rows.slot_tuple_getitem
    (wpAny_call_entry PyProof.Rows.slot_tuple_getitem ht.typeIs entry_tuple_getitem ?_ (args_tuple_getitem _ _)))
  show wpAny _ _ (Builtin.Tuple.tupleItemsOf (.ref t) >>= _) _ _ s
  refine wpAny_bind (tupleItemsOf_ ht ?_)
  refine wpAny_bind (wpAny_typeOf hTs ?_)
  rw [if_pos (by decide)]
  refine wpAny_bind (sliceApplied_rev hs pl pu ps ?_)
  have hno : ¬ ((((items.size : Int) - 1 == 0) && (-1 : Int) == 1 && items.size == items.size) = true) := by
    intro q
    rw [Bool.and_eq_true, Bool.and_eq_true] at q
    exact absurd q.1.2 (by decide)
  show wpAny _ _ (if (((items.size : Int) - 1 == 0) && (-1 : Int) == 1 && items.size == items.size) = true then _ else _) _ _ s
  rw [if_neg hno, pick_rev]
  first
    | exact wpAny_bind (m := Builtin.Tuple.tupleExact _) (wpAny_newObj_type (wpAny_pure ⟨_, rfl, wpAny_pure h⟩) hok)
    | exact wpAny_bind (m := Builtin.Tuple.tupleExact _) (wpAny_newObj_type (wpAny_bind (wpAny_pure (wpAny_pure ⟨_, rfl, wpAny_pure h⟩))) hok)
    | exact wpAny_bind (wpAny_bind (m := Builtin.Tuple.tupleExact _) (wpAny_newObj_type (wpAny_pure (wpAny_pure ⟨_, rfl, wpAny_pure h⟩)) hok))
    | exact wpAny_bind (wpAny_bind (m := Builtin.Tuple.tupleExact _) (wpAny_newObj_type (wpAny_pure ⟨_, rfl, wpAny_pure h⟩) hok))
end
def tRevT (K : PySem.W.Frag) (te : TE) : TE := fun σ H Q => te σ H fun x H1 => ∃ a xs, x = .ref a ∧ SqT K H1 a xs ∧ ∀ p, H1 p = none → Q (.ref p) (upd H1 p (.tup xs.reverse))
section
variable {X : Cx} {W : XK} {e : Expr} {te : TE} {fe : SE} {k : Nat} {p1 p2 p3 pos : Pos}
theorem pe_revT (he : PE X e te) : PE X (.Subscript e (.Slice none none (some (.UnaryOp .USub (.Constant (.int 1) k p1) p2)) p3) pos) (tRevT X.K te) := by
  refine ⟨fun pins s σ H Q I h => ?_⟩
  refine Subscript_ (thn (he.run pins s σ H _ I h) fun v s1 ⟨x, H1, I1, r1, q1⟩ => ?_)
  obtain ⟨a, xs, ex, hx, q⟩ := q1
  subst ex
  cases r1
  have hst : PO X (some (.UnaryOp .USub (.Constant (.int 1) k p1) p2)) (tPart (tUn (rU fun i => .int (-i)) (tC (.int 1)))) := po_some (pe_un un_neg pe_int)
  refine wpAny_Slice (thn (po_none.run pins s1 σ H1 (fun o H2 => o = none ∧ H2 = H1) I1 ⟨rfl, rfl⟩) fun vl s2 ⟨l, H2, I2, pl, el, e2⟩ => ?_)
  subst el e2
  refine thn (po_none.run pins s2 σ H2 (fun o H3 => o = none ∧ H3 = H2) I2 ⟨rfl, rfl⟩) fun vu s3 ⟨u, H3, I3, pu, eu, e3⟩ => ?_
  subst eu e3
  refine thn (hst.run pins s3 σ H3 (fun o H4 => o = some (-1) ∧ H4 = H3) I3 ⟨1, rfl, -1, rfl, rfl, rfl⟩) fun vs s4 ⟨o, H4, I4, ps, eo, e4⟩ => ?_
  subst eo e4
  have I5 : Inv X pins σ H4 { s4 with heap := s4.heap.push { cls := .type "slice", data := .fields #[vl, vu, vs] } } := I4.kept (t' := s4.toks) fun b ob q => Heap.get?_push_of_some _ q
  obtain ⟨its, r, ht, hz⟩ := I5.tuple hx
  have hlen := r.length
  show wpAny (model X.prog X.w) X.A (subscriptTail e (.Slice none none (some (.UnaryOp .USub (.Constant (.int 1) k p1) p2)) p3) (.ref a) (.ref s4.heap.objs.size)) (EP X pins σ Q) X.xe { s4 with heap := s4.heap.push { cls := .type "slice", data := .fields #[vl, vu, vs] } }
  refine tail_any (ops := [.ref a, .ref s4.heap.objs.size]) ht.typeIs (PyProof.Rows.slot_tuple_getitem.lookup) ?_ (by with_unfolding_all rfl)
  refine getItem_tuple_rev ht (Heap.IsSliceOf.new _ vl vu vs) pl pu ps ?_ (by rw [List.size_toArray]; omega)
  refine ⟨.ref _, _, I5.laid (t' := s4.toks) (o := .tup xs.reverse) (fun b ob q => Heap.get?_push_of_some _ q) (Nat.le_refl _) ?_, rfl, q _ (I5.hok.fresh (Nat.le_refl _))⟩
  exact ⟨by rw [List.length_reverse]; exact hz, _, r.reverse, IsTup.new _ _⟩
theorem pe_or2 {t t' : TE} (h : PE X e t) (h' : PE X e t') : PE X e (fun σ H Q => t σ H Q ∨ t' σ H Q) := ⟨fun pins s σ H Q I q => q.elim (h.run pins s σ H Q I) (h'.run pins s σ H Q I)⟩
theorem RepAll.rev {K : Kx} {G : Hp} : ∀ {vs : List V} {ds : List DI.D}, RepAll K G vs ds → RepAll K G vs.reverse ds.reverse
  | _, _, .nil => .nil
  | _, _, .cons r t => by rw [List.reverse_cons, List.reverse_cons]; exact (RepAll.rev t).append (.cons r .nil)
/-- x[::-1] -/
theorem se_rev (he : SEx X W e fe) : SEx X W (.Subscript e (.Slice none none (some (.UnaryOp .USub (.Constant (.int 1) k p1) p2)) p3) pos) (e1 dRev fe) := by
  refine ⟨pe_weak (pe_or2 (pe_revL he.pe) (pe_revT he.pe)) fun σ H Q ⟨G, ι, ρ, m, g, ev, p⟩ => ?_⟩
  rw [postE_G] at p
  have p' : PostG X (fun G ι => RepV X.kx G ι) W G ι H ((fe ρ m).bind fun x m => ofO ((vw m x).bind dRev) m) Q := p
  cases hr : fe ρ m with
  | no => rw [hr] at p'; exact p'.elim
  | ex ee m1 =>
    rw [hr] at p'
    refine .inl ⟨G, ι, ρ, m, g, ev, ?_⟩
    rw [postE_G, hr]
    exact p'
  | ok x m1 =>
    rw [hr, Res.bind_ok] at p'
    cases hx : vw m1 x with
    | none => rw [hx] at p'; exact p'.elim
    | some d =>
      rw [hx] at p'
      cases d with
      | lst xs =>
        refine .inl ⟨G, ι, ρ, m, g, ev, ?_⟩
        rw [postE_G, hr]
        intro v G' ι' H' e' g' r'
        obtain ⟨a, vs, rfl, h, q⟩ := r'.view g' hx
        refine ⟨a, vs, rfl, h, fun pp hp => ?_⟩
        exact g'.layL hp q.rev fun w G2 H2 e2 g2 r2 => p' w G2 ι' H2 (e'.trans e2) g2 r2
      | tup xs =>
        refine .inr ⟨G, ι, ρ, m, g, ev, ?_⟩
        rw [postE_G, hr]
        intro v G' ι' H' e' g' r'
        obtain ⟨a, vs, rfl, h, q⟩ := r'.view g' hx
        refine ⟨a, vs, rfl, g'.sub.sqt h, fun pp hp => ?_⟩
        exact g'.layT hp q.rev fun w G2 H2 e2 g2 r2 => p' w G2 ι' H2 (e'.trans e2) g2 r2
      | _ => exact p'.elim
end
end DI
namespace DI
open PySem PySem.Spec PyProof.Rows L2
section
variable {X : Cx} {W : XK} {a b : Expr} {fa fb : SE} {pos p : Pos} {G H : Hp} {ι : Io} {ρ : Env} {m : Mem} {σ : L2.St}
theorem ite_some' {α : Type} {c : Prop} [Decidable c] {a : Option α} {d : α} (h : (if c then a else none) = some d) : c ∧ a = some d := by
  by_cases z : c
  · rw [if_pos z] at h; exact ⟨z, h⟩
  · rw [if_neg z] at h; cases h
theorem firstIx_of {K : Kx} {G : Hp} {u : V} {y : DI.D} (q : Rep K G u y) (fy : flatD y = true) : ∀ {vs : List V} {xs : List DI.D} {j : Nat}, RepAll K G vs xs → xs.all flatD = true → firstIx y xs = some j →
    ∃ z, vs[j]? = some z ∧ L2.eqV z u = true ∧ ∀ (i : Nat) (z' : V), i < j → vs[i]? = some z' → L2.eqV z' u = false
  | _, _, _, .nil, _, h => by cases h
  | _, _, j, .cons (v := v) (vs := vs) (d := d) (ds := ds) r t, f, h => by
    rw [List.all_cons, Bool.and_eq_true] at f
    have e := r.eqV q f.1 fy
    have h' : (if D.eqv d y then some 0 else (firstIx y ds).map (· + 1)) = some j := h
    by_cases z : D.eqv d y = true
    · rw [if_pos z] at h'
      cases h'
      exact ⟨v, rfl, by rw [e]; exact z, fun i z' hi => absurd hi (Nat.not_lt_zero i)⟩
    · rw [if_neg z] at h'
      cases hr : firstIx y ds with
      | none => rw [hr] at h'; cases h'
      | some k =>
        rw [hr] at h'
        cases h'
        obtain ⟨w, h1, h2, h3⟩ := firstIx_of q fy t f.2 hr
        refine ⟨w, h1, h2, fun i z' hi hz => ?_⟩
        cases i with
        | zero =>
          cases hz
          rw [e]
          exact Bool.eq_false_iff.mpr z
        | succ i => exact h3 i z' (Nat.lt_of_succ_lt_succ hi) hz
theorem se_index {apos : Pos} (ha : SEx X W a fa) (hb : SEx X W b fb) (hbase : attributeBase a "index" X.env (eval a X.env) = eval a X.env := by rfl)
    (hfew : ((backTo pos (starEach (b :: []) X.env)).all (fun x => !x.1) && (backToKw pos (keywordEach [] X.env)).all (fun x => x.1.isSome)
      && decide ((b :: []).length + ([] : List Keyword).length + (if ([] : List Keyword).isEmpty then 0 else 1) < 30)) = true := by rfl)
    (hline : (apos.endLine == pos.line) = true := by rfl) (hs : starEach (b :: []) X.env = (false, eval b X.env) :: starEach [] X.env := by rfl) :
    SEx X W (.Call (.Attribute a "index" apos) [b] [] pos) (eMeth dIndex fa fb) := by
  refine ⟨pe_weak (pe_bm PySem.F.plainAttrs_list PySem.F.slot_list_index PySem.F.type_list_index (show MtR X "list.index" (rIndex X.K) from mt_index) ha.pe (pa_cons hb.pe pa_nil hs) hbase hfew hline hs (by rfl)) fun σ H Q ⟨G, ι, ρ, m, g, ev, p⟩ => ?_⟩
  rw [postE_G] at p
  refine tE_mono (step_e g ev p) fun v H1 ⟨G1, ι1, m1, x, x1, g1, ev1, r1, hx, p1⟩ => ?_
  cases hv : vw m1 x with
  | none => rw [hv] at p1; exact p1.elim
  | some d =>
    rw [hv] at p1
    cases d with
    | lst xs0 =>
      obtain ⟨q, vs, rfl, h, r⟩ := r1.view g1 hv
      refine ⟨.inl ⟨rfl, vs, h⟩, ?_⟩
      show tCons (tE X W fb) tNil σ H1 _
      refine tE_mono (step_e g1 ev1 p1) fun u H2 ⟨G2, ι2, m2, y, x2, g2, ev2, r2, _, p2⟩ => ?_
      show rIndex X.K (.ref q) [u] H2 Q
      rw [← postE_G] at p2
      obtain ⟨d, e, fin⟩ := post_ofO (H := H2) p2
      cases hx2 : vw m2 x with
      | none => rw [hx2] at e; cases e
      | some dx =>
        cases hy : vw m2 y with
        | none => rw [hx2, hy] at e; cases e
        | some dy =>
          rw [hx2, hy] at e
          have e' : dIndex dx dy = some d := e
          cases dx with
          | lst xs =>
            obtain ⟨q2, vs2, eq2, h2, r3⟩ := (r1.ext x2).view g2 hx2
            cases eq2
            obtain ⟨hf, e3⟩ := ite_some' e'
            rw [Bool.and_eq_true] at hf
            cases hfi : firstIx dy xs with
            | none => rw [hfi] at e3; cases e3
            | some j =>
              rw [hfi] at e3
              cases e3
              have rq := (r2.view g2 hy).sc hf.1
              obtain ⟨z, z1, z2, z3⟩ := firstIx_of rq hf.1 r3 hf.2 hfi
              exact ⟨q, vs2, u, j, z, rfl, rfl, h2, rq.flat hf.1, r3.flat hf.2, z1, z2, z3, fin.here g2 (.int _)⟩
          | _ => cases e'
    | _ => exact p1.elim
/-- a + b as a new list -/
theorem ne_cat (ha : SEx X W a fa) (hb : SEx X W b fb) : NEx X W (.BinOp a .Add b pos) (nCat fa fb) := by
  refine ⟨pe_weak (pe_op op_catQ ha.pe hb.pe) fun σ H Q ⟨G, ι, ρ, m, g, ev, p⟩ => ?_⟩
  have p' := tNE_G (f := nCat fa fb) (g0 := g) ev p
  have p2 : PostG X (fun G _ (v : Addr × List V) xs => RepAll X.kx G v.2 xs) W G ι H ((fa ρ m).bind fun x m => (fb ρ m).bind fun y m => match vw m x, vw m y with
    | some (.lst xs), some (.lst ys) => if xs.length + ys.length ≤ lineL then .ok (xs ++ ys) m else .no
    | _, _ => .no) (fun v H' => H' v.1 = none → Q (.ref v.1) (upd H' v.1 (.lst v.2))) := p'
  refine tE_mono (step_e g ev p2) fun v H1 ⟨G1, ι1, m1, x, x1, g1, ev1, r1, _, p3⟩ => ?_
  refine tE_mono (step_e g1 ev1 p3) fun u H2 ⟨G2, ι2, m2, y, x2, g2, ev2, r2, _, p4⟩ => ?_
  have p5 : PostG X (fun G _ (v : Addr × List V) xs => RepAll X.kx G v.2 xs) W G2 ι2 H2 (match vw m2 x, vw m2 y with
    | some (.lst xs), some (.lst ys) => if xs.length + ys.length ≤ lineL then .ok (xs ++ ys) m2 else .no
    | _, _ => .no) (fun v H' => H' v.1 = none → Q (.ref v.1) (upd H' v.1 (.lst v.2))) := p4
  cases hx : vw m2 x with
  | none => rw [hx] at p5; exact p5.elim
  | some dx =>
    cases hy : vw m2 y with
    | none => rw [hx, hy] at p5; cases dx <;> exact p5.elim
    | some dy =>
      rw [hx, hy] at p5
      cases dx with
      | lst xs =>
        cases dy with
        | lst ys =>
          obtain ⟨q, vs, rfl, h, r⟩ := (r1.ext x2).view g2 hx
          obtain ⟨q', vs', rfl, h', r'⟩ := r2.view g2 hy
          have p6 : PostG X (fun G _ (v : Addr × List V) xs => RepAll X.kx G v.2 xs) W G2 ι2 H2 (if xs.length + ys.length ≤ lineL then .ok (xs ++ ys) m2 else .no) (fun v H' => H' v.1 = none → Q (.ref v.1) (upd H' v.1 (.lst v.2))) := p5
          by_cases hl : xs.length + ys.length ≤ lineL
          · rw [if_pos hl] at p6
            exact ⟨q, q', vs, vs', rfl, rfl, h, h', by rw [r.length, r'.length, ← lineL_eq]; exact hl, fun pp hp => p6 (pp, vs ++ vs') G2 ι2 H2 (Ext.refl ..) g2 (r.append r') hp⟩
          · rw [if_neg hl] at p6
            exact p6.elim
        | _ => exact p5.elim
      | _ => exact p5.elim
end
end DI
/-! dict of a tuple of pairs: turned from HandS's rule for a list of pairs -/
namespace DI
open PySem PySem.Spec PyProof.Rows L2
theorem tuple_keys_none : typeLookup (.type "tuple") "keys" = pure none := am_miss_of_fast (by first | decide +kernel | rfl)
theorem _root_.PyProof.Rows.IsTupIter.at' {h h' : Heap} {a t : Addr} {i : Nat} (x : IsTupIter h a t i) (e : ∀ o, h.get? a = some o → h'.get? a = some o) : IsTupIter h' a t i := let ⟨o, ho, r⟩ := x; ⟨o, e o ho, r⟩
section
variable {prog : Program} {w : World} {A : Around} {E : Value → Shared → Prop}
/-- the walk over the pairs -/
theorem upd_loopT {R : Result → Shared → Prop} {S I l : Addr} {items : Array Value} {res : Value} (hh : A.handled = none) (hlI : l ≠ I) (hSI : S ≠ I) (hSl : S ≠ l) :
    ∀ (rest : List (Key × Value)) (i : Nat) (acc : List (Key × Value)) (ix : Int) (t : Tok) (s : Shared), items.size = i + rest.length → acc.length + rest.length ≤ sizeLine →
      (∀ (j : Nat) (q : Key × Value), rest[j]? = some q → ∃ (b : Addr) (u : Value), items[i + j]? = some (.ref b) ∧ b ≠ S ∧ b ≠ I ∧ IsTup s.heap b #[u, q.2] ∧ keyIs q.1 u = true) →
      IsTupIter s.heap I l i → IsTup s.heap l items → s.heap.DictOf (mixKind prog w) S acc →
      (∀ h' tk, h'.DictOf (mixKind prog w) S (merged acc rest) → (∀ b o, b ≠ S → b ≠ I → s.heap.get? b = some o → h'.get? b = some o) → R (.ok (.ret res)) { s with heap := h', toks := tk }) →
      codeAny (model prog w) A (.builtin "dict.update.loop" ⟨[.ref S, .ref I, .int ix t, res], []⟩) R s
  | [], i, acc, ix, t, s, hsz, hln, ht, hit, hl, hm, hR => by
    refine codeAny_builtin ud_entry ?_
    rw [Around.under_plainId ud_plain _]
    show wpAny _ A.in1 (pyNext (.ref I) >>= _) _ _ s
    refine wpAny_bind (wpAny_pyNext_tuple_end (A := A.in1) hh hit hl (by first | exact Array.getElem?_eq_none (Nat.le_of_eq hsz) | (simp at hsz; simp; omega)) fun h' he => ?_)
    show wpAny _ A.in1 (Builtin.Dict.addKeywords S [] >>= _) _ _ _
    refine wpAny_bind (wpAny_pure (wpAny_pure ?_))
    exact hR h' s.toks (hm.extBut he hSI) fun b o _ hb e => he b o hb e
  | q :: rest, i, acc, ix, t, s, hsz, hln, ht, hit, hl, hm, hR => by
    obtain ⟨b, u, hb, hbS, hbI, htup, hk⟩ := ht 0 q rfl
    rw [List.length_cons] at hsz hln
    refine codeAny_builtin ud_entry ?_
    rw [Around.under_plainId ud_plain _]
    show wpAny _ A.in1 (pyNext (.ref I) >>= _) _ _ s
    refine wpAny_bind (wpAny_pyNext_tuple_item (x := .ref b) hit hl (by simpa using hb) fun h1 hit1 hs1 => ?_)
    have ht1 : IsTup h1 b #[u, q.2] := htup.extBut hs1.extBut hbI
    have hl1 : IsTup h1 l items := hl.extBut hs1.extBut hlI
    have hm1 : h1.DictOf (mixKind prog w) S acc := hm.extBut hs1.extBut hSI
    obtain ⟨o, ho, hc, n, hd⟩ := id ht1
    show wpAny _ A.in1 (holding [Value.ref b] _ >>= _) _ _ _
    refine wpAny_bind (wpAny_holding ?_)
    refine wpAny_bind (wpAny_tryCatch ?_)
    unfold Builtin.Dict.pairItems
    refine wpAny_bind (wpAny_typeOf (T := "tuple") ⟨o, ho, hc⟩ ?_)
    rw [if_pos (by first | decide | rfl | simp)]
    refine wpAny_bind (wpAny_seqItems ho hd (wpAny_pure ?_))
    show wpAny _ A.in1 (holding [u, q.2] (dictSet S u q.2)) _ _ _
    refine wpAny_holding (wpAny_dictSet_pairs (knd := mixKind prog w) (k := q.1) hk hm1 (fun h2 hm2 hs2 => ?_) (by omega))
    refine wpAny_pure ⟨plainId_quiet ud_plain _, upd_loopT (items := items) hh hlI hSI hSl rest (i + 1) (stored acc q.1 q.2) (ix + 1) 0 _ (show items.size = i + 1 + rest.length by omega) ?_ (fun j q' e => ?_) ?_ ?_ hm2 fun h' tk hd' k => ?_⟩
    · have z := stored_length_le acc q.1 q.2
      omega
    · obtain ⟨b', u', hb', hbS', hbI', htup', hk'⟩ := ht (j + 1) q' (by simpa using e)
      refine ⟨b', u', ?_, hbS', hbI', (htup'.extBut hs1.extBut hbI').extBut hs2.extBut hbS', hk'⟩
      rw [show i + 1 + j = i + (j + 1) by omega]
      exact hb'
    · exact (show IsTupIter h1 I l (i + 1) from hit1).at' fun o' e => hs2.extBut I o' (Ne.symm hSI) e
    · exact hl1.extBut hs2.extBut (Ne.symm hSl)
    · exact hR h' tk hd' fun c oc h3 h4 e => k c oc h3 h4 (hs2.extBut c oc h3 (hs1.extBut c oc h4 e))

/-- dict(l) of a list of pairs -/
theorem call_dict_pairsT {s : Shared} {l : Addr} {ol : Obj} {items : Array Value} {n : Nat} {prs : List (Key × Value)} {Q : Value → Shared → Prop} (hh : A.handled = none) (hl : s.heap.get? l = some ol) (hc : ol.cls = .type "tuple") (hd : ol.dict = none)
    (hdat : ol.data = .seq items n) (hsz : items.size = prs.length) (hln : prs.length ≤ sizeLine)
    (ht : ∀ (j : Nat) (q : Key × Value), prs[j]? = some q → ∃ (b : Addr) (u : Value), items[j]? = some (.ref b) ∧ IsTup s.heap b #[u, q.2] ∧ keyIs q.1 u = true)
    (h : ∀ h' tk, h'.DictOf (mixKind prog w) s.heap.objs.size (merged [] prs) → (∀ b o, s.heap.get? b = some o → h'.get? b = some o) → Q (.ref s.heap.objs.size) { s with heap := h', toks := tk }) :
    wpAny (model prog w) A (call (.type "dict") [.ref l]) Q E s := by
  refine callType_codes (Q₁ := fun obj s₁ => obj = .ref s.heap.objs.size ∧ s₁ = { s with heap := s.heap.push { cls := .type "dict", data := .dict #[] } }) PySem.F.kt_called_dict (PySem.F.kt_typeCall_dict_1 _) PySem.F.entry_dict_init (kt_code_dict_new _ ⟨rfl, rfl⟩) ?_
  rintro obj s₁ ⟨rfl, rfl⟩
  have hnew : (s.heap.push { cls := .type "dict", data := .dict #[] }).DictOf (mixKind prog w) s.heap.objs.size [] := Heap.DictOf.new s.heap
  have k0 : ∀ b o, s.heap.get? b = some o → (s.heap.push { cls := .type "dict", data := .dict #[] }).get? b = some o := fun b o e => Heap.get?_push_of_some _ e
  refine ⟨hnew.typeIs, PySem.F.args_dict_init_2 _ _, ?_⟩
  unfold Builtin.«dict.__init__»
  refine wpAny_bind ?_
  unfold Builtin.Dict.selfAndRest
  refine wpAny_bind (wpAny_notOrdered_dict hnew.typeIs ?_)
  show wpAny _ _ (pure (s.heap.objs.size, [Value.ref l])) _ _ _
  refine wpAny_pure ?_
  show wpAny _ _ (Builtin.Dict.updateFrom "dict.__init__" s.heap.objs.size (.ref l) [] .none) _ _ _
  unfold Builtin.Dict.updateFrom
  refine wpAny_bind (wpAny_typeOf (T := "tuple") ⟨ol, k0 _ _ hl, hc⟩ ?_)
  rw [if_pos (by first | decide | rfl | simp)]
  refine wpAny_bind (getAttrOr_miss_tuple (k0 _ _ hl) hc hdat hd tuple_keys_none (by decide +kernel) hh fun h1 tk1 hk1 => ?_)
  rw [if_pos (show (none : Option Value).isNone = true from rfl)]
  refine wpAny_bind (wpAny_rule ?_)
  have hl1 : IsTup h1 l items := ⟨ol, hk1 _ _ (k0 _ _ hl), hc, n, hdat⟩
  have hS1 : s.heap.objs.size < h1.objs.size := by
    have e : (s.heap.push { cls := .type "dict", data := .dict #[] }).get? s.heap.objs.size = some { cls := .type "dict", data := .dict #[] } := Heap.get?_push_size _ rfl
    exact Heap.lt_size (hk1 _ _ e)
  refine wpAny_bind (wpAny_pyIter_tuple hl1 ?_)
  have k2 : ∀ b o, h1.get? b = some o → (h1.push { cls := .type "tuple_iterator", data := .fields #[.ref l, .int 0 0] }).get? b = some o := fun b o e => Heap.get?_push_of_some _ e
  have hlt : l < s.heap.objs.size := Heap.lt_size hl
  have key := upd_loopT (prog := prog) (w := w) (A := A.in1) (R := wants (fun r s₂ => r = .none ∧ Q (.ref s.heap.objs.size) s₂) E) (S := s.heap.objs.size) (I := h1.objs.size) (l := l) (items := items) (res := Value.none) hh
    (Nat.ne_of_lt (Nat.lt_trans hlt hS1)) (Nat.ne_of_lt hS1) (Nat.ne_of_gt hlt) prs 0 [] 0 0
    { s with heap := h1.push { cls := .type "tuple_iterator", data := .fields #[.ref l, .int 0 0] }, toks := tk1 } (by rw [hsz, Nat.zero_add]) (by rw [List.length_nil, Nat.zero_add]; exact hln)
    (fun j q e => by
      obtain ⟨b, u, e1, e2, e3⟩ := ht j q e
      have hb : b < s.heap.objs.size := e2.lt
      exact ⟨b, u, by rw [Nat.zero_add]; exact e1, Nat.ne_of_lt hb, Nat.ne_of_lt (Nat.lt_trans hb hS1), e2.keeps fun c o z => k2 _ _ (hk1 _ _ (k0 _ _ z)), e3⟩)
    ⟨_, Heap.get?_push_size _ rfl, rfl, rfl⟩ (hl1.keeps fun b o e => k2 _ _ e) ((hnew.at fun o e => hk1 _ _ e).at fun o e => k2 _ _ e)
    (fun h' tk hd' k => ⟨rfl, h h' tk hd' fun b o e => k b o (Nat.ne_of_lt (Heap.lt_size e)) (Nat.ne_of_lt (Nat.lt_trans (Heap.lt_size e) hS1)) (k2 _ _ (hk1 _ _ (k0 _ _ e)))⟩)
  first
    | exact wpAny_pure ⟨plainId_quiet ud_plain _, key⟩
    | exact wpAny_bind (wpAny_pure (wpAny_pure ⟨plainId_quiet ud_plain _, key⟩))
end


section
variable {X : Cx}
/-- a tuple whose object is known: no dict of its own -/
def TupN (K : PySem.W.Frag) (H : Hp) (a : Addr) (xs : List V) : Prop := (∃ o, H a = some (.frz o (.tup xs)) ∧ o.dict = none) ∨ (∃ its n sl, K.lookup a = some ⟨.type "tuple", none, .seq its n, sl⟩ ∧ its.size ≤ sizeLine ∧ Vals xs its.toList)
/-- dict(xs) of a tuple of pairs (key, value) -/
theorem call_dictT (hcalm : X.calm = true) : CallR X (.type "dict") (fun xs H Q => ∃ (a : Addr) (ps : List Addr) (kvs : List (Key × V)), xs = [.ref a] ∧ TupN X.K H a (ps.map V.ref) ∧ Paired (fun p kv => SqT X.K H p [kV kv.1, kv.2]) ps kvs ∧
    ∀ p, H p = none → Q (.ref p) (upd H p (.dK (mergeK [] kvs)))) := by
  intro pins s σ H xs us Q I r q
  obtain ⟨a, ps, kvs, ex, hq, hp, q⟩ := q
  subst ex
  obtain ⟨u, eu, rx⟩ := vals1 r
  subst eu
  cases rx
  have key : ∃ (o : Obj) (n : Nat) (its : Array Value), Vals (ps.map V.ref) its.toList ∧ its.size ≤ sizeLine ∧ s.heap.get? a = some o ∧ o.cls = .type "tuple" ∧ o.dict = none ∧ o.data = .seq its n := by
    rcases hq with ⟨o, h1, h2⟩ | ⟨its, n, sl, h1, h2, h3⟩
    · obtain ⟨e, z, its, rv, o', e', hc, n, hd⟩ := (show ObjOk X.prog X.w H s.heap a (.frz o (.tup (ps.map V.ref))) from I.hok a _ h1)
      rw [e] at e'
      cases e'
      exact ⟨o, n, its.toArray, by simpa using rv, by rw [List.size_toArray, ← rv.length]; exact z, e, hc, h2, hd⟩
    · exact ⟨_, n, its, h3, h2, I.kIn _ _ h1, rfl, rfl, rfl⟩
  obtain ⟨o, n, its, rv, hz, ho, hc, hd, hdat⟩ := key
  have ei := refs_at rv
  obtain ⟨prs, rel, hl, hpr⟩ := pairs_of I hp
  have hsz : its.size = prs.length := by
    have := congrArg List.length ei
    simp at this
    omega
  refine call_dict_pairsT (prs := prs) (I.ok.hd hcalm) ho hc hd hdat hsz (by omega) (fun j q' e => ?_) fun h' tk hd' k => ?_
  · obtain ⟨b, u, e1, e2, e3⟩ := hpr j q' e
    refine ⟨b, u, ?_, e2, e3⟩
    rw [← Array.getElem?_toList, ei]
    simp [e1]
  · have hm : (s.heap.objs.size == sysModules) = false := beq_eq_false_iff_ne.mpr (Nat.ne_of_gt I.big)
    have hlen : (mergeK [] kvs).length ≤ sizeLine := by
      refine Nat.le_trans (length_mergeK kvs []) ?_
      rw [List.length_nil, Nat.zero_add, rel.length, ← hsz]
      exact hz
    exact ⟨.ref s.heap.objs.size, upd H s.heap.objs.size (.dK (mergeK [] kvs)), I.laid (t' := tk) k (Nat.le_refl _) (show ObjOk X.prog X.w _ _ _ (.dK (mergeK [] kvs)) from ⟨hlen, hm, merged [] prs, KV.merge rel .nil, hd'⟩), rfl, q _ (I.hok.fresh (Nat.le_refl _))⟩
end
end DI
namespace DI
/-! ### exceptions: asked about, tried for -/
/-- isinstance of the handled exception, that stands at the slot 0 -/
def eIsE (a0 : Nat) (b : Bool) : SE := fun ρ m => match ρ[0]? with
  | some (some (PV.raw a)) => if a = a0 then .ok (.d (.bl b)) m else .no
  | _ => .no
def k_told : List Char := ['t', 'o', 'l', 'd']
/-- the law tries a call: what is told, or the name of what is raised -/
def eTry (T : Nat) (q : String) (nm : String → Option (List Char)) (b : SE) : SE := fun ρ m => match m[0]? with
  | some (MO.tab T' q') => if T' = T ∧ q' = q then (match b ρ m with
    | .ok (.d v) m1 => .ok (.d (.tup [.str k_told, v])) m1
    | .ok _ _ => .no
    | .ex e m1 => (match e.pay, nm e.cls with
      | none, some s => .ok (.d (.str s)) m1
      | _, _ => .no)
    | .no => .no) else .no
  | _ => .no
/-- zip of two lists of data -/
def iZipLL (a b : SE) : IE := fun ρ m => (a ρ m).bind fun x m => (b ρ m).bind fun y m => match x, y with
  | .d (.lst xs), .d (.lst ys) => .ok ((xs.zip ys).map fun p => .tup [p.1, p.2]) m
  | _, _ => .no
end DI
namespace DI
/-- s.lstrip(t), s.rstrip(t) -/
def dLstrip : D → D → Option D
  | .str s, .str t => if s.length ≤ lineL then some (.str (s.dropWhile fun c => t.contains c)) else none
  | _, _ => none
def dRstrip : D → D → Option D
  | .str s, .str t => if s.length ≤ lineL then some (.str (s.reverse.dropWhile fun c => t.contains c).reverse) else none
  | _, _ => none
end DI
namespace DI
/-! ### dicts, instances, tuples whose object is known -/
/-- where the written empty tuples lie that are defaults -/
class Nil0 where
  adr : String → Nat
  is : Nat → Bool
  ok : ∀ s, is (adr s) = true
/-- what is a tuple whose object is known, as data -/
def eTD [Nil0] (a : SE) : SE := fun ρ m => (a ρ m).bind fun x m => match x with
  | .d x => .ok (.d x) m
  | .raw b => if Nil0.is b = true then .ok (.d (.tup [])) m else .no
  | .obj i => match m[i]? with
    | some (MO.tp xs) => .ok (.d (.tup xs)) m
    | _ => .no
/-- (a, b, ..), tuple(list), made as such an object -/
def eTupO (es : List SE) : SE := fun ρ m => (eArgs es ρ m).bind fun xs m => match datas m xs with
  | some ds => .ok (.obj m.length) (m ++ [MO.tp ds])
  | none => .no
def eTupOf (a : SE) : SE := fun ρ m => (a ρ m).bind fun x m => match vw m x with
  | some (.lst xs) => .ok (.obj m.length) (m ++ [MO.tp xs])
  | _ => .no
def keyEq : D → D → Bool
  | .int i, .int j => i == j
  | .str s, .str t => s == t
  | _, _ => false
def D.isKey : D → Bool | .int _ => true | .str _ => true | _ => false
def dctGet : List D → List D → D → Option D
  | k :: ks, v :: vs, q => if keyEq k q = true then some v else dctGet ks vs q
  | _, _, _ => none
/-- d.get(k, x) -/
def eGet (a k x : SE) : SE := fun ρ m => (a ρ m).bind fun o m => match o with
  | .d (.dct ks vs) => (k ρ m).bind fun q m => (x ρ m).bind fun z m => (match q, z with
    | .d q, .d z => if q.isKey = true then .ok (.d ((dctGet ks vs q).getD z)) m else .no
    | _, _ => .no)
  | _ => .no
def insGet : List String → List D → String → Option D
  | n :: ns, d :: ds, f => if n = f then some d else insGet ns ds f
  | _, _, _ => none
/-- o.f, o an instance of the class c -/
def eAttr (c f : String) (a : SE) : SE := fun ρ m => (a ρ m).bind fun o m => match o with
  | .d (.ins c' ns ds) => if c' = c then (match insGet ns ds f with
    | some d => .ok (.d d) m
    | none => .no) else .no
  | _ => .no
/-- o.m(..) -/
def eMethD (c n : String) (F : Fn) (a : SE) (es : List SE) : SE := fun ρ m => (a ρ m).bind fun o m => match o with
  | .d (.ins c' ns ds) => if c' = c ∧ n ∉ ns then (eArgs es ρ m).bind fun xs m => F (.d (.ins c' ns ds) :: xs) m else .no
  | _ => .no
/-- pairs of ints -/
def pairsI : List D → Option (List (Int × Int))
  | [] => some []
  | .tup [.int a, .int b] :: r => (pairsI r).map ((a, b) :: ·)
  | _ :: _ => none
def tupOf [Nil0] (m : Mem) : PV → Option (List D)
  | .obj i => match m[i]? with
    | some (MO.tp xs) => some xs
    | _ => none
  | .raw b => if Nil0.is b = true then some [] else none
  | .d _ => none
/-- Steps(one, other, facts) -/
def eSteps [Nil0] (es : List SE) : SE := fun ρ m => (eArgs es ρ m).bind fun xs m => match xs with
  | [.d x, .d y, z] => (match (tupOf m z).bind pairsI with
    | some ps => if (ps.map (·.1)).Nodup then .ok (.d (.ins "Steps" ["one", "other", "told"] [x, y, .dct (ps.map fun p => .int p.1) (ps.map fun p => .int p.2)])) m else .no
    | none => .no)
  | _ => .no
/-- the default of f's keyword facts -/
def eDf [Nil0] (f : String) : SE := fun _ m => .ok (.raw (Nil0.adr f)) m
/-- [..] * n -/
def nMul (a : NE) (b : SE) : NE := fun ρ m => (a ρ m).bind fun xs m => (b ρ m).bind fun y m => match y with
  | .d (.int k) => if -1000000 ≤ k ∧ k ≤ 1000000 ∧ xs.length * k.toNat ≤ lineL then .ok (List.replicate k.toNat xs).flatten m else .no
  | _ => .no
/-- [..] if c else [..] -/
def nIf (c : SE) (a b : NE) : NE := fun ρ m => (c ρ m).bind fun x m => match x with
  | .d (.bl true) => a ρ m
  | .d (.bl false) => b ρ m
  | _ => .no
def intOf0 : PV → Option Int
  | .d (.int k) => some k
  | _ => none
/-- range(a, b, -1) -/
def rngDn (lo hi : Int) : List D := (List.range (lo - hi).toNat).map fun (k : Nat) => D.int (lo - (k : Int))
def iRngDn (a b c : SE) : IE := fun ρ m => (a ρ m).bind fun x m => (b ρ m).bind fun y m => (c ρ m).bind fun z m => match intOf0 x, intOf0 y, intOf0 z with
  | some i, some j, some k => if k = -1 ∧ fits62 i = true ∧ fits62 j = true then .ok (rngDn i j) m else .no
  | _, _, _ => .no
/-! the meanings -/
def lcR (tgt : Tg) (fe : NE) : List D → Env → Mem → List (List D) → Res (List (List D))
  | [], _, m, acc => .ok acc m
  | x :: xs, ρ, m, acc => match tgt (.d x) ρ with
    | none => .no
    | some ρ1 => match fe ρ1 m with
      | .ok ys m2 => lcR tgt fe xs ρ m2 (acc ++ [ys])
      | _ => .no
/-- name = [[..] for ..]: a table -/
def sTab (i : Nat) (own : List Nat) (fi : IE) (tgt : Tg) (fe : NE) : SS := fun ρ m => (fi ρ m).run fun xs m => if xs.length ≤ lineL then (match lcR tgt fe xs (wipeE ρ own) m [] with
  | .ok rows m => .nx (ρ.set i (some (.obj m.length))) (m ++ [.l2 rows])
  | _ => .no) else .no
def rowAt (m : Mem) : PV → PV → Option (Nat × Nat × List (List D))
  | .obj i, .d (.int k) => match m[i]? with
    | some (.l2 rows) => if 0 ≤ k ∧ k < rows.length then some (i, k.toNat, rows) else none
    | _ => none
  | _, _ => none
def intOf : PV → Option Int
  | .d (.int k) => some k
  | _ => none
def datOf : PV → Option D
  | .d x => some x
  | _ => none
/-- a[k][l] of a table -/
def eIx2 (fa f1 f2 : SE) : SE := fun ρ m => (fa ρ m).bind fun x m => (f1 ρ m).bind fun k m => match rowAt m x k with
  | none => .no
  | some _ => (f2 ρ m).bind fun l m => match rowAt m x k, intOf l with
    | some (_, k, rows), some l => match (rows[k]?).bind fun row => if 0 ≤ l then row[l.toNat]? else none with
      | some d => .ok (.d d) m
      | none => .no
    | _, _ => .no
/-- a[k][l] = e -/
def sSet2 (fa f1 f2 fe : SE) : SS := fun ρ m => (fe ρ m).run fun y m => (fa ρ m).run fun x m => (f1 ρ m).run fun k m => match rowAt m x k with
  | none => .no
  | some _ => (f2 ρ m).run fun l m => match rowAt m x k, intOf l, datOf y with
    | some (i, k, rows), some l, some d => match rows[k]? with
      | some row => if 0 ≤ l ∧ l < row.length then .nx ρ (m.set i (.l2 (rows.set k (row.set l.toNat d)))) else .no
      | none => .no
    | _, _, _ => .no
/-- a table that is changed no more -/
def sFz2 (s : Nat) (k : SS) : SS := fun ρ m => match ρ[s]? with
  | some (some (.obj i)) => (match m[i]? with
    | some (.l2 rows) => k (ρ.set s (some (.d (.lst (rows.map .lst))))) (m.set i .dead)
    | _ => .no)
  | _ => .no
/-- max of a tuple -/
def dMaxT : D → Option D
  | .tup xs => (intsD xs).bind fun ns => (maxI ns).map .int
  | _ => none
end DI
namespace DI
open PySem PySem.Spec PyProof.Rows L2
theorem ofS (s : String) : Str.ofString s = txt s.toList := PySem.Str.ofString_eq_toList s
theorem eArgs_len : ∀ (l : List SE) (ρ : Env) (m m' : Mem) (xs : List PV), eArgs l ρ m = .ok xs m' → xs.length = l.length := by
  intro l
  induction l with
  | nil => intro ρ m m' xs h; cases h; rfl
  | cons q r ih =>
    intro ρ m m' xs h
    unfold eArgs at h
    cases hq : q ρ m with
    | no => rw [hq] at h; cases h
    | ex _ _ => rw [hq] at h; cases h
    | ok x1 m1 =>
      rw [hq, Res.bind_ok] at h
      cases hr : eArgs r ρ m1 with
      | no => rw [hr] at h; cases h
      | ex _ _ => rw [hr] at h; cases h
      | ok x2 m2 =>
        rw [hr, Res.bind_ok] at h
        cases h
        simp [ih ρ m1 _ _ hr]
theorem ofS_inj {s t : String} (h : Str.ofString s = Str.ofString t) : s = t := by
  rw [ofS, ofS] at h
  exact String.toList_inj.mp (txt_inj h)
/-- the written empty tuple -/
def NilK (K : PySem.W.Frag) (A0 : Addr) : Prop := ∃ n sl, K.lookup A0 = some ⟨.type "tuple", none, .seq #[] n, sl⟩
def NilA [Nil0] (K : PySem.W.Frag) : Prop := ∀ b : Addr, Nil0.is b = true → NilK K b
theorem NilK.sqt {K : PySem.W.Frag} {A0 : Addr} (h : NilK K A0) (G : Hp) : SqT K G A0 [] := by
  obtain ⟨n, sl, e⟩ := h
  exact .inr ⟨_, #[], n, e, rfl, rfl, Nat.zero_le _, .nil⟩
section
variable {X : Cx} {W : XK} {a b c e k : Expr} {es : List Expr} {fa fb fc f fk : SE} {fs : List SE} {pos apos p : Pos}
theorem se_td [Nil0] (hK : NilA X.K) (h : SEx X W e f) : SEx X W e (eTD f) := by
  refine ⟨pe_weak h.pe fun σ H Q ⟨G, ι, ρ, m, g, ev, q⟩ => ⟨G, ι, ρ, m, g, ev, ?_⟩⟩
  unfold eTD at q
  cases hr : f ρ m with
  | no => rw [hr] at q; exact q
  | ex x m1 => rw [hr] at q; exact q
  | ok x m1 =>
    rw [hr, Res.bind_ok] at q
    intro v G' ι' H' x' g' r
    cases x with
    | d d => exact q v G' ι' H' x' g' r
    | raw b =>
      by_cases hb : Nil0.is b = true
      · have q2 : PostE X W G ι H (if Nil0.is b = true then .ok (.d (.tup [])) m1 else .no) Q := q
        rw [if_pos hb] at q2
        have r : v = .ref b := r
        subst r
        exact q2 _ G' ι' H' x' g' (.tup ((hK b hb).sqt G') .nil)
      · have q2 : PostE X W G ι H (if Nil0.is b = true then .ok (.d (.tup [])) m1 else .no) Q := q
        rw [if_neg hb] at q2
        exact q2.elim
    | obj i =>
      have q2 : PostE X W G ι H (match m1[i]? with
        | some (MO.tp xs) => .ok (.d (.tup xs)) m1
        | _ => .no) Q := q
      cases hm : m1[i]? with
      | none => rw [hm] at q2; exact q2.elim
      | some o =>
        rw [hm] at q2
        cases o with
        | tp xs =>
          obtain ⟨a, l, hl, rfl⟩ := r
          obtain ⟨a', vs, o, el, h1, h2, h3⟩ := g'.obj i _ _ hl hm
          cases el
          exact q2 _ G' ι' H' x' g' (.tup (.inl (.inr ⟨o, h1⟩)) h3)
        | _ => exact q2.elim
/-- a new object of a tuple -/
theorem GR.allocT {K : Kx} {G H : Hp} {ι : Io} {m : Mem} (g : GR K G ι m H) {q : Addr} (hq : H q = none) {vs : List V} {xs : List D} (r : RepAll K G vs xs) {o : Obj} (ho : o.dict = none) :
    GR K (upd G q (.frz o (.tup vs))) (ι ++ [[q]]) (m ++ [MO.tp xs]) (upd H q (.frz o (.tup vs))) ∧ Ext G ι H (upd G q (.frz o (.tup vs))) (ι ++ [[q]]) (upd H q (.frz o (.tup vs))) := by
  obtain ⟨g1, g2⟩ := g.fresh hq
  obtain ⟨gl, xl⟩ := g.lay hq (.frz o (.tup vs))
  refine ⟨⟨gl.sub, by simp [g.len], ?_, fun i l o' hl ho' => ?_⟩, xl.sub, ⟨[[q]], rfl, by simpa using hq⟩, xl.kp, xl.dm, xl.gk⟩
  · rw [List.flatten_append, List.nodup_append]
    refine ⟨g.nd, by simp, fun a ha b hb => ?_⟩
    have : b = q := by simpa using hb
    subst this
    exact fun z => g2 (z ▸ ha)
  · by_cases hi : i < ι.length
    · rw [List.getElem?_append_left hi] at hl
      rw [List.getElem?_append_left (by rw [← g.len]; exact hi)] at ho'
      exact gl.obj i l o' hl ho'
    · have hlen := g.len
      have hi2 : i = ι.length := by
        have := (List.getElem?_eq_some_iff.mp hl).1
        simp at this
        omega
      subst hi2
      rw [List.getElem?_append_right (Nat.le_refl _)] at hl
      rw [List.getElem?_append_right (by omega)] at ho'
      simp at hl
      rw [hlen] at ho'
      simp at ho'
      subst hl ho'
      exact ⟨q, vs, o, rfl, upd_same, ho, RepAll.mono xl.sub r⟩
/-- a tuple laid, its object told -/
def tTupF (t : TA) : TE := fun σ H Q => t σ H fun xs H1 => xs.length ≤ sizeLine ∧ ∀ p o, H1 p = none → o.dict = none → Q (.ref p) (upd H1 p (.frz o (.tup xs)))
theorem pe_tupF {x1} {t : TA} (h : PA X es t) : PE X (.Tuple es x1 pos) (tTupF t) := by
  refine ⟨fun pins s σ H Q I hq => ?_⟩
  refine wpAny_Tuple_spliced (thn (h.run pos pins s σ H _ I hq) fun us s1 ⟨xs, H1, I1, r, z, q⟩ => ⟨by rw [← r.length]; exact z, ?_⟩)
  have hf : H1 s1.heap.objs.size = none := I1.hok.fresh (Nat.le_refl _)
  refine ⟨.ref s1.heap.objs.size, upd H1 s1.heap.objs.size (.frz { cls := .type "tuple", data := .seq us.toArray } (.tup xs)), I1.laid (t' := s1.toks) (fun b u e => Heap.get?_push_of_some _ e) (Nat.le_refl _) ?_, rfl, q _ _ hf rfl⟩
  exact ⟨Heap.get?_push_size _ rfl, z, us, r, ⟨_, Heap.get?_push_size _ rfl, rfl, _, rfl⟩⟩
theorem se_tupO {k : Nat} (ha : SAr X W es fs) (hl : fs.length ≤ 1000 := by decide) : SEx X W (.Tuple es k pos) (eTupO fs) := by
  refine ⟨pe_weak (pe_tupF ha.pa) fun σ H Q ⟨G, ι, ρ, m, g, ev, q⟩ => ⟨G, ι, ρ, m, g, ev, ?_⟩⟩
  unfold eTupO at q
  cases hr : eArgs fs ρ m with
  | no => rw [hr] at q; exact q
  | ex x m1 => rw [hr] at q; exact q
  | ok xs m1 =>
    rw [hr, Res.bind_ok] at q
    intro vs G' ι' H' x' g' r
    have q2 : PostE X W G ι H (match datas m1 xs with
      | some ds => .ok (.obj m1.length) (m1 ++ [MO.tp ds])
      | none => .no) Q := q
    cases hd : datas m1 xs with
    | none => rw [hd] at q2; exact q2.elim
    | some ds =>
      rw [hd] at q2
      have rr := datas_rep (X := X) hd r
      refine ⟨?_, fun p o hp ho => ?_⟩
      · have h1 := Paired.length r
        have h2 := eArgs_len fs ρ m m1 xs hr
        rw [sizeLine_eq]
        omega
      · obtain ⟨g2, x2⟩ := g'.allocT hp rr ho
        refine q2 _ _ _ _ (x'.trans x2) g2 ?_
        exact ⟨p, [], by rw [← g'.len]; simp, rfl⟩
end
end DI
namespace DI
open PySem PySem.Spec PyProof.Rows L2
section
variable {X : Cx} {W : XK} {a b c e k : Expr} {es : List Expr} {fa fb fc f fk : SE} {fs : List SE} {pos apos p : Pos}
theorem call_tupleF : CallR X (.type "tuple") (fun xs H Q => ∃ p ys, xs = [.ref p] ∧ SqL X.K H p ys ∧ ∀ l o, H l = none → o.dict = none → Q (.ref l) (upd H l (.frz o (.tup ys)))) := by
  intro pins s σ H xs us Q I r h
  obtain ⟨p, ys, rfl, hq, q⟩ := h
  obtain ⟨u, rfl, rx⟩ := vals1 r
  cases rx
  obtain ⟨its, r', pl, hz⟩ := I.list hq
  have hlen := r'.length
  refine call_tuple_list pl.isList (fun h' kp => ?_) (by simp only [List.size_toArray] <;> omega)
  have I1 : Inv X pins σ H { s with heap := h' } := I.kept (t' := s.toks) kp
  have I2 : Inv X pins σ (upd H h'.objs.size (.frz { cls := .type "tuple", data := .seq its.toArray } (.tup ys))) { s with heap := h'.push { cls := .type "tuple", data := .seq its.toArray } } :=
    I1.laid (t' := s.toks) (fun b o e => Heap.get?_push_of_some _ e) (Nat.le_refl _) (show ObjOk X.prog X.w _ _ _ (.frz _ (.tup ys)) from ⟨Heap.get?_push_size _ rfl, hz, its, r', IsTup.new _ _⟩)
  exact ⟨.ref h'.objs.size, _, I2, rfl, q _ _ (I1.hok.fresh (Nat.le_refl _)) rfl⟩
/-- tuple(list), the object told -/
theorem se_tupOf (hm : X.mg "tuple" = none) (ha : SEx X W a fa) (hg : Gl X "tuple" := by rfl) (he : starEach (a :: []) X.env = (false, eval a X.env) :: starEach [] X.env := by rfl) : SEx X W (.Call (.Name "tuple" p) [a] [] pos) (eTupOf fa) := by
  refine ⟨pe_weak (pe_callTy call_tupleF hg hm (by decide +kernel) (pa_cons ha.pe pa_nil he) (by decide +kernel) (by decide +kernel) he (by rfl)) fun σ H Q ⟨G, ι, ρ, m, g, ev, q⟩ => ?_⟩
  refine ⟨G, ι, ρ, m, g, ev, ?_⟩
  unfold eTupOf at q
  cases hr : fa ρ m with
  | no => rw [hr] at q; exact q
  | ex x m1 => rw [hr] at q; exact q
  | ok x m1 =>
    rw [hr, Res.bind_ok] at q
    intro v G' ι' H' x' g' r
    have q2 : PostE X W G ι H (match vw m1 x with
      | some (.lst xs) => .ok (.obj m1.length) (m1 ++ [MO.tp xs])
      | _ => .no) Q := q
    cases hv : vw m1 x with
    | none => rw [hv] at q2; exact q2.elim
    | some d =>
      rw [hv] at q2
      cases d with
      | lst xs =>
        obtain ⟨a', vs, rfl, h1, h2⟩ := r.view g' hv
        refine ⟨a', vs, rfl, h1, fun l o hl ho => ?_⟩
        obtain ⟨g2, x2⟩ := g'.allocT hl h2 ho
        refine q2 _ _ _ _ (x'.trans x2) g2 ?_
        exact ⟨l, [], by rw [← g'.len]; simp, rfl⟩
      | _ => exact q2.elim
/-! ### instances -/
structure AttF (K : Kx) (c f : String) : Prop where
  ex : ∃ C, K.mg (Str.ofString c) = some (.ref C) ∧ Cls K.K C ∧ NoAttr K.K C (Str.ofString f)
theorem ins_at {K : Kx} {G : Hp} {f : String} : ∀ {fs : List (Str × V)} {ns : List String} {vs : List V} {ds : List D} {d : D}, fs.map (·.1) = ns.map Str.ofString → fs.map (·.2) = vs → RepAll K G vs ds → insGet ns ds f = some d → ∃ v, fs.lookup (Str.ofString f) = some v ∧ Rep K G v d
  | [], [], _, _, d, _, _, _, h => by simp [insGet] at h
  | [], _ :: _, _, _, d, h, _, _, _ => by simp at h
  | _ :: _, [], _, _, d, h, _, _, _ => by simp at h
  | (y, w) :: fs, n :: ns, vs, ds, d, h1, h2, r, h => by
    simp only [List.map_cons, List.cons.injEq] at h1
    subst h2
    cases r with
    | @cons _ _ d0 ds0 r0 r1 =>
      unfold insGet at h
      rw [List.lookup_cons]
      by_cases hn : n = f
      · rw [if_pos hn] at h
        cases h
        refine ⟨w, ?_, r0⟩
        rw [h1.1, hn]
        simp
      · rw [if_neg hn] at h
        obtain ⟨v, e1, e2⟩ := ins_at (f := f) h1.2 rfl r1 h
        refine ⟨v, ?_, e2⟩
        have : (Str.ofString f == y) = false := beq_eq_false_iff_ne.mpr fun z => hn (ofS_inj (by rw [← h1.1]; exact z.symm))
        rw [this]
        exact e1
theorem ins_no {f : String} : ∀ {fs : List (Str × V)} {ns : List String}, fs.map (·.1) = ns.map Str.ofString → f ∉ ns → fs.lookup (Str.ofString f) = none
  | [], [], _, _ => rfl
  | [], _ :: _, h, _ => by simp at h
  | _ :: _, [], h, _ => by simp at h
  | (y, w) :: fs, n :: ns, h1, h => by
    simp only [List.map_cons, List.cons.injEq] at h1
    rw [List.lookup_cons]
    have : (Str.ofString f == y) = false := beq_eq_false_iff_ne.mpr fun z => h (by rw [ofS_inj (s := f) (t := n) (by rw [← h1.1]; exact z)]; simp)
    rw [this]
    exact ins_no h1.2 fun z => h (by simp [z])
theorem se_attr (c f : String) (F : AttF X.kx c f) (h : SEx X W e fa) {y : Str} (hy : y = Str.ofString f := by rfl) (hb : attributeBase e y X.env (eval e X.env) = eval e X.env := by rfl) : SEx X W (.Attribute e y pos) (eAttr c f fa) := by
  subst hy
  obtain ⟨C, hC, cl, na⟩ := F.ex
  refine ⟨pe_weak (pe_fld h.pe hb) fun σ H Q ⟨G, ι, ρ, m, g, ev, q⟩ => ⟨G, ι, ρ, m, g, ev, ?_⟩⟩
  unfold eAttr at q
  cases hr : fa ρ m with
  | no => rw [hr] at q; exact q
  | ex x m1 => rw [hr] at q; exact q
  | ok x m1 =>
    rw [hr, Res.bind_ok] at q
    intro v G' ι' H' x' g' r
    match x, q, r with
    | .d (.ins c' ns ds), q, r =>
      have q2 : PostE X W G ι H (if c' = c then (match insGet ns ds f with
        | some d => .ok (.d d) m1
        | none => .no) else .no) Q := q
      by_cases hc : c' = c
      · rw [if_pos hc] at q2
        subst hc
        cases hi : insGet ns ds f with
        | none => rw [hi] at q2; exact q2.elim
        | some d =>
          rw [hi] at q2
          cases r with
          | @ins a C' dx fs vs _ _ _ h0 h1 h2 h3 h4 =>
            have hCC : C' = C := Value.ref.inj (Option.some.inj (h0.symm.trans hC))
            subst hCC
            obtain ⟨w, e1, e2⟩ := ins_at h2 h3 h4 hi
            exact ⟨a, C', dx, fs, w, rfl, g'.sub _ _ h1, cl, na, e1, q2 w G' ι' H' x' g' e2⟩
      · rw [if_neg hc] at q2
        exact q2.elim
    | .d .non, q, _ => exact q.elim
    | .d (.bl _), q, _ => exact q.elim
    | .d (.int _), q, _ => exact q.elim
    | .d (.str _), q, _ => exact q.elim
    | .d (.tup _), q, _ => exact q.elim
    | .d (.lst _), q, _ => exact q.elim
    | .d (.dct _ _), q, _ => exact q.elim
    | .obj _, q, _ => exact q.elim
    | .raw _, q, _ => exact q.elim
end
end DI
namespace DI
open PySem PySem.Spec PyProof.Rows L2
theorem key_eq {a b : D} {x y : Key} (h1 : keyOf a = some x) (h2 : keyOf b = some y) : keyEq a b = true ↔ x = y := by
  cases a with
  | int i =>
    cases h1
    cases b with
    | int j => cases h2; simp [keyEq]
    | str t => cases h2; simp [keyEq]
    | _ => cases h2
  | str s =>
    cases h1
    cases b with
    | int j => cases h2; simp [keyEq]
    | str t =>
      cases h2
      simp only [keyEq, beq_iff_eq]
      exact ⟨fun h => by rw [h], fun h => txt_inj (Sum.inr.inj h)⟩
    | _ => cases h2
  | _ => cases h1
theorem dct_at {K : Kx} {G : Hp} {q : D} {key : Key} (hq : keyOf q = some key) : ∀ {kvs : List (Key × V)} {ks : List D} {vs : List V} {ds : List D}, ks.map keyOf = kvs.map (fun p => some p.1) → kvs.map (·.2) = vs → RepAll K G vs ds →
    (∃ v d, valV kvs key = some v ∧ dctGet ks ds q = some d ∧ Rep K G v d) ∨ (valV kvs key = none ∧ dctGet ks ds q = none)
  | [], [], _, _, _, _, _ => .inr ⟨rfl, rfl⟩
  | [], _ :: _, _, _, h, _, _ => by simp at h
  | _ :: _, [], _, _, h, _, _ => by simp at h
  | p :: kvs, k :: ks, vs, ds, h1, h2, r => by
    simp only [List.map_cons, List.cons.injEq] at h1
    subst h2
    cases r with
    | @cons _ _ d0 ds0 r0 r1 =>
      unfold dctGet
      by_cases hk : keyEq k q = true
      · rw [if_pos hk]
        have e := (key_eq h1.1 hq).mp hk
        exact .inl ⟨p.2, d0, valV_pos e, rfl, r0⟩
      · rw [if_neg hk]
        have e : ¬ p.1 = key := fun z => hk ((key_eq h1.1 hq).mpr z)
        rw [valV_neg e]
        exact dct_at hq h1.2 rfl r1
section
variable {X : Cx} {W : XK} {a b c e k : Expr} {es : List Expr} {fa fb fc f fk fx : SE} {fs : List SE} {pos apos p : Pos}
/-- d.get(k, x) -/
theorem se_get (hu0 : X.A.units + 64 < cLine) (ha : SEx X W a fa) (hk : SEx X W b fk) (hx : SEx X W c fx) (m : M2 X a "get" apos b c pos := by exact ⟨by rfl, by rfl, by rfl, by rfl⟩) : SEx X W (.Call (.Attribute a "get" apos) [b, c] [] pos) (eGet fa fk fx) := by
  have hu : X.A.units + 1 < cLine := by omega
  refine ⟨pe_weak (pe_dget2 hu ha.pe hk.pe hx.pe m) fun σ H Q ⟨G, ι, ρ, m, g, ev, q⟩ => ?_⟩
  rw [postE_G] at q
  refine tE_mono (step_e g ev q) fun v H1 ⟨G1, ι1, m1, o, x1, g1, ev1, r1, _, q1⟩ => ?_
  match o, q1, r1 with
  | .d (.dct ks ds), q1, r1 =>
    cases r1 with
    | @dct ad kvs vs _ _ h1 h2 h3 h4 =>
      refine ⟨ad, rfl, .inl ⟨kvs, .inl (g1.sub _ _ h1)⟩, ?_⟩
      have q1 : PostG X (fun G ι => RepV X.kx G ι) W G1 ι1 H1 ((fk ρ m1).bind fun q m => (fx ρ m).bind fun z m => (match q, z with
        | .d q, .d z => if q.isKey = true then .ok (.d ((dctGet ks ds q).getD z)) m else .no
        | _, _ => .no)) Q := q1
      refine tE_mono (step_e g1 ev1 q1) fun u H2 ⟨G2, ι2, m2, qk, x2, g2, ev2, r2, _, q2⟩ => ?_
      refine tE_mono (step_e g2 ev2 q2) fun w H3 ⟨G3, ι3, m3, z, x3, g3, ev3, r3, _, q3⟩ => ?_
      have r2 := r2.ext x3
      have key : ∃ qd zd, qk = .d qd ∧ z = .d zd ∧ qd.isKey = true ∧ PostG X (fun G ι => RepV X.kx G ι) W G3 ι3 H3 (.ok (.d ((dctGet ks ds qd).getD zd)) m3) Q := by
        match qk, z, q3 with
        | .d qd, .d zd, q3 =>
          have q3 : PostG X (fun G ι => RepV X.kx G ι) W G3 ι3 H3 (if qd.isKey = true then .ok (.d ((dctGet ks ds qd).getD zd)) m3 else .no) Q := q3
          by_cases hk : qd.isKey = true
          · rw [if_pos hk] at q3; exact ⟨qd, zd, rfl, rfl, hk, q3⟩
          · rw [if_neg hk] at q3; exact q3.elim
      obtain ⟨qd, zd, rfl, rfl, hk, q3⟩ := key
      have keyq : ∃ kk, keyOf qd = some kk ∧ u = kV kk := by
        cases qd with
        | int i => cases r2; exact ⟨.inl i, rfl, rfl⟩
        | str s => cases r2; exact ⟨.inr (txt s), rfl, rfl⟩
        | _ => cases hk
      obtain ⟨kk, e1, e2⟩ := keyq
      have sG : Sub G1 G3 := x2.sub.trans x3.sub
      refine ⟨valV kvs kk, .inl ⟨kvs, kk, .inl (g3.sub _ _ (sG _ _ h1)), e2, rfl⟩, ?_⟩
      rcases dct_at (K := X.kx) (G := G3) e1 h2 h3 (RepAll.mono sG h4) with ⟨v', d', l1, l2, l3⟩ | ⟨l1, l2⟩
      · rw [l1]
        rw [l2] at q3
        exact q3 _ G3 ι3 H3 (Ext.refl ..) g3 l3
      · rw [l1]
        rw [l2] at q3
        exact q3 _ G3 ι3 H3 (Ext.refl ..) g3 r3
  | .d .non, q1, _ => exact q1.elim
  | .d (.bl _), q1, _ => exact q1.elim
  | .d (.int _), q1, _ => exact q1.elim
  | .d (.str _), q1, _ => exact q1.elim
  | .d (.tup _), q1, _ => exact q1.elim
  | .d (.lst _), q1, _ => exact q1.elim
  | .d (.ins _ _ _), q1, _ => exact q1.elim
  | .obj _, q1, _ => exact q1.elim
  | .raw _, q1, _ => exact q1.elim
end
/-- a method of the class c, by its meaning; n: how many arguments, the instance with them -/
structure MethS (P : Program) (w : World) (K : Kx) (base : Heap) (k : Nat) (c nm : String) (n : Nat) (F : Fn) : Prop where
  ex : ∃ C f fd ps, K.mg (Str.ofString c) = some (.ref C) ∧ Cls K.K C ∧ Meth K.K C (Str.ofString nm) f ∧ Binds K.K fd ps [] ∧ FnOk P w K.K K.mg base (L2N.CX P w) k f fd ps (spF K n F)
theorem MethS.mono {P : Program} {w : World} {K : Kx} {base : Heap} {j k n : Nat} {c nm : String} {F : Fn} (h : MethS P w K base j c nm n F) (hk : j ≤ k) : MethS P w K base k c nm n F := by
  obtain ⟨C, f, fd, ps, h1, h2, h3, h4, h5⟩ := h.ex
  exact ⟨C, f, fd, ps, h1, h2, h3, h4, h5.mono hk⟩
section
variable {X : Cx} {W : XK} {o e : Expr} {es : List Expr} {fa : SE} {fs : List SE} {pos apos : Pos}
/-- o.m(e, ..) -/
theorem se_meth {k n : Nat} {c nm : String} {F : Fn} (hF : MethS X.prog X.w X.kx X.base k c nm n F) (tk : Tk X W) (hr : Room k X.A) (ho : SEx X W o fa) (ha : SAr X W (e :: es) fs) (hn : fs.length + 1 = n := by rfl) {y : Str} (hy : y = Str.ofString nm := by rfl) {pl : Sem Bool}
    (hst : starEach (e :: es) X.env = (false, eval e X.env) :: starEach es X.env := by rfl) (hpl : (backTo pos (starEach es X.env)).any (·.1) = false := by rfl)
    (ht : eval (.Call (.Attribute o y apos) (e :: es) [] pos) X.env = (do
      let ov ← eval o X.env
      standAt apos.atName
      let (f, first) ← holding [ov] (getMethod ov y pl)
      callWith pos f first (backTo pos (starEach (e :: es) X.env)) (backToKw pos (keywordEach [] X.env))) := by rfl) :
    SEx X W (.Call (.Attribute o y apos) (e :: es) [] pos) (eMethD c nm F fa fs) := by
  subst hy
  obtain ⟨C, f, fd, ps, h1, h2, h3, h4, h5⟩ := hF.ex
  refine ⟨pe_weak (pe_meth (E := W) (pl := pl) ho.pe h2 h3 h5 hr h4 .nil (L2N.passes_call tk fun _ _ _ _ h => h) ha.pa hst hpl ht) fun σ H Q ⟨G, ι, ρ, m, g, ev, q⟩ => ?_⟩
  rw [postE_G] at q
  refine tE_mono (step_e g ev q) fun v H1 ⟨G1, ι1, m1, x, x1, g1, ev1, r1, _, q1⟩ => ?_
  match x, q1, r1 with
  | .d (.ins c' ns ds), q1, r1 =>
    have qb : PostG X (fun G ι => RepV X.kx G ι) W G1 ι1 H1 (if c' = c ∧ nm ∉ ns then (eArgs fs ρ m1).bind fun xs m => F (.d (.ins c' ns ds) :: xs) m else .no) Q := q1
    by_cases hc : c' = c ∧ nm ∉ ns
    · rw [if_pos hc] at qb
      obtain ⟨hc, hno⟩ := hc
      subst hc
      have r1' := r1
      cases r1 with
      | @ins ad C' dx fl vs _ _ _ h6 h7 h8 h9 h10 =>
        have hCC : C' = C := Value.ref.inj (Option.some.inj (h6.symm.trans h1))
        subst hCC
        refine ⟨ad, dx, fl, rfl, g1.sub _ _ h7, ins_no h8 hno, ?_⟩
        refine tA_mono (step_a g1 ev1 qb) fun us H2 ⟨G2, ι2, m2, xs, x2, g2, ev2, r2, hx, q2⟩ => ?_
        rw [List.append_nil]
        refine ⟨G2, ι2, m2, .d (.ins c' ns ds) :: xs, ?_, g2, .cons (RepV.ext (x := .d (.ins c' ns ds)) x2 r1') r2, postE_G.mpr q2⟩
        rw [List.length_cons, eArgs_len fs ρ m1 _ xs hx, hn]
    · rw [if_neg hc] at qb
      exact qb.elim
  | .d .non, q1, _ => exact q1.elim
  | .d (.bl _), q1, _ => exact q1.elim
  | .d (.int _), q1, _ => exact q1.elim
  | .d (.str _), q1, _ => exact q1.elim
  | .d (.tup _), q1, _ => exact q1.elim
  | .d (.lst _), q1, _ => exact q1.elim
  | .d (.dct _ _), q1, _ => exact q1.elim
  | .obj _, q1, _ => exact q1.elim
  | .raw _, q1, _ => exact q1.elim
end
end DI
namespace DI
open PySem PySem.Spec PyProof.Rows L2
/-- what Steps.__init__ promises -/
def spStep (K : Kx) : Sp := fun vs H Q E => ∃ (x dx C a : Addr) (v1 v2 : V) (ps : List Addr) (kvs : List (Key × V)), vs = [.ref x, v1, v2, .ref a] ∧ K.mg "Steps" = some (.ref C) ∧ H x = some (.ins C dx []) ∧ TupN K.K H a (ps.map V.ref) ∧ Paired (fun p kv => SqT K.K H p [kV kv.1, kv.2]) ps kvs ∧
  ∀ d, d ≠ x → H d = none → Q .non (upd (upd H d (.dK (mergeK [] kvs))) x (.ins C dx [("one", v1), ("other", v2), ("told", .ref d)]))
inductive StepB : List Stmt → Prop
  | mk {p1 p2 p3 p4 p5 p6 p7 p8 p9 p10 p11 p12 p13 p14 : Pos} : StepB [.Assign [.Attribute (.Name "self" p1) "one" p2] (.Name "one" p3) p4, .Assign [.Attribute (.Name "self" p5) "other" p6] (.Name "other" p7) p8, .Assign [.Attribute (.Name "self" p9) "told" p10] (.Call (.Name "dict" p11) [.Name "facts" p12] [] p13) p14]
structure StepsS (P : Program) (w : World) (K : Kx) (base : Heap) (k : Nat) : Prop where
  ex : ∃ (C f : Addr) (fd : FuncData) (ps : List Str), K.mg "Steps" = some (.ref C) ∧ Mk K.K C f ∧ Binds K.K fd ps [] ∧ FnOk P w K.K K.mg base (L2N.CX P w) k f fd ps (spStep K)
theorem StepsS.mono {P : Program} {w : World} {K : Kx} {base : Heap} {j k : Nat} (h : StepsS P w K base j) (hk : j ≤ k) : StepsS P w K base k := by
  obtain ⟨C, f, fd, ps, h1, h2, h3, h4⟩ := h.ex
  exact ⟨C, f, fd, ps, h1, h2, h3, h4.mono hk⟩
theorem upd_over {H : Hp} {x d : Addr} {a b c : HO} (h : d ≠ x) : upd (upd (upd H x a) d b) x c = upd (upd H d b) x c := by
  funext y
  unfold upd
  by_cases h1 : y = x
  · simp [h1]
  · simp [h1]
theorem sqt_ne {K : PySem.W.Frag} {H : Hp} {x p : Addr} {o : HO} {vs : List V} (h : SqT K H p vs) (hx : ∀ xs, H x ≠ some (.tup xs)) (hx2 : ∀ o xs, H x ≠ some (.frz o (.tup xs))) : SqT K (upd H x o) p vs := by
  rcases h with (h | ⟨q, h⟩) | h
  · exact .inl (.inl (by rw [upd_ne (fun z => hx _ (by rw [← z]; exact h))]; exact h))
  · exact .inl (.inr ⟨q, by rw [upd_ne (fun z => hx2 _ _ (by rw [← z]; exact h))]; exact h⟩)
  · exact .inr h
theorem tupN_ne {K : PySem.W.Frag} {H : Hp} {x p : Addr} {o : HO} {vs : List V} (h : TupN K H p vs) (hx2 : ∀ o xs, H x ≠ some (.frz o (.tup xs))) : TupN K (upd H x o) p vs := by
  rcases h with ⟨q, h, hd⟩ | h
  · exact .inl ⟨q, by rw [upd_ne (fun z => hx2 _ _ (by rw [← z]; exact h))]; exact h, hd⟩
  · exact .inr h
section
variable {P : Program} {w : World} {K : Kx} {base : Heap}
theorem steps_ok {qual : Str} {st : Stmt} {C f : Addr} {fd : FuncData} (k : Nat) (F : ∃ (oc : Value) (od : Option Addr) (kV doc pm : Value) (an : Option Addr) (cdv ct : Value) (osl : Array (Option Value)), fd = PySem.W.fnOf "__init__" qual (defArgs st) (defBody st) (defScope st) .none kV doc pm an cdv ct ∧ K.K.lookup f = some ⟨oc, od, .func fd, osl⟩ ∧ PySem.W.codeIn K.K cdv qual = true)
    (S : FnScope ["self", "one", "other", "facts"] ["self", "one", "other", "facts"] (defScope st)) (B : StepB (defBody st)) (hC : K.mg "Steps" = some (.ref C)) (cl : Cls K.K C) (n1 : NoAttr K.K C "one") (n2 : NoAttr K.K C "other") (n3 : NoAttr K.K C "told") (zd : K.mg "dict" = none)
    (l1 : (defScope st).names.lookup ("self" : Str) = some .local) (l2 : (defScope st).names.lookup ("one" : Str) = some .local) (l3 : (defScope st).names.lookup ("other" : Str) = some .local) (l4 : (defScope st).names.lookup ("facts" : Str) = some .local) (l5 : (defScope st).names.lookup ("dict" : Str) = some .globalImplicit) :
    FnOk P w K.K K.mg base (L2N.CX P w) (k + 1) f fd ["self", "one", "other", "facts"] (spStep K) := by
  obtain ⟨oc, od, kV, doc, pm, an, cdv, ct, osl, rfl, lk, hcd⟩ := F
  generalize hb : defBody st = bd at B lk
  cases B
  refine fn_of lk hcd S (fun vs H Q E h => ?_) fun A outer sh H vs Q E hr h => ?_
  · obtain ⟨x, dx, C', a, v1, v2, ps, kvs, rfl, _⟩ := h
    rfl
  · obtain ⟨x, dx, C', a, v1, v2, ps, kvs, rfl, hC', hx, ht, hp, q⟩ := h
    have hCC : C' = C := Value.ref.inj (Option.some.inj (hC'.symm.trans hC))
    subst hCC
    have v : ∀ {y : Str} {i : Nat} {p : Pos}, (["self", "one", "other", "facts"] : List Str)[i]? = some y → (defScope st).names.lookup y = some .local → (y == ("__debug__" : Str)) = false → (y == ("__classdict__" : Str)) = false → PE (cxOf (L2N.CX P w) P w K.K K.mg base ["self", "one", "other", "facts"] qual (defScope st) f cdv A outer sh H E) (.Name y p) (tVar i) := fun h1 h2 h3 h4 => pe_var h1 (.inl h2) h3 h4
    refine ⟨_, pss_cons (ps_fld (v (i := 0) rfl l1 (by decide +kernel) (by decide +kernel)) (v (i := 1) rfl l2 (by decide +kernel) (by decide +kernel)) (by rfl)) (pss_cons (ps_fld (v (i := 0) rfl l1 (by decide +kernel) (by decide +kernel)) (v (i := 2) rfl l3 (by decide +kernel) (by decide +kernel)) (by rfl))
      (pss_one (ps_fld (v (i := 0) rfl l1 (by decide +kernel) (by decide +kernel)) (pe_callTy (call_dictT rfl) l5 zd (by decide +kernel) (pa_cons (v (i := 3) rfl l4 (by decide +kernel) (by decide +kernel)) pa_nil (by rfl)) (by decide +kernel) (by decide +kernel) (by rfl) (by rfl)) (by rfl)))), ?_⟩
    -- self.one = one
    have u1 : putF "one" v1 [] = [(("one" : Str), v1)] := rfl
    have u2 : putF "other" v2 [(("one" : Str), v1)] = [(("one" : Str), v1), (("other" : Str), v2)] := by
      unfold putF
      rw [if_neg (by decide +kernel)]
      rfl
    have u3 : ∀ d : Addr, putF "told" (.ref d) [(("one" : Str), v1), (("other" : Str), v2)] = [(("one" : Str), v1), (("other" : Str), v2), (("told" : Str), .ref d)] := fun d => by
      unfold putF
      rw [if_neg (by decide +kernel)]
      unfold putF
      rw [if_neg (by decide +kernel)]
      rfl
    refine ⟨v1, rfl, .ref x, rfl, x, C', dx, [], rfl, hx, cl, n1, Nat.zero_lt_succ _, ?_⟩
    rw [u1]
    refine ⟨v2, rfl, .ref x, rfl, x, C', dx, _, rfl, upd_same, cl, n2, by show 1 < 1000; decide, ?_⟩
    rw [upd_upd, u2]
    have hx1 : ∀ xs, H x ≠ some (.tup xs) := fun xs z => by rw [hx] at z; cases z
    have hx2 : ∀ o xs, H x ≠ some (.frz o (.tup xs)) := fun o xs z => by rw [hx] at z; cases z
    refine ⟨.ref a, rfl, a, ps, kvs, rfl, tupN_ne ht hx2, DI.Paired.map_in hp fun p _ kv h => sqt_ne h hx1 hx2, fun d hd => ?_⟩
    have hdx : d ≠ x := fun z => by rw [z, upd_same] at hd; cases hd
    refine ⟨.ref x, rfl, x, C', dx, _, rfl, by rw [upd_ne (Ne.symm hdx), upd_same], cl, n3, by show 2 < 1000; decide, ?_⟩
    rw [upd_over hdx, u3]
    exact q d hdx (by rw [upd_ne hdx] at hd; exact hd)
end
theorem merge_nodup : ∀ (kvs acc : List (Key × V)), (acc.map (·.1) ++ kvs.map (·.1)).Nodup → mergeK acc kvs = acc ++ kvs
  | [], acc, _ => by simp [mergeK]
  | p :: kvs, acc, h => by
    have hp : (acc.any fun kv => decide (kv.1 = p.1)) = false := by
      rw [List.any_eq_false]
      intro x hx
      rw [decide_eq_true_eq]
      intro e
      rw [List.map_cons, List.nodup_append] at h
      exact h.2.2 x.1 (List.mem_map.mpr ⟨x, hx, rfl⟩) p.1 (by simp) e
    have e : mergeK acc (p :: kvs) = mergeK (acc ++ [p]) kvs := by
      show mergeK (putK acc p.1 p.2) kvs = _
      unfold putK
      rw [hp]
      rfl
    rw [e, merge_nodup kvs (acc ++ [p]) (by simpa using h)]
    simp
/-- pairs in the heap -/
theorem pairs_rep {K : Kx} {G : Hp} : ∀ {vs : List V} {xs : List D} {ps : List (Int × Int)}, RepAll K G vs xs → pairsI xs = some ps → ∃ as : List Addr, vs = as.map V.ref ∧ Paired (fun p kv => SqT K.K G p [kV kv.1, kv.2]) as (ps.map fun q => ((.inl q.1 : Key), V.int q.2))
  | _, _, ps, .nil, h => by
    unfold pairsI at h
    cases h
    exact ⟨[], rfl, .nil⟩
  | _, _, ps, .cons (v := v) (d := d) r t, h => by
    match d, r, h with
    | .tup [.int a, .int b], r, h =>
      have h : (pairsI _).map ((a, b) :: ·) = some ps := h
      cases hq : pairsI _ with
      | none => rw [hq] at h; cases h
      | some q =>
        rw [hq] at h
        cases h
        obtain ⟨as, e, pr⟩ := pairs_rep t hq
        cases r with
        | @tup ad xs _ hs r2 =>
          cases r2 with
          | cons ra r3 =>
            cases r3 with
            | cons rb r4 =>
              cases r4
              cases ra
              cases rb
              exact ⟨ad :: as, by rw [e]; rfl, .cons hs pr⟩
    | .non, _, h => cases h
    | .bl _, _, h => cases h
    | .int _, _, h => cases h
    | .str _, _, h => cases h
    | .lst _, _, h => cases h
    | .dct _ _, _, h => cases h
    | .ins _ _ _, _, h => cases h
    | .tup [], _, h => cases h
    | .tup [_], _, h => simp [pairsI] at h
    | .tup (_ :: _ :: _ :: _), _, h => simp [pairsI] at h
theorem tupOf_at [Nil0] {K : Kx} {G H : Hp} {ι : Io} {m : Mem} (hK : NilA K.K) (g : GR K G ι m H) {v : V} {z : PV} (r : RepV K G ι v z) {xs : List D} (h : tupOf m z = some xs) : ∃ a vs, v = .ref a ∧ TupN K.K G a vs ∧ RepAll K G vs xs := by
  cases z with
  | d x => cases h
  | raw b =>
    have h : (if Nil0.is b = true then some [] else none) = some xs := h
    by_cases hb : Nil0.is b = true
    · rw [if_pos hb] at h
      cases h
      obtain ⟨n, sl, e⟩ := hK b hb
      exact ⟨b, [], r, .inr ⟨#[], n, sl, e, Nat.zero_le _, .nil⟩, .nil⟩
    · rw [if_neg hb] at h; cases h
  | obj i =>
    unfold tupOf at h
    dsimp only at h
    cases hm : m[i]? with
    | none => rw [hm] at h; cases h
    | some o =>
      rw [hm] at h
      cases o with
      | tp ys =>
        cases h
        obtain ⟨a, l, hl, rfl⟩ := r
        obtain ⟨a', vs, o, el, h1, h2, h3⟩ := g.obj i _ _ hl hm
        cases el
        exact ⟨a, vs, rfl, .inl ⟨o, h1, h2⟩, h3⟩
      | _ => cases h
section
variable {X : Cx} {W : XK} {e : Expr} {es : List Expr} {fs : List SE} {pos p : Pos}
/-- Steps(one, other, facts) -/
theorem se_steps [Nil0] {k : Nat} (S : StepsS X.prog X.w X.kx X.base k) (hK : NilA X.K) (tk : Tk X W) (hr : Room (k + 1) X.A) (ha : SAr X W (e :: es) fs) (hg : Gl X "Steps" := by rfl)
    (he : starEach (e :: es) X.env = (false, eval e X.env) :: starEach es X.env := by rfl) (hpl : (backTo pos (starEach es X.env)).any (·.1) = false := by rfl) :
    SEx X W (.Call (.Name "Steps" p) (e :: es) [] pos) (eSteps fs) := by
  obtain ⟨C, f, fd, ps, h1, h2, h3, h4⟩ := S.ex
  refine ⟨pe_weak (pe_make (E := W) h2 h4 hr hg h1 h3 .nil (L2N.passes_call tk fun _ _ _ _ h => h) ha.pa (by decide +kernel) he hpl) fun σ H Q ⟨G, ι, ρ, m, g, ev, q⟩ => ?_⟩
  refine ⟨G, ι, ρ, m, g, ev, ?_⟩
  unfold eSteps at q
  cases hrr : eArgs fs ρ m with
  | no => rw [hrr] at q; exact q
  | ex x m1 => rw [hrr] at q; exact q
  | ok xs m1 =>
    rw [hrr, Res.bind_ok] at q
    intro us G1 ι1 H1 x1 g1 r1
    have key : ∃ x y z, xs = [.d x, .d y, z] := by
      match xs, q with
      | [.d x, .d y, z], _ => exact ⟨x, y, z, rfl⟩
    obtain ⟨x, y, z, rfl⟩ := key
    have q2 : PostE X W G ι H (match (tupOf m1 z).bind pairsI with
      | some ps => if (ps.map (·.1)).Nodup then .ok (.d (.ins "Steps" ["one", "other", "told"] [x, y, .dct (ps.map fun p => .int p.1) (ps.map fun p => .int p.2)])) m1 else .no
      | none => .no) Q := q
    cases ht : tupOf m1 z with
    | none => rw [ht] at q2; exact q2.elim
    | some ts =>
      rw [ht, Option.bind_some] at q2
      cases hp : pairsI ts with
      | none => rw [hp] at q2; exact q2.elim
      | some prs =>
        rw [hp] at q2
        have q2 : PostE X W G ι H (if (prs.map (·.1)).Nodup then .ok (.d (.ins "Steps" ["one", "other", "told"] [x, y, .dct (prs.map fun p => .int p.1) (prs.map fun p => .int p.2)])) m1 else .no) Q := q2
        by_cases hn : (prs.map (·.1)).Nodup
        · rw [if_pos hn] at q2
          cases r1 with
          | @cons u1 _ _ _ rx r1 =>
            cases r1 with
            | @cons u2 _ _ _ ry r1 =>
              cases r1 with
              | @cons u3 _ _ _ rz r1 =>
                cases r1
                intro ax dx hax hdx hne
                obtain ⟨a, vs, rfl, tn, ra⟩ := tupOf_at hK g1 rz ht
                obtain ⟨as, rfl, pr⟩ := pairs_rep ra hp
                obtain ⟨g2, x2⟩ := g1.lay hdx (.own ax)
                have hax2 : upd H1 dx (.own ax) ax = none := by rw [upd_ne (Ne.symm hne)]; exact hax
                have sG : Sub G1 (upd (upd H1 dx (.own ax)) ax (.ins C dx [])) := sub_updR (g1.sub.trans (sub_upd hdx)) (g1.fresh hax).1
                have tn2 : TupN X.K (upd (upd H1 dx (.own ax)) ax (.ins C dx [])) a (as.map V.ref) := by
                  rcases tn with ⟨o, h, hd⟩ | h
                  · exact .inl ⟨o, sG _ _ h, hd⟩
                  · exact .inr h
                refine ⟨ax, dx, C, a, u1, u2, as, prs.map fun q => ((.inl q.1 : Key), V.int q.2), rfl, h1, upd_same, tn2, DI.Paired.map_in pr fun p _ kv h => sG.sqt h, fun d hd1 hd => ?_⟩
                have hd2 : upd H1 dx (.own ax) d = none := by rw [upd_ne hd1] at hd; exact hd
                have mk : mergeK [] (prs.map fun q => ((.inl q.1 : Key), V.int q.2)) = prs.map fun q => ((.inl q.1 : Key), V.int q.2) := by
                  rw [merge_nodup _ [] ?_, List.nil_append]
                  rw [List.map_nil, List.nil_append, List.map_map]
                  have : (fun x : Key × V => x.1) ∘ (fun q : Int × Int => ((.inl q.1 : Key), V.int q.2)) = Sum.inl ∘ fun q : Int × Int => q.1 := rfl
                  rw [this, ← List.map_map]
                  exact List.pairwise_map.mpr (List.Pairwise.imp (fun h z => h (Sum.inl.inj z)) hn)
                rw [mk]
                obtain ⟨g3, x3⟩ := g2.lay hd2 (.dK (prs.map fun q => ((.inl q.1 : Key), V.int q.2)))
                have hax3 : upd (upd H1 dx (.own ax)) d (.dK (prs.map fun q => ((.inl q.1 : Key), V.int q.2))) ax = none := by rw [upd_ne (Ne.symm hd1)]; exact hax2
                obtain ⟨g4, x4⟩ := g3.lay hax3 (.ins C dx [("one", u1), ("other", u2), ("told", .ref d)])
                have eH : upd (upd (upd (upd H1 dx (.own ax)) ax (.ins C dx [])) d (.dK (prs.map fun q => ((.inl q.1 : Key), V.int q.2)))) ax (.ins C dx [("one", u1), ("other", u2), ("told", .ref d)])
                  = upd (upd (upd H1 dx (.own ax)) d (.dK (prs.map fun q => ((.inl q.1 : Key), V.int q.2)))) ax (.ins C dx [("one", u1), ("other", u2), ("told", .ref d)]) := upd_over hd1
                rw [eH]
                have xx := ((x1.trans x2).trans x3).trans x4
                refine ⟨rfl, q2 _ _ _ _ xx g4 ?_⟩
                have s14 := (x2.sub.trans x3.sub).trans x4.sub
                refine .ins (vs := [u1, u2, .ref d]) h1 upd_same rfl rfl (.cons (Rep.mono s14 rx) (.cons (Rep.mono s14 ry) (.cons ?_ .nil)))
                refine .dct (vs := prs.map fun q => V.int q.2) (x4.sub _ _ upd_same) ?_ ?_ ?_
                · rw [List.map_map, List.map_map]
                  rfl
                · rw [List.map_map]
                  rfl
                · rw [show (prs.map fun q => V.int q.2) = (prs.map (·.2)).map V.int by rw [List.map_map]; rfl, show (prs.map fun p => D.int p.2) = (prs.map (·.2)).map D.int by rw [List.map_map]; rfl]
                  exact RepAll.ints _
        · rw [if_neg hn] at q2
          exact q2.elim
end
end DI
namespace DI
open PySem PySem.Spec PyProof.Rows L2
/-! ### tables: lists of lists, made, read, changed, frozen -/
theorem paired_ix {α β : Type} {R : α → β → Prop} : ∀ {xs : List α} {ys : List β}, Paired R xs ys → ∀ {k : Nat} {y : β}, ys[k]? = some y → ∃ x, xs[k]? = some x ∧ R x y
  | _, _, .nil, k, y, h => by simp at h
  | _, _, .cons r t, 0, y, h => by simp at h; subst h; exact ⟨_, by simp, r⟩
  | _, _, .cons r t, k + 1, y, h => by
    simp at h
    obtain ⟨x, h1, h2⟩ := paired_ix t h
    exact ⟨x, by simpa using h1, h2⟩
theorem paired_set {α β : Type} {R S : α → β → Prop} : ∀ {xs : List α} {ys : List β}, Paired R xs ys → ∀ {k : Nat} {x : α} {y : β}, xs[k]? = some x → S x y → xs.Nodup → (∀ x' y', x' ≠ x → R x' y' → S x' y') → Paired S xs (ys.set k y)
  | _, _, .nil, k, x, y, h, _, _, _ => by simp at h
  | _, _, .cons r t, 0, x, y, h, s, nd, f => by
    simp at h
    subst h
    rw [List.nodup_cons] at nd
    exact .cons s (Paired.map_in t fun x' hx y' r' => f _ _ (fun z => nd.1 (z ▸ hx)) r')
  | _, _, .cons r t, k + 1, x, y, h, s, nd, f => by
    simp at h
    rw [List.nodup_cons] at nd
    refine .cons (f _ _ (fun z => nd.1 ?_) r) (paired_set t h s nd.2 f)
    rw [z]; exact List.mem_of_getElem? h
theorem io_apart2 : ∀ (L : Io) (i j : Nat) (l l' : List Addr) (q : Addr), L.flatten.Nodup → L[i]? = some l → L[j]? = some l' → j ≠ i → q ∈ l → q ∈ l' → False
  | [], i, j, l, l', q, _, h, _, _, _, _ => by simp at h
  | x :: L, i, j, l, l', q, nd, hi, hj, hne, h1, h2 => by
    rw [List.flatten_cons, List.nodup_append] at nd
    cases i with
    | zero =>
      cases j with
      | zero => exact hne rfl
      | succ j =>
        simp at hi hj
        subst hi
        exact nd.2.2 q h1 q (mem_io hj h2) rfl
    | succ i =>
      cases j with
      | zero =>
        simp at hi hj
        subst hj
        exact nd.2.2 q h2 q (mem_io hi h1) rfl
      | succ j =>
        simp at hi hj
        exact io_apart2 L i j l l' q nd.2.1 hi hj (fun e => hne (by rw [e])) h1 h2
theorem io_nodup2 : ∀ (L : Io) (i : Nat) (l : List Addr), L.flatten.Nodup → L[i]? = some l → l.Nodup
  | [], i, l, _, h => by simp at h
  | x :: L, i, l, nd, hi => by
    rw [List.flatten_cons, List.nodup_append] at nd
    cases i with
    | zero => simp at hi; subst hi; exact nd.1
    | succ i => simp at hi; exact io_nodup2 L i l nd.2.1 hi
section
variable {G H : Hp} {ι : Io} {m : Mem}
theorem GR.write2 {K : Kx} (g : GR K G ι m H) {i k : Nat} {q b : Addr} {as : List Addr} {rows : List (List DI.D)} (hi : ι[i]? = some (q :: as)) (hm : m[i]? = some (.l2 rows)) (hb : as[k]? = some b) {vs : List V} {ys : List DI.D} (r : RepAll K G vs ys) :
    GR K G ι (m.set i (.l2 (rows.set k ys))) (upd H b (.lst vs)) ∧ Ext G ι H G ι (upd H b (.lst vs)) := by
  obtain ⟨a, as', ea, g0, h0, pr⟩ := g.obj i _ _ hi hm
  cases ea
  have hbm : b ∈ as := List.mem_of_getElem? hb
  have hq : b ∈ ι.flatten := mem_io hi (List.mem_cons_of_mem _ hbm)
  have ndl := io_nodup2 ι i _ g.nd hi
  rw [List.nodup_cons] at ndl
  have hbq : q ≠ b := fun z => ndl.1 (z ▸ hbm)
  obtain ⟨ds, gb0, _, _, _⟩ := Paired.at_l pr hbm
  refine ⟨⟨sub_updR g.sub gb0, by simp [g.len], g.nd, fun j l' o hl ho => ?_⟩, Sub.refl G, ⟨[], by simp, by simp⟩, fun x o h hn => ?_, fun x h => ?_, fun x o h => .inl h⟩
  · by_cases hj : j = i
    · subst hj
      rw [hi] at hl
      cases hl
      rw [List.getElem?_set_self (List.getElem?_eq_some_iff.mp hm).1] at ho
      cases ho
      refine ⟨q, as, rfl, g0, by rw [upd_ne hbq]; exact h0, paired_set pr hb ⟨gb0, vs, upd_same, r⟩ ndl.2 fun x' y' hx ⟨z1, ws, z2, z3⟩ => ⟨z1, ws, by rw [upd_ne hx]; exact z2, z3⟩⟩
    · rw [List.getElem?_set_ne (Ne.symm hj)] at ho
      refine (g.obj j l' o hl ho).mono (Sub.refl G) fun x hx => ⟨id, ?_⟩
      rw [upd_ne]
      rintro rfl
      exact io_apart2 ι i j _ l' x g.nd hi hl hj (List.mem_cons_of_mem _ hbm) hx
  · rw [upd_ne]
    · exact h
    · rintro rfl
      exact hn hq
  · by_cases z : x = b
    · subst z; rw [upd_same] at h; cases h
    · rw [upd_ne z] at h; exact h
theorem GR.freeze2 {K : Kx} (g : GR K G ι m H) {i : Nat} {q : Addr} {l : List Addr} {rows : List (List DI.D)} (hi : ι[i]? = some (q :: l)) (hm : m[i]? = some (.l2 rows)) :
    ∃ G', GR K G' ι (m.set i .dead) H ∧ Ext G ι H G' ι H ∧ Rep K G' (.ref q) (.lst (rows.map .lst)) := by
  obtain ⟨a, as, ea, g0, h0, pr⟩ := g.obj i _ _ hi hm
  cases ea
  let G' : Hp := fun x => if x ∈ q :: l then H x else G x
  have e1 : ∀ x, x ∈ q :: l → G' x = H x := fun x h => if_pos h
  have e2 : ∀ x, x ∉ q :: l → G' x = G x := fun x h => if_neg h
  have gn : ∀ x, x ∈ q :: l → G x = none := by
    intro x h
    rw [List.mem_cons] at h
    rcases h with rfl | h
    · exact g0
    · obtain ⟨_, z, _⟩ := Paired.at_l pr h
      exact z
  have s : Sub G G' := fun x o h => by
    by_cases z : x ∈ q :: l
    · rw [gn x z] at h; cases h
    · rw [e2 x z]; exact h
  have hfl : ∀ x, x ∈ q :: l → x ∈ ι.flatten := fun x h => mem_io hi h
  have rows_rep : ∀ {bs : List Addr} {rs : List (List DI.D)}, (∀ b ∈ bs, b ∈ l) → Paired (fun b ds => G b = none ∧ ∃ vs, H b = some (.lst vs) ∧ RepAll K G vs ds) bs rs → RepAll K G' (bs.map V.ref) (rs.map .lst) := by
    intro bs rs hb p
    induction p with
    | nil => exact .nil
    | cons z t ih =>
      obtain ⟨_, vs, h1, h2⟩ := z
      refine .cons (.lst (SqL.of ?_) (RepAll.mono s h2)) (ih fun b hb' => hb b (List.mem_cons_of_mem _ hb'))
      rw [e1 _ (List.mem_cons_of_mem _ (hb _ (by simp)))]
      exact h1
  refine ⟨G', ⟨fun x o h => ?_, by simp [g.len], g.nd, fun j l' o hl ho => ?_⟩, ⟨s, ⟨[], by simp, by simp⟩, fun x o h _ => h, fun x h => h, fun x o h => ?_⟩, .lst (SqL.of (by rw [e1 _ (by simp)]; exact h0)) (rows_rep (fun _ h => h) pr)⟩
  · by_cases z : x ∈ q :: l
    · rw [e1 x z] at h; exact h
    · rw [e2 x z] at h; exact g.sub _ _ h
  · by_cases hj : j = i
    · subst hj
      rw [hi] at hl
      cases hl
      rw [List.getElem?_set_self (List.getElem?_eq_some_iff.mp hm).1] at ho
      cases ho
      intro b hb
      rw [e1 b hb]
      rw [List.mem_cons] at hb
      rcases hb with rfl | hb
      · exact ⟨_, h0⟩
      · obtain ⟨_, _, vs, z, _⟩ := Paired.at_l pr hb
        exact ⟨_, z⟩
    · rw [List.getElem?_set_ne (Ne.symm hj)] at ho
      refine (g.obj j l' o hl ho).mono s fun x hx => ⟨fun hn => ?_, rfl⟩
      rw [e2]
      · exact hn
      · exact fun z => io_apart2 ι i j _ l' x g.nd hi hl hj z hx
  · by_cases z : x ∈ q :: l
    · exact .inr (.inr (hfl x z))
    · rw [e2 x z] at h; exact .inl h
theorem GR.alloc2 {K : Kx} (g : GR K G ι m H) {q : Addr} {as : List Addr} {rows : List (List DI.D)} (gq : G q = none) (iq : q ∉ ι.flatten) (hq : H q = some (.lst (as.map V.ref))) (nq : (q :: as).Nodup)
    (pr : Paired (fun b ds => G b = none ∧ b ∉ ι.flatten ∧ ∃ vs, H b = some (.lst vs) ∧ RepAll K G vs ds) as rows) : GR K G (ι ++ [q :: as]) (m ++ [.l2 rows]) H := by
  refine ⟨g.sub, by simp [g.len], ?_, fun i l o hl ho => ?_⟩
  · rw [List.flatten_append, List.nodup_append]
    refine ⟨g.nd, by simpa using nq, fun x hx y hy e => ?_⟩
    subst e
    have hy' : x ∈ q :: as := by simpa using hy
    rw [List.mem_cons] at hy'
    rcases hy' with rfl | h
    · exact iq hx
    · obtain ⟨_, _, z, _⟩ := Paired.at_l pr h
      exact z hx
  · by_cases hi : i < ι.length
    · rw [List.getElem?_append_left hi] at hl
      rw [List.getElem?_append_left (by rw [← g.len]; exact hi)] at ho
      exact g.obj i l o hl ho
    · have hlen := g.len
      have hi2 : i = ι.length := by
        have := (List.getElem?_eq_some_iff.mp hl).1
        simp at this
        omega
      subst hi2
      rw [List.getElem?_append_right (Nat.le_refl _)] at hl
      rw [List.getElem?_append_right (by omega)] at ho
      simp at hl
      rw [hlen] at ho
      simp at ho
      subst hl ho
      exact ⟨q, as, rfl, gq, hq, pr.mono fun _ _ z => ⟨z.1, z.2.2⟩⟩
end
end DI
namespace DI
open PySem PySem.Spec PyProof.Rows L2
section
variable {X : Cx} {W : XK} {a b c e elt tg iter : Expr} {es rest ifs : List Expr} {fa fb fc f fe fk f1 f2 : SE} {fn : NE} {fi : IE} {tgt : Tg} {fs : List SE} {pos p : Pos} {G H : Hp} {ι : Io} {ρ : Env} {m : Mem} {σ : L2.St} {st : Stmt} {sts : List Stmt} {Dn : Ends}
theorem lcR_cons (tgt : Tg) (fe : NE) (x : DI.D) (xs : List DI.D) (ρ : Env) (m : Mem) (acc : List (List DI.D)) : lcR tgt fe (x :: xs) ρ m acc = match tgt (.d x) ρ with
    | none => .no
    | some ρ1 => match fe ρ1 m with
      | .ok ys m2 => lcR tgt fe xs ρ m2 (acc ++ [ys])
      | _ => .no := rfl
theorem tab_core {i : Nat} {vs : List Nat} {D : Ends} (p0 : tS X W (sTab i vs fi tgt fn) D σ H) :
    tLc (tI X W fi) (tG X vs tgt) (tTe X W0 tsY) (tNE X W0 fn) vs σ H (fun x H1 => gName i x σ H1 D.nx) := by
  obtain ⟨G, ι, ρ, m, g, ev, p⟩ := p0
  refine ⟨G, ι, ρ, m, g, ev, ?_⟩
  unfold sTab at p
  cases hr : fi ρ m with
  | no => rw [hr] at p; exact p
  | ex ex m1 => rw [hr] at p; exact p
  | ok xs m1 =>
    rw [hr, Res.run_ok] at p
    intro J G1 ι1 H1 e1 g1 wk D' hD
    obtain ⟨gD, iD⟩ := g1.fresh hD
    have hlen : xs.length ≤ lineL := by
      by_cases h : xs.length ≤ lineL
      · exact h
      · rw [if_neg h] at p; exact p.elim
    rw [if_pos hlen] at p
    have evw : ∀ {G' ι' H'}, Ext G1 ι1 H1 G' ι' H' → EnvR X.kx G' ι' (wipeE ρ vs) (wipe σ vs) := fun e => ((ev.ext e1).ext e).wipe vs
    have evr : ∀ {G' ι' H'}, Ext G1 ι1 H1 G' ι' H' → EnvR X.kx G' ι' ρ σ := fun e => (ev.ext e1).ext e
    let Row : Hp → Hp → Io → Addr → List DI.D → Prop := fun G' H' ι' b ds => G' b = none ∧ b ∉ ι'.flatten ∧ H1 b = none ∧ ∃ ws, H' b = some (.lst ws) ∧ RepAll X.kx G' ws ds
    let Inv0 : Nat → Hp → Prop := fun i H' => ∃ G' ι' m' acc as, Ext G1 ι1 H1 G' ι' H' ∧ GR X.kx G' ι' m' H' ∧ H' D' = some (.lst (as.map V.ref)) ∧ D' ∉ ι'.flatten ∧ G' D' = none ∧ (D' :: as).Nodup ∧ Paired (Row G' H' ι') as acc ∧ acc.length ≤ i ∧
      (match lcR tgt fn (xs.drop i) (wipeE ρ vs) m' acc with
        | .ok ys m2 => lcR tgt fn xs (wipeE ρ vs) m1 [] = .ok ys m2
        | _ => False)
    have whole : ∃ ys m2, lcR tgt fn xs (wipeE ρ vs) m1 [] = .ok ys m2 := by
      cases hw : lcR tgt fn xs (wipeE ρ vs) m1 [] with
      | no => rw [hw] at p; exact p.elim
      | ex ex m2 => rw [hw] at p; exact p.elim
      | ok ys m2 => exact ⟨ys, m2, rfl⟩
    obtain ⟨ys, m2, hw⟩ := whole
    rw [hw] at p
    have p2 : PostS X W D G ι H (.nx (ρ.set i (some (.obj m2.length))) (m2 ++ [.l2 ys])) := p
    clear p
    refine ⟨fun i k H' => k = xs.length - i ∧ i ≤ xs.length ∧ Inv0 i H', ⟨xs.length, by simp, Nat.zero_le _, G1, ι1, m1, [], [], ?_, g1.other iD gD _, upd_same, iD, gD, by simp, .nil, Nat.le_refl _, ?_⟩, ?_⟩
    · exact ext_other (Ext.refl ..) hD _
    · rw [List.drop_zero, hw]
    rintro j k H2 ⟨rfl, hi, G2, ι2, m3, acc, as, e2, g2, hD2, iD2, gD2, nd2, ra, hal, pl⟩
    -- what happens to the rows
    have rows : ∀ {G3 H3 ι3} , Ext G2 ι2 H2 G3 ι3 H3 → GR X.kx G3 ι3 m3 H3 ∨ True → (∀ b o, H2 b = some o → b ∉ ι2.flatten → G2 b = none → H3 b = some o ∧ b ∉ ι3.flatten ∧ G3 b = none) → Paired (Row G3 H3 ι3) as acc := by
      intro G3 H3 ι3 e3 _ h
      refine ra.mono fun b ds ⟨z1, z2, z3, ws, z4, z5⟩ => ?_
      obtain ⟨w1, w2, w3⟩ := h b _ z4 z2 z1
      exact ⟨w3, w2, z3, ws, w1, RepAll.mono e3.sub z5⟩
    by_cases hlt : j < xs.length
    · refine .inr ⟨wk.goes j G2 ι2 m3 H2 hlt e2.sub g2, fun H' => Inv0 (j + 1) H', fun H' h => ⟨xs.length - (j + 1), by omega, rfl, hlt, h⟩, fun v H3 y => ?_⟩
      obtain ⟨G3, d, hd, e3, g3, r3⟩ := wk.yields j G2 ι2 m3 H2 v H3 hlt e2.sub g2 y
      obtain ⟨hD3, iD3, gD3⟩ := acc_apart e3 g3 hD2 iD2 gD2
      rw [List.drop_eq_getElem_cons hlt, lcR_cons] at pl
      have hxd : xs[j] = d := by rw [List.getElem?_eq_getElem hlt] at hd; exact Option.some.inj hd
      rw [hxd] at pl
      refine ⟨G3, ι2, wipeE ρ vs, m3, .d d, g3, evw (e2.trans e3), r3, ?_⟩
      cases htg : tgt (.d d) (wipeE ρ vs) with
      | none => rw [htg] at pl; exact pl.elim
      | some ρ1 =>
        rw [htg] at pl
        dsimp only at pl ⊢
        intro σ' ev' off
        refine ⟨wipe_off off, ⟨G3, ι2, ρ1, m3, g3, ev', ?_, ?_⟩⟩
        · intro x m' hx
          cases hx
          exact ⟨true, rfl⟩
        · intro bb G4 ι4 H4 e4 g4 hb
          cases (show .d (.bl true) = PV.d (.bl bb) from hb)
          obtain ⟨hD4, iD4, gD4⟩ := acc_apart e4 g4 hD3 iD3 gD3
          rw [if_pos rfl]
          refine ⟨G4, ι4, ρ1, m3, g4, ev'.ext e4, ?_⟩
          cases hfe : fn ρ1 m3 with
          | no => rw [hfe] at pl; exact pl.elim
          | ex ex m5 => rw [hfe] at pl; exact pl.elim
          | ok yv m5 =>
            rw [hfe] at pl
            dsimp only at pl ⊢
            intro q5 w5 G5 ι5 H5 e5 g5 hq5 r5
            obtain ⟨hD5, iD5, gD5⟩ := acc_apart e5 g5 hD4 iD4 gD4
            obtain ⟨gq, iq⟩ := g5.fresh hq5
            have hne : D' ≠ q5 := ne_of_none hD5 hq5
            have eall : Ext G2 ι2 H2 G5 ι5 H5 := (e3.trans e4).trans e5
            have ra5 : Paired (Row G5 H5 ι5) as acc := rows eall (.inr trivial) fun b o h1 h2 h3 => by
              obtain ⟨a1, a2, a3⟩ := acc_apart e3 g3 h1 h2 h3
              obtain ⟨b1, b2, b3⟩ := acc_apart e4 g4 a1 a2 a3
              exact acc_apart e5 g5 b1 b2 b3
            have hnm : q5 ∉ as := fun hm => by
              obtain ⟨_, _, _, _, _, z, _⟩ := Paired.at_l ra5 hm
              rw [hq5] at z; cases z
            have hq1 : H1 q5 = none := (e2.trans eall).dm q5 hq5
            have hasD : ∀ b ∈ as, b ≠ D' := fun b hb z => by
              rw [List.nodup_cons] at nd2; exact nd2.1 (z ▸ hb)
            refine ⟨as.map V.ref, by rw [upd_ne hne]; exact hD5, ?_, G5, ι5, m5, acc ++ [yv], as ++ [q5], ?_, ?_, ?_, iD5, gD5, ?_, ?_, ?_, pl⟩
            · have := paired_len ra
              rw [List.length_map, ← lineL_eq]
              omega
            · exact ext_other (ext_other (e2.trans eall) hq1 _) hD _
            · exact (g5.other iq gq _).other iD5 gD5 _
            · rw [upd_same, List.map_append]; rfl
            · rw [List.nodup_cons] at nd2 ⊢
              refine ⟨fun hm => ?_, ?_⟩
              · rw [List.mem_append, List.mem_singleton] at hm
                rcases hm with hm | hm
                · exact nd2.1 hm
                · exact hne hm
              · rw [List.nodup_append]
                refine ⟨nd2.2, by simp, fun x hx y hy => ?_⟩
                have : y = q5 := by simpa using hy
                subst this
                rintro rfl
                exact hnm hx
            · refine Paired.snoc ?_ ⟨gq, iq, hq1, w5, by rw [upd_ne (Ne.symm hne), upd_same], r5⟩
              refine Paired.map_in ra5 fun b hb ds ⟨z1, z2, z3, ws, z4, z5⟩ => ⟨z1, z2, z3, ws, ?_, z5⟩
              rw [upd_ne (hasD b hb), upd_ne (fun (z : b = q5) => hnm (by rw [← z]; exact hb))]
              exact z4
            · simp; omega
    · have hie : j = xs.length := by omega
      subst hie
      refine .inl ⟨wk.stops G2 ι2 m3 H2 e2.sub g2, ?_⟩
      rw [List.drop_length] at pl
      have pl' : lcR tgt fn xs (wipeE ρ vs) m1 [] = .ok acc m3 := pl
      rw [hw] at pl'
      cases pl'
      have g4 := g2.alloc2 gD2 iD2 hD2 nd2 (ra.mono fun _ _ ⟨z1, z2, _, ws, z4, z5⟩ => ⟨z1, z2, ws, z4, z5⟩)
      have e4 : Ext G1 ι1 H1 G2 (ι2 ++ [D' :: as]) H2 := by
        obtain ⟨t, ht, hn⟩ := e2.pre
        refine ⟨e2.sub, ⟨t ++ [D' :: as], by rw [ht]; simp, fun x hx => ?_⟩, e2.kp, e2.dm, e2.gk⟩
        rw [List.flatten_append, List.mem_append] at hx
        rcases hx with hx | hx
        · exact hn x hx
        · have hx' : x ∈ D' :: as := by simpa using hx
          rw [List.mem_cons] at hx'
          rcases hx' with rfl | h
          · exact hD
          · obtain ⟨_, _, _, z, _⟩ := Paired.at_l ra h
            exact z
      refine p2 _ _ _ _ (e1.trans e4) g4 ((evr e4).set (x := .obj m2.length) ⟨D', as, ?_, rfl⟩ i)
      rw [← g2.len, List.getElem?_append_right (Nat.le_refl _)]
      simp
theorem ss_tab {i : Nat} {y : Str} {py spos : Pos} {scope : Scope} {own : List (Str × Nat)} (hc : X.calm = true) (hN : X.N.Nodup) (hi : SIx X W tg iter fi) (ok : BlkOk X.N X.env.scope scope own)
    (hg : ∀ (s : Shared) (H : Hp) (C : Addr) (cl : List (Str × Addr)) (fp : List Addr), STg (X.blk s H scope (compEnvC scope cl C X.env) fp) tg (own.map (·.2)) tgt)
    (he : ∀ (s : Shared) (H : Hp) (C : Addr) (cl : List (Str × Addr)) (fp : List Addr), NEx (X.blk s H scope (compEnvC scope cl C X.env) fp) W0 elt fn)
    (hsw : swapsWith (.ListComp elt [⟨tg, iter, [], 0⟩] scope pos) (some (.Name y py)) spos.line X.env = pure true) (hyl : X.env.scope.names.lookup y = some .local := by rfl) (hy : X.N[i]? = some y := by rfl) (hs : ∀ x, foldedSetIterable iter X.env x = pure x := by intro _; rfl) :
    SSt X W (.Assign [.Name y py] (.ListComp elt [⟨tg, iter, [], 0⟩] scope pos) spos) (sTab i (own.map (·.2)) fi tgt fn) := by
  refine ⟨ps_weak (ps_setLc (g := tG X (List.map (fun (x : Str × Nat) => x.2) own) tgt) (tt := tTe X W0 tsY) (te := tNE X W0 fn) hc hN hy hyl hsw hi.pi ok (fun s H C cl fp => (hg s H C cl fp).pg) (fun s H C cl fp => (sts_nil).pt) (fun s H C cl fp => (he s H C cl fp).pe) hs) fun D σ H h => tab_core h⟩
/-! ### reading -/
theorem rowAt_some {m : Mem} {x k : PV} {i j : Nat} {rows : List (List DI.D)} (h : rowAt m x k = some (i, j, rows)) : x = .obj i ∧ k = .d (.int (j : Int)) ∧ m[i]? = some (.l2 rows) ∧ j < rows.length := by
  unfold rowAt at h
  match x, k, h with
  | .obj i', .d (.int k'), h =>
    dsimp only at h
    cases hm : m[i']? with
    | none => rw [hm] at h; cases h
    | some o =>
      rw [hm] at h
      cases o with
      | l2 rs =>
        dsimp only at h
        by_cases hb : 0 ≤ k' ∧ k' < rs.length
        · rw [if_pos hb] at h
          cases h
          exact ⟨rfl, by rw [Int.toNat_of_nonneg hb.1], hm, by omega⟩
        · rw [if_neg hb] at h; cases h
      | _ => cases h
  | .obj _, .d .non, h => cases h
  | .obj _, .d (.bl _), h => cases h
  | .obj _, .d (.str _), h => cases h
  | .obj _, .d (.tup _), h => cases h
  | .obj _, .d (.lst _), h => cases h
  | .obj _, .d (.dct _ _), h => cases h
  | .obj _, .d (.ins _ _ _), h => cases h
  | .obj _, .obj _, h => cases h
  | .obj _, .raw _, h => cases h
  | .d _, _, h => cases h
  | .raw _, _, h => cases h
theorem intOf_some {x : PV} {l : Int} (h : intOf x = some l) : x = .d (.int l) := by
  unfold intOf at h
  match x, h with
  | .d (.int _), h => cases h; rfl
  | .d .non, h => cases h
  | .d (.bl _), h => cases h
  | .d (.str _), h => cases h
  | .d (.tup _), h => cases h
  | .d (.lst _), h => cases h
  | .d (.dct _ _), h => cases h
  | .d (.ins _ _ _), h => cases h
  | .obj _, h => cases h
  | .raw _, h => cases h
theorem datOf_some {x : PV} {d : DI.D} (h : datOf x = some d) : x = .d d := by
  unfold datOf at h
  match x, h with
  | .d _, h => cases h; rfl
  | .obj _, h => cases h
  | .raw _, h => cases h
theorem atI_nat {α : Type} {xs : List α} {j : Nat} {v : α} (h : xs[j]? = some v) : atI xs (j : Int) = some v := by
  unfold atI
  have hl : j < xs.length := (List.getElem?_eq_some_iff.mp h).1
  have : ixN xs.length (j : Int) = some j := by
    unfold ixN
    rw [if_pos (by omega), if_pos (by omega)]
    simp
  rw [this]
  exact h
/-- a row of a table read -/
theorem GR.row {K : Kx} (g : GR K G ι m H) {i j : Nat} {q : Addr} {l : List Addr} {rows : List (List DI.D)} (hi : ι[i]? = some (q :: l)) (hm : m[i]? = some (.l2 rows)) (hj : j < rows.length) :
    ∃ b vs, H q = some (.lst (l.map V.ref)) ∧ l[j]? = some b ∧ H b = some (.lst vs) ∧ RepAll K G vs (rows[j]'hj) := by
  obtain ⟨a, as, ea, g0, h0, pr⟩ := g.obj i _ _ hi hm
  cases ea
  obtain ⟨b, hb, _, vs, h1, h2⟩ := paired_ix pr (List.getElem?_eq_getElem hj)
  exact ⟨b, vs, h0, hb, h1, h2⟩

/-- a[k][l] -/
theorem se_ix2 {pos2 : Pos} (ha : SEx X W a fa) (hb : SEx X W b f1) (hc : SEx X W c f2) (hs : PlainIx b := by exact fun _ _ => rfl) (hs2 : PlainIx c := by exact fun _ _ => rfl) : SEx X W (.Subscript (.Subscript a b pos) c pos2) (eIx2 fa f1 f2) := by
  refine ⟨pe_weak (pe_ix ix_seq (pe_ix ix_seq ha.pe hb.pe hs) hc.pe hs2) fun σ H Q ⟨G, ι, ρ, m, g, ev, p⟩ => ?_⟩
  unfold eIx2 at p
  refine tE_mono (post_tE g ev p) fun v H1 ⟨G1, ι1, m1, x, x1, g1, ev1, r1, p1⟩ => ?_
  refine tE_mono (post_tE g1 ev1 p1) fun u H2 ⟨G2, ι2, m2, k, x2, g2, ev2, r2, p2⟩ => ?_
  cases h1 : rowAt m2 x k with
  | none => rw [h1] at p2; exact p2.elim
  | some t =>
    rw [h1] at p2
    dsimp only at p2
    obtain ⟨i, j, rows⟩ := t
    obtain ⟨rfl, rfl, hm2, hj⟩ := rowAt_some h1
    obtain ⟨q, l, hi, rfl⟩ := r1
    cases r2
    have hi2 := x2.get hi
    obtain ⟨b', ws, hq, hb', _, _⟩ := g2.row hi2 hm2 hj
    refine .inl ⟨q, l.map V.ref, _, .ref b', rfl, rfl, SqL.of hq, atI_nat (by rw [List.getElem?_map, hb']; rfl), ?_⟩
    refine tE_mono (post_tE g2 ev2 p2) fun z H3 ⟨G3, ι3, m3, y, x3, g3, ev3, r3, p3⟩ => ?_
    cases h2 : rowAt m3 (.obj i) (.d (.int (j : Int))) with
    | none => rw [h2] at p3; exact p3.elim
    | some t =>
      rw [h2] at p3
      obtain ⟨i', j', rows'⟩ := t
      obtain ⟨e1, e2, hm3, hj'⟩ := rowAt_some h2
      cases e1
      have ej : j = j' := by injection e2 with e2; injection e2 with e2; omega
      subst ej
      cases h3 : intOf y with
      | none => rw [h3] at p3; exact p3.elim
      | some n =>
        rw [h3] at p3
        have := intOf_some h3
        subst this
        cases r3
        dsimp only at p3
        rw [List.getElem?_eq_getElem hj'] at p3
        have p4 : PostE X W G3 ι3 H3 (match (if 0 ≤ n then rows'[j][n.toNat]? else none) with
          | some d => .ok (.d d) m3
          | none => .no) Q := p3
        by_cases hn : 0 ≤ n
        · rw [if_pos hn] at p4
          cases hd : rows'[j][n.toNat]? with
          | none => rw [hd] at p4; exact p4.elim
          | some d =>
            rw [hd] at p4
            obtain ⟨b2, vs, _, hb2, hv, rr⟩ := g3.row (x3.get hi2) hm3 hj'
            rw [hb'] at hb2
            cases hb2
            obtain ⟨w, hw, rw'⟩ := RepAll.get rr hd
            refine .inl ⟨b', vs, n, w, rfl, rfl, SqL.of hv, ?_, p4 w G3 ι3 H3 (Ext.refl ..) g3 rw'⟩
            have := atI_nat hw
            rw [Int.toNat_of_nonneg hn] at this
            exact this
        · rw [if_neg hn] at p4; exact p4.elim
/-- a[k][l] = e -/
theorem ss_set2 {pos2 spos : Pos} (ha : SEx X W a fa) (hb : SEx X W b f1) (hc : SEx X W c f2) (he : SEx X W e fe) (hs : PlainIx b := by exact fun _ _ => rfl) (hsw : swapsWithSole [.Subscript (.Subscript a b pos2) c spos] e pos.line X.env = pure false := by rfl) (hw : swappedStores [.Subscript (.Subscript a b pos2) c spos] e X.env = pure none := by rfl)
    (h1 : (assignEach [.Subscript (.Subscript a b pos2) c spos] X.env).map (·.2) = [assign (.Subscript (.Subscript a b pos2) c spos) X.env] := by rfl)
    (has : ∀ v, assign (.Subscript (.Subscript a b pos2) c spos) X.env v = (do
      let ov ← holding [v] (eval (.Subscript a b pos2) X.env)
      let iv ← holding [v, ov] (eval c X.env)
      standAt spos
      holding [v, ov, iv] (setItem ov iv v)
      release [v, ov, iv] []) := by intro _; rfl) : SSt X W (.Assign [.Subscript (.Subscript a b pos2) c spos] e pos) (sSet2 fa f1 f2 fe) := by
  refine ⟨ps_weak (ps_asg he.pe (pg_sub (pe_ix ix_seq ha.pe hb.pe hs) hc.pe set_list has) hsw hw h1) fun D σ H ⟨G, ι, ρ, m, g, ev, p⟩ => ?_⟩
  unfold sSet2 at p
  refine tE_mono (run_e (Q := True) g ev p) fun u H0 ⟨G0, ι0, m0, yv, x0, g0, ev0, r0, p0⟩ => ?_
  refine tE_mono (run_e (Q := True) g0 ev0 p0) fun v H1 ⟨G1, ι1, m1, x, x1, g1, ev1, r1, p1⟩ => ?_
  refine tE_mono (run_e (Q := True) g1 ev1 p1) fun kk H2 ⟨G2, ι2, m2, k, x2, g2, ev2, r2, p2⟩ => ?_
  cases h1 : rowAt m2 x k with
  | none => rw [h1] at p2; exact p2.elim
  | some t =>
    rw [h1] at p2
    dsimp only at p2
    obtain ⟨i, j, rows⟩ := t
    obtain ⟨rfl, rfl, hm2, hj⟩ := rowAt_some h1
    obtain ⟨q, l, hi, rfl⟩ := r1
    cases r2
    have hi2 := x2.get hi
    obtain ⟨b', ws, hq, hb', _, _⟩ := g2.row hi2 hm2 hj
    refine .inl ⟨q, l.map V.ref, _, .ref b', rfl, rfl, SqL.of hq, atI_nat (by rw [List.getElem?_map, hb']; rfl), ?_⟩
    refine tE_mono (run_e (Q := True) g2 ev2 p2) fun z H3 ⟨G3, ι3, m3, y, x3, g3, ev3, r3, p3⟩ => ?_
    cases h2 : rowAt m3 (.obj i) (.d (.int (j : Int))) with
    | none => rw [h2] at p3; exact p3.elim
    | some t =>
      rw [h2] at p3
      obtain ⟨i', j', rows'⟩ := t
      obtain ⟨e1, e2, hm3, hj'⟩ := rowAt_some h2
      cases e1
      have ej : j = j' := by injection e2 with e2; injection e2 with e2; omega
      subst ej
      cases h3 : intOf y with
      | none => rw [h3] at p3; exact p3.elim
      | some n =>
        rw [h3] at p3
        have := intOf_some h3
        subst this
        cases r3
        cases h4 : datOf yv with
        | none => rw [h4] at p3; exact p3.elim
        | some d =>
          rw [h4] at p3
          have := datOf_some h4
          subst this
          dsimp only at p3
          rw [List.getElem?_eq_getElem hj'] at p3
          dsimp only at p3
          by_cases hn : 0 ≤ n ∧ n < rows'[j].length
          · rw [if_pos hn] at p3
            have hi3 := x3.get hi2
            obtain ⟨b2, vs, _, hb2, hv, rr⟩ := g3.row hi3 hm3 hj'
            rw [hb'] at hb2
            cases hb2
            have rd : Rep X.kx G3 u d := Rep.mono (x1.sub.trans (x2.sub.trans x3.sub)) r0
            obtain ⟨g4, e4⟩ := g3.write2 hi3 hm3 hb' (rr.set rd n.toNat)
            refine ⟨b', vs, n, n.toNat, rfl, rfl, hv, ?_, p3 σ _ _ _ e4 g4 (ev3.ext e4)⟩
            unfold ixN
            rw [if_pos hn.1, if_pos (by rw [rr.length]; exact hn.2)]
          · rw [if_neg hn] at p3; exact p3.elim
theorem ss_fz2 (s : Nat) {k : SS} (h : SSs X W sts k) : SSs X W sts (sFz2 s k) := by
  refine ⟨pss_weak h.pss fun D σ H ⟨G, ι, ρ, m, g, ev, p⟩ => ?_⟩
  unfold sFz2 at p
  cases h1 : ρ[s]? with
  | none => rw [h1] at p; exact p.elim
  | some o =>
    match o, h1 with
    | none, h1 => rw [h1] at p; exact p.elim
    | some (.d _), h1 => rw [h1] at p; exact p.elim
    | some (.raw _), h1 => rw [h1] at p; exact p.elim
    | some (.obj i), h1 =>
      rw [h1] at p
      dsimp only at p
      cases hm : m[i]? with
      | none => rw [hm] at p; exact p.elim
      | some o =>
        rw [hm] at p
        cases o with
        | l2 xs =>
          obtain ⟨v, hv, q, l, hi, rfl⟩ := ev.2 s _ h1
          obtain ⟨G', g2, e2, r2⟩ := g.freeze2 hi hm
          have ev2 := (ev.ext e2).set (x := .d (.lst (xs.map .lst))) r2 s
          have hσ : σ.set s (some (.ref q)) = σ := by
            apply List.ext_getElem?
            intro j
            by_cases hj : s = j
            · subst hj
              rw [List.getElem?_set_self (List.getElem?_eq_some_iff.mp hv).1, hv]
            · rw [List.getElem?_set_ne hj]
          rw [hσ] at ev2
          exact ⟨_, ι, _, _, g2, ev2, PostS.ext e2 p⟩
        | _ => exact p.elim
end
end DI
namespace DI
open PySem PySem.Spec PyProof.Rows L2
/-! ### keyword-only facts, and what else the fates laws want -/
theorem intOf0_some {x : PV} {l : Int} (h : intOf0 x = some l) : x = .d (.int l) := intOf_some (by unfold intOf0 at h; unfold intOf; exact h)
/-- a def with the keyword-only facts=() at A -/
structure FnK (P : Program) (w : World) (K : Kx) (base : Heap) (k : Nat) (x : Str) (n : Nat) (F : Fn) (A : Addr) : Prop where
  ex : ∃ f fd ps ds mv, K.mg x = some (.ref f) ∧ PySem.W.keepIn K.K (.ref f) = true ∧ Binds K.K fd ps ds ∧ Vals [V.ref A] ds ∧
    KBn K.K fd ps n ["facts"] (fun us ws => us ++ (mv ++ ws)) (fun vs zs => vs ++ zs) ∧ FnOk P w K.K K.mg base (L2N.CX P w) k f fd ps (spF K (n + 1) F)
theorem FnK.mono {P : Program} {w : World} {K : Kx} {base : Heap} {j k n : Nat} {x : Str} {F : Fn} {A : Addr} (h : FnK P w K base j x n F A) (hk : j ≤ k) : FnK P w K base k x n F A := by
  obtain ⟨f, fd, ps, ds, mv, h1, h2, h3, h4, h5, h6⟩ := h.ex
  exact ⟨f, fd, ps, ds, mv, h1, h2, h3, h4, h5, h6.mono hk⟩
section
variable {X : Cx} {W : XK} {a b c e elt tg iter : Expr} {es rest ifs : List Expr} {fa fb fc f fe fk fv : SE} {na nb : NE} {fi : IE} {tgt : Tg} {fs : List SE} {pos p kp : Pos} {G H : Hp} {ι : Io} {ρ : Env} {m : Mem} {σ : L2.St}
theorem eArgs_app (l : List SE) (f : SE) : ∀ (ρ : Env) (m : Mem), eArgs (l ++ [f]) ρ m = (eArgs l ρ m).bind fun xs m => (f ρ m).bind fun y m => .ok (xs ++ [y]) m := by
  induction l with
  | nil =>
    intro ρ m
    show ((f ρ m).bind fun x m => (eArgs [] ρ m).bind fun xs m => .ok (x :: xs) m) = (f ρ m).bind fun y m => .ok [y] m
    cases f ρ m <;> rfl
  | cons q r ih =>
    intro ρ m
    show ((q ρ m).bind fun x m => (eArgs (r ++ [f]) ρ m).bind fun xs m => .ok (x :: xs) m) = ((q ρ m).bind fun x m => (eArgs r ρ m).bind fun xs m => .ok (x :: xs) m).bind _
    cases q ρ m with
    | no => rfl
    | ex _ _ => rfl
    | ok x m1 =>
      dsimp only [Res.bind]
      rw [ih ρ m1]
      cases eArgs r ρ m1 with
      | no => rfl
      | ex _ _ => rfl
      | ok xs m2 =>
        dsimp only [Res.bind]
        cases f ρ m2 <;> rfl
/-- f(e, ..), facts left out -/
theorem se_callD [Nil0] {x : Str} {xn : String} {k n : Nat} {F : Fn} (hF : FnK X.prog X.w X.kx X.base k x n F (Nil0.adr xn)) (tk : Tk X W) (hr : Room k X.A) (ha : SAr X W (e :: es) fs) (hn : fs.length = n := by rfl) (hg : Gl X x := by rfl) (hdb : (x == ("__debug__" : Str)) = false := by decide +kernel)
    (he : starEach (e :: es) X.env = (false, eval e X.env) :: starEach es X.env := by rfl) (hpl : (backTo pos (starEach es X.env)).any (·.1) = false := by rfl) :
    SEx X W (.Call (.Name x p) (e :: es) [] pos) (eCall F (fs ++ [eDf xn])) := by
  obtain ⟨f, fd, ps, ds, mv, h1, h2, h3, h4, h5, h6⟩ := hF.ex
  refine ⟨pe_weak (pe_call (E := W) h6 hr hg h1 h2 h3 h4 (L2N.passes_call tk fun _ _ _ _ h => h) ha.pa hdb he hpl) fun σ H Q ⟨G, ι, ρ, m, g, ev, p⟩ => ?_⟩
  rw [postE_G] at p
  have p' : PostG X (fun G ι => RepV X.kx G ι) W G ι H ((eArgs (fs ++ [eDf xn]) ρ m).bind fun xs m => F xs m) Q := p
  rw [eArgs_app] at p'
  have p'' : PostG X (fun G ι => RepV X.kx G ι) W G ι H ((eArgs fs ρ m).bind fun xs m => F (xs ++ [.raw (Nil0.adr xn)]) m) Q := by
    cases hr : eArgs fs ρ m with
    | no => rw [hr] at p'; exact p'
    | ex _ _ => rw [hr] at p'; exact p'
    | ok xs m1 => rw [hr] at p'; exact p'
  refine tA_mono (step_a g ev p'') fun vs H1 ⟨G1, ι1, m1, xs, x1, g1, ev1, r1, hx, p1⟩ => ?_
  show spF X.kx (n + 1) F (vs ++ [.ref (Nil0.adr xn)]) H1 Q W
  exact ⟨G1, ι1, m1, xs ++ [.raw (Nil0.adr xn)], by rw [← hn, List.length_append, eArgs_len fs ρ m _ xs hx]; rfl, g1, Paired.snoc r1 (show RepV X.kx G1 ι1 (.ref (Nil0.adr xn)) (.raw (Nil0.adr xn)) from rfl), postE_G.mpr p1⟩
/-- f(e, .., facts=v) -/
theorem se_callK {x : Str} {k n : Nat} {F : Fn} {A : Addr} (hF : FnK X.prog X.w X.kx X.base k x n F A) (tk : Tk X W) (hr : Room k X.A) (ha : SAr X W (e :: es) fs) (hv : SEx X W a fv) (hn : fs.length = n := by rfl) (hg : Gl X x := by rfl) (hdb : (x == ("__debug__" : Str)) = false := by decide +kernel)
    (he : starEach (e :: es) X.env = (false, eval e X.env) :: starEach es X.env := by rfl)
    (hall : (backToKw pos (keywordEach [⟨some "facts", a, kp⟩] X.env)).all (·.1.isSome) = true := by rfl) (hks : (backToKw pos (keywordEach [⟨some "facts", a, kp⟩] X.env)).filterMap (·.1) = [("facts" : Str)] := by rfl)
    (hpl : ((backTo pos (starEach (e :: es) X.env)).any (·.1) || (backToKw pos (keywordEach [⟨some "facts", a, kp⟩] X.env)).any (·.1.isNone)) = false := by rfl) :
    SEx X W (.Call (.Name x p) (e :: es) [⟨some "facts", a, kp⟩] pos) (eCall F (fs ++ [fv])) := by
  obtain ⟨f, fd, ps, ds, mv, h1, h2, h3, h4, h5, h6⟩ := hF.ex
  refine ⟨pe_weak (pe_callN (E := W) h6 hr hg h1 h2 h5 (L2N.passes_call tk fun _ _ _ _ h => h) ha.pa (pk_cons hv.pe pk_nil) hall hks hdb he hpl) fun σ H Q ⟨G, ι, ρ, m, g, ev, p⟩ => ?_⟩
  rw [postE_G] at p
  have p' : PostG X (fun G ι => RepV X.kx G ι) W G ι H ((eArgs (fs ++ [fv]) ρ m).bind fun xs m => F xs m) Q := p
  rw [eArgs_app] at p'
  have p'' : PostG X (fun G ι => RepV X.kx G ι) W G ι H ((eArgs fs ρ m).bind fun xs m => (fv ρ m).bind fun y m => F (xs ++ [y]) m) Q := by
    cases hr : eArgs fs ρ m with
    | no => rw [hr] at p'; exact p'
    | ex _ _ => rw [hr] at p'; exact p'
    | ok xs m1 =>
      rw [hr] at p'
      dsimp only [Res.bind] at p' ⊢
      cases hq : fv ρ m1 with
      | no => rw [hq] at p'; exact p'
      | ex _ _ => rw [hq] at p'; exact p'
      | ok y m2 => rw [hq] at p'; exact p'
  refine tA_mono (step_a g ev p'') fun vs H1 ⟨G1, ι1, m1, xs, x1, g1, ev1, r1, hx, p1⟩ => ?_
  refine tE_mono (step_e g1 ev1 p1) fun v H2 ⟨G2, ι2, m2, y, x2, g2, ev2, r2, _, p2⟩ => ?_
  have hl := eArgs_len fs ρ m _ xs hx
  refine ⟨by rw [paired_len r1, hl, hn], rfl, ?_⟩
  exact ⟨G2, ι2, m2, xs ++ [y], by rw [← hn, List.length_append, hl]; rfl, g2, Paired.snoc (r1.mono fun _ _ r => r.ext x2) r2, postE_G.mpr p2⟩
/-- [..] if c else [..] -/
theorem ne_if (hc : STe X W c fc) (ha : NEx X W a na) (hb : NEx X W b nb) : NEx X W (.IfExp c a b pos) (nIf fc na nb) := by
  refine ⟨pe_weak (pe_ifExp hc.pt ha.pe hb.pe) fun σ H Q ⟨G, ι, ρ, m, g, ev, p⟩ => ?_⟩
  unfold nIf at p
  cases hr : fc ρ m with
  | no => rw [hr] at p; exact p.elim
  | ex x m1 =>
    rw [hr] at p
    refine ⟨G, ι, ρ, m, g, ev, ?_⟩
    rw [hr]
    exact ⟨fun x m' hx => (by cases hx), p⟩
  | ok x m1 =>
    rw [hr, Res.bind_ok] at p
    have key : ∃ t, x = .d (.bl t) := by
      match x, p with
      | .d (.bl t), _ => exact ⟨t, rfl⟩
      | .d .non, p => exact p.elim
      | .d (.int _), p => exact p.elim
      | .d (.str _), p => exact p.elim
      | .d (.tup _), p => exact p.elim
      | .d (.lst _), p => exact p.elim
      | .d (.dct _ _), p => exact p.elim
      | .d (.ins _ _ _), p => exact p.elim
      | .obj _, p => exact p.elim
      | .raw _, p => exact p.elim
    obtain ⟨t, rfl⟩ := key
    refine ⟨G, ι, ρ, m, g, ev, ?_⟩
    rw [hr]
    refine ⟨fun x m' hx => by cases hx; exact ⟨t, rfl⟩, ?_⟩
    intro bb G1 ι1 H1 x1 g1 hb
    cases (show PV.d (.bl t) = .d (.bl bb) from hb)
    have up : ∀ {n : NE}, (match n ρ m1 with
      | .ok xs m' => ∀ q vs G' ι' H', Ext G ι H G' ι' H' → GR X.kx G' ι' m' H' → H' q = none → RepAll X.kx G' vs xs → Q (.ref q) (upd H' q (.lst vs))
      | .ex e m' => ∀ c dx G' ι' H', Ext G ι H G' ι' H' → GR X.kx G' ι' m' H' → ExR X.kx G' H' e c dx → W c dx H'
      | .no => False) → tNE X W n σ H1 Q := by
      intro n h
      refine ⟨G1, ι1, ρ, m1, g1, ev.ext x1, ?_⟩
      cases hn : n ρ m1 with
      | no => rw [hn] at h; exact h
      | ex e m2 => rw [hn] at h; exact fun c dx G' ι' H' x2 g' r => h c dx G' ι' H' (x1.trans x2) g' r
      | ok xs m2 => rw [hn] at h; exact fun q vs G' ι' H' x2 g' hq r => h q vs G' ι' H' (x1.trans x2) g' hq r
    cases t with
    | true => exact up p
    | false => exact up p
/-- [..] * n -/
theorem ne_mul (ha : NEx X W a na) (hb : SEx X W b fb) : NEx X W (.BinOp a .Mult b pos) (nMul na fb) := by
  refine ⟨pe_weak (pe_op op_rep ha.pe hb.pe) fun σ H Q ⟨G, ι, ρ, m, g, ev, p⟩ => ?_⟩
  refine ⟨G, ι, ρ, m, g, ev, ?_⟩
  unfold nMul at p
  cases hr : na ρ m with
  | no => rw [hr] at p; exact p.elim
  | ex e m1 => rw [hr] at p; exact p
  | ok xs m1 =>
    rw [hr, Res.bind_ok] at p
    intro q vs G' ι' H' x1 g1 hq r
    obtain ⟨g2, x2⟩ := g1.lay hq (.lst vs)
    refine ⟨_, ι', ρ, m1, g2, (ev.ext x1).ext x2, ?_⟩
    cases hb' : fb ρ m1 with
    | no => rw [hb'] at p; exact p.elim
    | ex e m2 => rw [hb'] at p; exact fun c dx G3 ι3 H3 x3 g3 r3 => p c dx G3 ι3 H3 ((x1.trans x2).trans x3) g3 r3
    | ok y m2 =>
      rw [hb', Res.bind_ok] at p
      intro u G3 ι3 H3 x3 g3 r3
      have hH : H3 q = some (.lst vs) := g3.sub _ _ (x3.sub _ _ upd_same)
      have rr : RepAll X.kx G3 vs xs := RepAll.mono (x2.sub.trans x3.sub) r
      cases y with
      | obj i => exact p.elim
      | raw i => exact p.elim
      | d y =>
        cases y with
        | int k =>
          dsimp only at p
          by_cases hk : -1000000 ≤ k ∧ k ≤ 1000000 ∧ xs.length * k.toNat ≤ lineL
          · rw [if_pos hk] at p
            cases r3
            refine ⟨q, k, vs, rfl, rfl, hH, by omega, by omega, by rw [rr.length, ← lineL_eq]; exact hk.2.2, fun pp hp => p pp _ G3 ι3 H3 ((x1.trans x2).trans x3) g3 hp (rr.rep k.toNat)⟩
          · rw [if_neg hk] at p; exact p.elim
        | _ => exact p.elim
/-- range(a, b, -1) -/
theorem walkD_dn {K : Kx} (lo hi : Int) : WalkD K G (Itc lo (-1) (lo - hi).toNat) (rngDn lo hi) where
  goes := fun i G' ι m H h _ g => by show i < _; simpa [rngDn] using h
  stops := fun G' ι m H _ g => by show _ ≤ _; simp [rngDn]
  yields := fun i G' ι m H v H' h _ g y => by
    obtain ⟨rfl, rfl⟩ := y
    have h' : i < (lo - hi).toNat := by simpa [rngDn] using h
    refine ⟨G', .int (lo - i), by simp [rngDn, h'], Ext.refl .., g, ?_⟩
    have : lo + (i : Int) * (-1) = lo - i := by omega
    rw [this]
    exact .int _
theorem si_rangeDn {tg : Expr} (hm : X.mg "range" = none) (h : SEx X W a fa) (h' : SEx X W b fb) (h'' : SEx X W c fc) (hg : Gl X "range" := by rfl) (hs : starEach [a, b, c] X.env = (false, eval a X.env) :: starEach [b, c] X.env := by rfl) (hs2 : starEach [b, c] X.env = (false, eval b X.env) :: starEach [c] X.env := by rfl)
    (hs3 : starEach [c] X.env = (false, eval c X.env) :: starEach [] X.env := by rfl) (hpl : (backTo pos (starEach [b, c] X.env)).any (·.1) = false := by rfl) : SIx X W tg (.Call (.Name "range" p) [a, b, c] [] pos) (iRngDn fa fb fc) := by
  refine ⟨pi_weak (pi_range3 hg hm (pa_cons h.pe (pa_cons h'.pe (pa_cons h''.pe pa_nil hs3) hs2) hs) hs hpl) fun σ H R ⟨G, ι, ρ, m, g, ev, p⟩ => ?_⟩
  have p' : PostG X (fun G _ J xs => WalkD X.kx G J xs) W G ι H ((fa ρ m).bind fun x m => (fb ρ m).bind fun y m => (fc ρ m).bind fun z m => match intOf0 x, intOf0 y, intOf0 z with
    | some i, some j, some k => if k = -1 ∧ fits62 i = true ∧ fits62 j = true then .ok (rngDn i j) m else .no
    | _, _, _ => .no) R := p
  refine tE_mono (step_e g ev p') fun v H1 ⟨G1, ι1, m1, x, x1, g1, ev1, r1, _, p1⟩ => ?_
  refine tE_mono (step_e g1 ev1 p1) fun u H2 ⟨G2, ι2, m2, y, x2, g2, ev2, r2, _, p2⟩ => ?_
  refine tE_mono (step_e g2 ev2 p2) fun t H3 ⟨G3, ι3, m3, z, x3, g3, ev3, r3, _, p3⟩ => ?_
  cases hx : intOf0 x with
  | none => rw [hx] at p3; exact p3.elim
  | some i =>
    cases hy : intOf0 y with
    | none => rw [hx, hy] at p3; exact p3.elim
    | some j =>
      cases hz : intOf0 z with
      | none => rw [hx, hy, hz] at p3; exact p3.elim
      | some k =>
        rw [hx, hy, hz] at p3
        dsimp only at p3
        by_cases hk : k = -1 ∧ fits62 i = true ∧ fits62 j = true
        · rw [if_pos hk] at p3
          obtain ⟨rfl, hi, hj⟩ := hk
          have := intOf0_some hx; subst this
          have := intOf0_some hy; subst this
          have := intOf0_some hz; subst this
          cases r1; cases r2; cases r3
          exact ⟨i, j, -1, _, rfl, RgC.neg (fits62_of hi).1 (fits62_of hi).2 (fits62_of hj).1 (fits62_of hj).2, p3 _ G3 ι3 H3 (Ext.refl ..) g3 (walkD_dn i j)⟩
        · rw [if_neg hk] at p3; exact p3.elim
end
theorem fnK_mk {P : Program} {w : World} {K : Kx} {base : Heap} {k n : Nat} {x : Str} {F : Fn} {A D f : Addr} {st : Stmt} {oc : Value} {od an : Option Addr} {sl : Array (Option Value)} {dc pm cd ct : Value} {ps : List Str}
    (hm : K.mg x = some (.ref f)) (hk : PySem.W.keepIn K.K (.ref f) = true) (lk : K.K.lookup f = some ⟨oc, od, .func (PySem.W.fnOf x x (defArgs st) (defBody st) (defScope st) .none (.ref D) dc pm an cd ct), sl⟩) (hcd : PySem.W.codeIn K.K cd x = true)
    (hD : PySem.W.nsIn K.K D "facts" = some (some (.ref A))) (hps : n + 1 = ps.length)
    (h : ∀ (D : Addr) (doc pm : Value) (an : Option Addr) (cdv ct : Value) (us : List Value) (u : Value), us.length = n → KwChain D [("facts", u)] (bindArgs (PySem.W.fnOf x x (defArgs st) (defBody st) (defScope st) .none (.ref D) doc pm an cdv ct) ⟨us, []⟩) (ps.zip (us ++ [u])))
    (h' : ∀ (D : Addr) (doc pm : Value) (an : Option Addr) (cdv ct : Value) (us : List Value) (u : Value), us.length = n → bindArgs (PySem.W.fnOf x x (defArgs st) (defBody st) (defScope st) .none (.ref D) doc pm an cdv ct) ⟨us, [("facts", u)]⟩ = pure (ps.zip (us ++ [u])))
    (ok : FnOk P w K.K K.mg base (L2N.CX P w) k f (PySem.W.fnOf x x (defArgs st) (defBody st) (defScope st) .none (.ref D) dc pm an cd ct) ps (spF K (n + 1) F)) : FnK P w K base k x n F A := by
  have FD : FunD K.K x x (defArgs st) (defBody st) (defScope st) [] [("facts", V.ref A)] f (PySem.W.fnOf x x (defArgs st) (defBody st) (defScope st) .none (.ref D) dc pm an cd ct) :=
    ⟨⟨oc, od, .none, .ref D, dc, pm, an, cd, ct, sl, rfl, lk, hcd, .inl ⟨rfl, rfl⟩, .inr ⟨D, rfl, fun q hq => by
      have : q = (("facts" : Str), V.ref A) := by simpa using hq
      subst this
      exact ⟨_, hD, rfl⟩⟩⟩, hk⟩
  obtain ⟨ds, hv, hb⟩ := FD.binds0 (ps := ps) n (by simp) (by simpa using hps) (fun D doc pm an cdv ct us ks hl hk => by
    match ks, hk with
    | [u], _ => exact h D doc pm an cdv ct us u hl)
  obtain ⟨mv, kb⟩ := FD.kbinds0 (ps := ps) n [("facts" : Str)] [] (fun us mv ws => us ++ (mv ++ ws)) (by simp) (by simp) (fun r1 r2 r3 => r1.append (r2.append r3)) (fun D doc pm an cdv ct us mv ws hl hm hw => by
    match mv, ws, hm, hw with
    | [], [u], _, _ => exact h' D doc pm an cdv ct us u hl)
  exact ⟨f, _, ps, ds, mv, hm, hk, hb, hv, kb, ok⟩
end DI
namespace DI
open PySem PySem.Spec PyProof.Rows L2
theorem walkN {l : PySem.W.OpenLaw} {q : Program} {loose : List Str} {XP : (Str → Option Value) → Heap → Prop} {YP : World → Heap → Prop} {d : DefRec} {K : Params → PySem.W.Frag} {lv : Nat} {T : Addr} {F : Nil0 → Addr → Fn} (qn : String) (hn : l.most = some 63) (hdf : d.params.defaults = []) (hr : Room lv callerA)
    (hY : ∀ (w : World) (h : Heap), YP w h → (K w.params).In h) (hT : ∀ (w : World) (h : Heap), YP w h → ∀ P ∈ [T], h.get? P = some { cls := .none, data := .fields #[] })
    (HF : ∀ (w : World) (mg : Str → Option Value) (fa : Addr) (h : Heap), (K w.params).In h → h.Ns mainGlobals mg → mg d.name = some (.ref fa) →
      ∃ (I : Nil0) (c : Addr) (fd : FuncData), PySem.W.codeHdIn (K w.params) c T = true ∧ (K w.params).lookup T = none ∧ (∀ (s : Shared) (u : Value), BindsTo s fd ⟨[u], []⟩ [("script", u)]) ∧
        ∀ base : Heap, (K w.params).In base → base.Ns mainGlobals mg → LamX.TabB base mg c T → FnOk l.prog w (K w.params) mg base (L2N.CX l.prog w) lv fa fd ["script"] (spF ⟨K w.params, mg⟩ 1 (F I T)))
    (law : ∀ (I : Nil0) (T : Addr) (ns : List Int), ns.length ≤ 63 → ∃ m', F I T [.d (.lst (ns.map .int))] [.tab T qn] = .ok (.d (.bl true)) m') :
    PySem.W.WalkO q loose XP YP l.row.toRowW d [] (fun f vs => PySem.call f vs) :=
  LamX.walk_ofTs (n := 63) (k := lv) (x := "script") (CX := fun w => L2N.CX l.prog w) hn (by decide) hdf hr hY
    (fun w mg fa h Y KX G hmg => by
      obtain ⟨I, c, fd, h1, h2, hb, hF⟩ := HF w mg fa h KX G hmg
      have one : ∀ {φ : Addr × Addr → Prop}, φ (c, T) → ∀ p ∈ [(c, T)], φ p := fun {φ} z p hp => by
        have e : p = (c, T) := by simpa using hp
        rw [e]; exact z
      refine ⟨fd, [(c, T)], fun vs H Q E => ∃ (a : Addr) (ns : List Int), vs = [.ref a] ∧ SqL (K w.params) H a (ns.map V.int) ∧ ns.length ≤ 63 ∧ H T = some (.tbl #[]) ∧ ∀ H', Q (.bl true) H', one (hT w h Y T (by simp)), one h2, one (PySem.W.codeHd_of_K KX h1), hb, fun H a ns hl _ hH hS => ⟨a, ns, rfl, hS, hl, hH (c, T) (by simp), fun _ => rfl⟩, fun base k1 k2 k3 => (hF base k1 k2 (k3 (c, T) (by simp))).imp fun vs H Q E h => ?_⟩
      obtain ⟨a, ns, rfl, hS, hl, hH, k⟩ := h
      obtain ⟨m', e⟩ := law I T ns hl
      -- the script is frozen, the table is ours
      refine ⟨fun b => if b = T then none else H b, [[T]], [.tab T qn], [.d (.lst (ns.map .int))], rfl, ⟨fun b o q => ?_, rfl, by simp, fun i l o hl ho => ?_⟩, .cons (.lst ?_ (repAll_ints ns)) .nil, ?_⟩
      · by_cases z : b = T
        · rw [if_pos z] at q; cases q
        · rw [if_neg z] at q; exact q
      · cases i with
        | succ i => simp at hl
        | zero =>
          simp at hl ho
          subst hl ho
          exact ⟨#[], rfl, if_pos rfl, hH, True.intro, fun pos cv hc => by simp [codeAmong] at hc⟩
      · have hne : a ≠ T ∨ ∃ o its n, (K w.params).lookup a = some o ∧ o.cls = .type "list" ∧ o.dict = none ∧ o.data = .seq its n ∧ its.size ≤ sizeLine ∧ Vals (ns.map V.int) its.toList := by
          rcases hS with (hS | ⟨o, hS⟩) | hS
          · exact .inl fun z => by rw [z, hH] at hS; cases hS
          · exact .inl fun z => by rw [z, hH] at hS; cases hS
          · exact .inr hS
        rcases hne with z | z
        · rcases hS with (hS | ⟨o, hS⟩) | hS
          · exact .inl (.inl ((if_neg z).trans hS))
          · exact .inl (.inr ⟨o, (if_neg z).trans hS⟩)
          · exact .inr hS
        · exact .inr z
      · rw [e]
        intro v G' ι' H' x g r
        cases r
        exact k H')
    fun _ _ _ _ _ z => by
      obtain ⟨_, _, _, _, _, _, _, _, _, _, _, _, h⟩ := z
      exact h
end DI
namespace DI
open PySem PySem.Spec PyProof.Rows L2
/-- a law without lambdas, whose meaning hangs on where the defaults lie -/
theorem walkI {l : PySem.W.OpenLaw} {q : Program} {loose : List Str} {XP : (Str → Option Value) → Heap → Prop} {YP : World → Heap → Prop} {d : DefRec} {K : Params → PySem.W.Frag} {lv : Nat} {F : Nil0 → Fn} (hn : l.most = some 63) (hdf : d.params.defaults = []) (hr : Room lv callerA)
    (hY : ∀ (w : World) (h : Heap), YP w h → (K w.params).In h)
    (HF : ∀ (w : World) (mg : Str → Option Value) (fa : Addr) (h : Heap), (K w.params).In h → h.Ns mainGlobals mg → mg d.name = some (.ref fa) →
      ∃ (I : Nil0) (fd : FuncData), (∀ (s : Shared) (u : Value), BindsTo s fd ⟨[u], []⟩ [("script", u)]) ∧
        ∀ base : Heap, (K w.params).In base → base.Ns mainGlobals mg → FnOk l.prog w (K w.params) mg base (L2N.CX l.prog w) lv fa fd ["script"] (spF ⟨K w.params, mg⟩ 1 (F I)))
    (law : ∀ (I : Nil0) (ns : List Int), ns.length ≤ 63 → ∃ m', F I [.d (.lst (ns.map .int))] [] = .ok (.d (.bl true)) m') :
    PySem.W.WalkO q loose XP YP l.row.toRowW d [] (fun f vs => PySem.call f vs) :=
  L2.walk_of (n := 63) (k := lv) (x := "script") (CX := fun w => L2N.CX l.prog w) (sp := fun w vs H Q E => ∃ (a : Addr) (ns : List Int), vs = [.ref a] ∧ SqL (K w.params) H a (ns.map V.int) ∧ ns.length ≤ 63 ∧ ∀ H', Q (.bl true) H') hn (by decide) hdf hr hY
    (fun w mg fa h KX G hmg => by
      obtain ⟨I, fd, hb, hF⟩ := HF w mg fa h KX G hmg
      refine ⟨fd, hb, fun base k1 k2 => (hF base k1 k2).imp fun vs H Q E h => ?_⟩
      obtain ⟨a, ns, rfl, hS, hl, k⟩ := h
      obtain ⟨m', e⟩ := law I ns hl
      refine ⟨H, [], [], [.d (.lst (ns.map .int))], rfl, ⟨Sub.refl H, rfl, by simp, fun i l o h => by simp at h⟩, .cons (.lst hS (repAll_ints ns)) .nil, ?_⟩
      rw [e]
      intro v G' ι' H' x g r
      cases r
      exact k H')
    (fun _ _ a ns hl _ hS => ⟨a, ns, rfl, hS, hl, fun _ => rfl⟩) fun _ _ _ _ _ z => by
      obtain ⟨_, _, _, _, _, _, _, _, _, _, _, _, h⟩ := z
      exact h
end DI
namespace DI
open PySem PySem.Spec PyProof.Rows L2
section
variable {prog : Program} {w : World} {A : Around} {E : Value → Shared → Prop} {s : Shared} {l : Addr} {its : List Value} {ns : List Int} {Q : Value → Shared → Prop}
theorem max_intTup {xs : Array (Int × Tok)} (hh : A.handled = none) (hl : s.heap.IsTuple l (intItems xs)) (hne : 0 < xs.size)
    (h : ∀ v h' tk, (intItems xs)[argBest (fun i j => decide (numAt xs i > numAt xs j)) (xs.size - 1)]? = some v → (∀ b o, s.heap.get? b = some o → h'.get? b = some o) → Q v { s with heap := h', toks := tk }) :
    wpAny (model prog w) A (call (.builtin "max") [.ref l]) Q E s := by
  have hlt : l < s.heap.objs.size := by obtain ⟨_, e, _⟩ := hl; exact Heap.lt_size e
  refine call_max_walk (wpAny_pyIter_tuple hl ?_)
  refine ⟨_, [_, l], [_], _, _, _, _, rfl, Walks.tuple (A := A.in1) hh _ l (Nat.ne_of_lt hlt) (intItems xs), ⟨⟨_, Heap.get?_push_size _ rfl, rfl, rfl⟩, hl.push _⟩, fun b hb => ?_, by simpa [intItems] using hne, CmpOf.ints_gt (numAt xs) (fun _ _ => intItems_at), fun v h' tk hP hk => ?_⟩
  · show b < (s.heap.push _).objs.size
    rw [Heap.size_push]
    rcases List.mem_cons.mp hb with rfl | hb
    · exact Nat.lt_succ_self _
    · rcases List.mem_cons.mp hb with rfl | hb
      · exact Nat.lt_succ_of_lt hlt
      · cases hb
  · refine h v h' tk (by simpa [intItems] using hP) fun b o e => ?_
    refine hk b o (fun hm => ?_) (Heap.get?_push_of_some _ e)
    rcases List.mem_cons.mp hm with e1 | hm
    · exact absurd (e1 ▸ Heap.lt_size e) (Nat.lt_irrefl _)
    · cases hm
theorem maxT_raw (hh : A.handled = none) (hl : s.heap.IsTuple l its.toArray) (hi : IntsAre its ns) (hne : 0 < ns.length)
    (h : ∀ h' tk M t', (∀ b o, s.heap.get? b = some o → h'.get? b = some o) → M ∈ ns → (∀ a, a ∈ ns → a ≤ M) → Q (.int M t') { s with heap := h', toks := tk }) : wpAny (model prog w) A (call (.builtin "max") [.ref l]) Q E s := by
  obtain ⟨xs, e⟩ := hi.allInts.items
  have hn : numsOf (intItems xs).toList = ns := by rw [← e]; exact hi.numsOf
  rw [nums_intItems] at hn
  subst hn
  rw [e] at hl
  have hsz : 0 < xs.size := by simpa using hne
  refine max_intTup hh hl hsz fun v h' tk hv hk => ?_
  obtain ⟨t, rfl⟩ := intItems_at hv
  obtain ⟨h1, h2⟩ := argBest_gt (numAt xs) (xs.size - 1)
  refine h h' tk _ t hk ?_ fun a ha => ?_
  · rw [numAt_eq]; exact PySem.getD_mem (by rw [List.length_map, Array.length_toList]; omega)
  · obtain ⟨j, hj, rfl⟩ := mem_getD ha
    rw [List.length_map, Array.length_toList] at hj
    rw [← numAt_eq]; exact h2 j (by omega)
end
section
variable {X : Cx}
def rMaxT (K : PySem.W.Frag) : List V → Hp → VK → Prop := fun vs H Q => ∃ (a : Addr) (ns : List Int), vs = [V.ref a] ∧ SqT K H a (ns.map V.int) ∧ 0 < ns.length ∧ ∀ m, m ∈ ns → (∀ y, y ∈ ns → y ≤ m) → Q (.int m) H
theorem cr_maxT (hc : X.calm = true) : CallR X (.builtin "max") (rMaxT X.K) := by
  intro pins s σ H vs us Q I r h
  obtain ⟨a, ns, rfl, hs, hne, q⟩ := h
  obtain ⟨its, rv, ht, _⟩ := I.tuple hs
  rw [Vals.ref1 r]
  exact maxT_raw (I.ok.hd hc) ht rv.ints hne fun h' tk m t' hk h1 h2 => ⟨.int _, H, I.kept hk, ⟨_, rfl⟩, q m h1 h2⟩
theorem b_maxT : Bi1 X dMaxT (rMaxT X.K) := by
  intro G ι m H v x d Q g rx e fin
  cases x with
  | tup xs =>
    obtain ⟨a, vs, rfl, h, r⟩ := rx
    have e' : ((intsD xs).bind fun ns => (maxI ns).map D.int) = some d := e
    cases h1 : intsD xs with
    | none => rw [h1] at e'; cases e'
    | some ns =>
      rw [h1] at e'
      have e2 : (maxI ns).map D.int = some d := e'
      cases h2 : maxI ns with
      | none => rw [h2] at e2; cases e2
      | some k =>
        rw [h2] at e2
        cases e2
        obtain ⟨i1, i2⟩ := maxI_of h2
        refine ⟨a, ns, rfl, by rw [← intsD_rep h1 r]; exact g.sub.sqt h, List.length_pos_of_mem i1, fun q hq hm => ?_⟩
        have : q = k := Int.le_antisymm (i2 q hq) (hm k i1)
        subst this
        exact fin.here g (.int _)
  | _ => cases e
end
end DI
namespace DI
/-! sorted, of ints; a list taken apart -/
def insI (x : Int) : List Int → List Int
  | [] => [x]
  | y :: r => if x ≤ y then x :: y :: r else y :: insI x r
def sortI : List Int → List Int
  | [] => []
  | x :: r => insI x (sortI r)
def dSort : D → Option D
  | .lst xs => (intsD xs).map fun ns => .lst ((sortI ns).map .int)
  | _ => none
/-- a, b, .. = a list -/
def tTL (is : List Nat) : Tg := fun v ρ => match v with
  | .d (.lst xs) => setAll is xs ρ
  | _ => none
/-- list(enumerate(x)) -/
def nEnum (a : SE) : NE := fun ρ m => (iV a ρ m).bind fun xs m => if xs.length ≤ lineL then .ok (xs.mapIdx fun i x => .tup [.int i, x]) m else .no
/-- each one once -/
def dedupI : List Int → List Int
  | [] => []
  | x :: r => if x ∈ dedupI r then dedupI r else x :: dedupI r
theorem dedupI_mem {y : Int} : ∀ {l : List Int}, y ∈ dedupI l ↔ y ∈ l
  | [] => Iff.rfl
  | x :: r => by
    have ih := dedupI_mem (y := y) (l := r)
    unfold dedupI
    split
    · rename_i h
      rw [ih, List.mem_cons]
      constructor
      · exact .inr
      · rintro (e | e)
        · rw [e]; exact dedupI_mem.mp h
        · exact e
    · rw [List.mem_cons, List.mem_cons, ih]
theorem dedupI_nd : ∀ l : List Int, (dedupI l).Nodup
  | [] => List.nodup_nil
  | x :: r => by
    unfold dedupI
    split
    · exact dedupI_nd r
    · rename_i h
      exact List.nodup_cons.mpr ⟨h, dedupI_nd r⟩
/-- sorted(set(list)) -/
def dSortSet : D → Option D
  | .lst xs => (intsD xs).bind fun ns => if (dedupI ns).length < 64 ∧ ns.length ≤ 1000 then some (.lst ((sortI (dedupI ns)).map .int)) else none
  | _ => none
/-- min(a, b), max(a, b) of ints -/
def dMin2 : D → D → Option D
  | .int i, .int j => some (.int (if j < i then j else i))
  | _, _ => none
/-- there is one list of ints in order -/
theorem sortI_uniq : ∀ {a b : List Int}, a.Pairwise (· ≤ ·) → b.Pairwise (· ≤ ·) → a.Perm b → a = b
  | [], b, _, _, p => (List.Perm.nil_eq p)
  | x :: a, [], _, _, p => by have := p.length_eq; simp at this
  | x :: a, y :: b, ha, hb, p => by
    obtain ⟨h1, h2⟩ := List.pairwise_cons.mp ha
    obtain ⟨k1, k2⟩ := List.pairwise_cons.mp hb
    have e : x = y := by
      have m1 : x ∈ y :: b := p.mem_iff.mp (by simp)
      have m2 : y ∈ x :: a := p.mem_iff.mpr (by simp)
      rcases List.mem_cons.mp m1 with e | m1
      · exact e
      · rcases List.mem_cons.mp m2 with e | m2
        · exact e.symm
        · have := h1 y m2; have := k1 x m1; omega
    subst e
    rw [sortI_uniq h2 k2 p.cons_inv]
theorem insI_perm (x : Int) : ∀ l : List Int, (insI x l).Perm (x :: l)
  | [] => List.Perm.refl _
  | y :: r => by
    unfold insI
    by_cases h : x ≤ y
    · rw [if_pos h]
    · rw [if_neg h]
      exact ((insI_perm x r).cons y).trans (List.Perm.swap x y r)
theorem insI_pw (x : Int) : ∀ l : List Int, l.Pairwise (· ≤ ·) → (insI x l).Pairwise (· ≤ ·)
  | [], _ => List.pairwise_singleton ..
  | y :: r, h => by
    obtain ⟨h1, h2⟩ := List.pairwise_cons.mp h
    unfold insI
    by_cases z : x ≤ y
    · rw [if_pos z]
      refine List.pairwise_cons.mpr ⟨fun q hq => ?_, h⟩
      rcases List.mem_cons.mp hq with e | hq
      · subst e; exact z
      · have := h1 q hq; omega
    · rw [if_neg z]
      refine List.pairwise_cons.mpr ⟨fun q hq => ?_, insI_pw x r h2⟩
      rcases List.mem_cons.mp ((insI_perm x r).mem_iff.mp hq) with e | hq
      · subst e; omega
      · exact h1 q hq
theorem sortI_perm : ∀ l : List Int, (sortI l).Perm l
  | [] => List.Perm.refl _
  | x :: r => (insI_perm x (sortI r)).trans ((sortI_perm r).cons x)
theorem sortI_pw : ∀ l : List Int, (sortI l).Pairwise (· ≤ ·)
  | [] => List.Pairwise.nil
  | x :: r => insI_pw x (sortI r) (sortI_pw r)
/-- range(a, b, 2) -/
def rngUp2 (lo hi : Int) : List D := (List.range ((hi - lo + 1) / 2).toNat).map fun (k : Nat) => D.int (lo + 2 * (k : Int))
def iRngUp2 (a b c : SE) : IE := fun ρ m => (a ρ m).bind fun x m => (b ρ m).bind fun y m => (c ρ m).bind fun z m => match intOf0 x, intOf0 y, intOf0 z with
  | some i, some j, some k => if k = 2 ∧ fits62 i = true ∧ fits62 j = true then .ok (rngUp2 i j) m else .no
  | _, _, _ => .no
end DI
namespace DI
open PySem PySem.Spec PyProof.Rows L2
section
variable {X : Cx}
theorem b_sort : Bi1 X dSort (rSortedI X.K) := by
  intro G ι m H v x d Q g rx e fin
  cases x with
  | lst xs =>
    obtain ⟨a, vs, rfl, h, r⟩ := rx
    have e' : (intsD xs).map (fun ns => D.lst ((sortI ns).map .int)) = some d := e
    cases h1 : intsD xs with
    | none => rw [h1] at e'; cases e'
    | some ns =>
      rw [h1] at e'
      cases e'
      refine ⟨a, ns, rfl, by rw [← intsD_rep h1 r]; exact h, fun ns' p hp hs hn => ?_⟩
      rw [sortI_uniq hs (sortI_pw ns) (hp.trans (sortI_perm ns).symm)]
      exact g.layL hn (RepAll.ints _) fin
  | _ => cases e
variable {es : List Expr} {pos : Pos}
theorem tg_lst {is : List Nat} {k n : Nat} (hc : X.calm = true) (h : STgs X es is is) (hl : is.length = n := by rfl) (hn : (assignEach es X.env).length = n := by rfl) (hst : (assignEach es X.env).findIdx? (·.1) = none := by rfl) : STg X (.Tuple es k pos) is (tTL is) := by
  refine ⟨pg_weak (pg_lst hc h.pg hn hst) fun v σ H Q ⟨G, ι, ρ, m, x, g, ev, r, q⟩ => ?_⟩
  match x, q, r with
  | .d (.lst xs), q, r =>
    cases r with
    | lst hs r =>
      have q' : match setAll is xs ρ with
        | some ρ' => ∀ σ', EnvR X.kx G ι ρ' σ' → OffEq is σ σ' → Q σ' H
        | none => False := q
      refine ⟨_, _, rfl, g.sub.sql hs, ?_, ⟨G, ι, ρ, m, xs, g, ev, r, q'⟩⟩
      rw [r.length, ← hl]
      cases hs : setAll is xs ρ with
      | none => rw [hs] at q'; exact q'.elim
      | some ρ' => exact setAll_len hs
  | .d .non, q, _ => exact q.elim
  | .d (.bl _), q, _ => exact q.elim
  | .d (.int _), q, _ => exact q.elim
  | .d (.str _), q, _ => exact q.elim
  | .d (.tup _), q, _ => exact q.elim
  | .d (.dct _ _), q, _ => exact q.elim
  | .d (.ins _ _ _), q, _ => exact q.elim
  | .obj _, q, _ => exact q.elim
  | .raw _, q, _ => exact q.elim
end
end DI
namespace DI
open PySem PySem.Spec PyProof.Rows L2
open HotX (HotAt raiseNew_hot)
/-! ### iterators that end while an exception is handled -/
theorem hotTo {A B : Around} {x1 : Addr} {h h' : Heap} (t : HotAt A x1 h) (e : B.handled = A.handled) (k : ∀ o, h.get? x1 = some o → h'.get? x1 = some o) : HotAt B x1 h' := by
  obtain ⟨hh, o, vs, g, d, c⟩ := t
  exact ⟨e.trans hh, o, vs, k o g, d, c⟩
theorem in1_handled (A : Around) : A.in1.handled = A.handled := rfl
section
variable {prog : Program} {w : World} {A : Around} {E : Value → Shared → Prop} {s : Shared}
/-- a new StopIteration, raised -/
theorem stopH {α : Type} {x1 : Addr} {Q : α → Shared → Prop} (t : HotAt A x1 s.heap)
    (hE : ∀ h' e, (∀ b ob, s.heap.get? b = some ob → h'.get? b = some ob) → (∃ ob, h'.get? e = some ob ∧ ob.cls = .type "StopIteration") → E (.ref e) { s with heap := h' }) :
    wpAny (model prog w) A (newExc (.type "StopIteration") [] >>= fun e => (raiseNew e : Sem α)) Q E s := by
  obtain ⟨hh, o1, vs1, g1, d1, c1⟩ := t
  refine wpAny_bind ?_
  simp only [newExc, newTuple]
  refine wpAny_bind (wpAny_newObj_type ?_ (by size_fits))
  refine wpAny_bind (m := firstArgMember _ _) (wpAny_of_eq (a := Value.none) (by first | rfl | (simp only [firstArgMember]; rfl)) ?_)
  refine wpAny_newObj_type ?_ (by size_fits)
  have up : ∀ {a b : Obj} {c : Addr} {ob : Obj}, s.heap.get? c = some ob → ((s.heap.push a).push b).get? c = some ob := fun e => Heap.get?_push_of_some _ (Heap.get?_push_of_some _ e)
  refine raiseNew_hot ⟨hh, o1, vs1, up g1, d1, c1⟩ (Nat.ne_of_lt (Heap.lt_size (Heap.get?_push_of_some _ g1))) (Heap.get?_push_size _ rfl) rfl (by first | (simp; done) | (simp; omega) | (simp only [Array.size_append]; simp; omega)) ?_
  refine hE _ _ (fun b ob eb => ?_) ⟨_, Heap.get?_update_self _ (Heap.get?_push_size _ rfl) rfl, rfl⟩
  rw [Heap.get?_update_other _ _ (Nat.ne_of_gt (Heap.lt_size (Heap.get?_push_of_some _ eb)))]
  exact up eb
theorem nextOf_listH {it l x1 : Addr} {i : Nat} {its : Array Value} {Q : Value → Shared → Prop} (t : HotAt A x1 s.heap) (nx : x1 ≠ it) (hit : s.heap.IsListIter it l i) (hl : s.heap.IsList l its) (hx : its[i]? = none)
    (hE : ∀ h' e, Heap.ExtBut it s.heap h' → (∃ ob, h'.get? e = some ob ∧ ob.cls = .type "StopIteration") → E (.ref e) { s with heap := h' }) :
    wpAny (model prog w) A (Builtin.SmallTypes.nextOf (.ref it)) Q E s := by
  obtain ⟨oi, hoi, _, di⟩ := id hit
  obtain ⟨ol, hol, _, nl, dl⟩ := hl
  unfold Builtin.SmallTypes.nextOf
  refine wpAny_bind (wpAny_callSpecial?_slot (name := Str.ofString "__next__") hit.typeIs slot_listiter_next (wpAny_call_entry slot_listiter_next hit.typeIs entry_listiter_next ?_ (args_listiter_next _)))
  show wpAny _ _ (field (.ref it) 0 >>= _) _ _ s
  refine wpAny_bind (wpAny_field hoi di (x := .ref l) rfl ?_)
  show wpAny _ _ (if (Value.ref l == Value.none) = true then _ else _) _ _ s
  rw [if_neg (show ¬ ((Value.ref l == Value.none) = true) from Bool.false_ne_true)]
  show wpAny _ _ (field (.ref it) 1 >>= _) _ _ s
  refine wpAny_bind (wpAny_field hoi di (x := .int i 0) rfl ?_)
  show wpAny _ _ (seqItems? (.ref l) >>= _) _ _ s
  refine wpAny_bind (wpAny_seqItems hol dl ?_)
  simp only [Int.toNat_natCast, hx]
  refine wpAny_bind (wpAny_rule (wpAny_bind (wpAny_setField hoi di (by simp) ?_)))
  refine stopH (x1 := x1) (hotTo t rfl fun ob g => ?_) fun h' e k he => ?_
  · show (s.heap.update it _).get? x1 = _
    rw [Heap.get?_update_other _ _ (Ne.symm nx)]; exact g
  · exact hE h' e (fun b ob hb g => k b ob ((Heap.SameBut.update ..).extBut b ob hb g)) he
theorem pyNext_tupH {it l x1 : Addr} {i : Nat} {its : Array Value} {Q : Option Value → Shared → Prop} (t : HotAt A x1 s.heap) (nx : x1 ≠ it) (hit : IsTupIter s.heap it l i) (hl : IsTup s.heap l its) (hx : its[i]? = none)
    (hQ : ∀ h', Heap.ExtBut it s.heap h' → Q none { s with heap := h' }) : wpAny (model prog w) A (pyNext (.ref it)) Q E s := by
  obtain ⟨oi, hoi, _, di⟩ := id hit
  obtain ⟨ol, hol, _, nl, dl⟩ := hl
  unfold pyNext
  refine wpAny_bind (wpAny_attempt (wpAny_callSpecial?_slot (name := Str.ofString "__next__") hit.typeIs slot_tupleiter_next (wpAny_call_entry slot_tupleiter_next hit.typeIs entry_tupleiter_next ?_ (args_tupleiter_next _))))
  show wpAny _ _ (field (.ref it) 0 >>= _) _ _ s
  refine wpAny_bind (wpAny_field hoi di (x := .ref l) rfl ?_)
  show wpAny _ _ (if (Value.ref l == Value.none) = true then _ else _) _ _ s
  rw [if_neg (show ¬ ((Value.ref l == Value.none) = true) from Bool.false_ne_true)]
  show wpAny _ _ (field (.ref it) 1 >>= _) _ _ s
  refine wpAny_bind (wpAny_field hoi di (x := .int i 0) rfl ?_)
  show wpAny _ _ (seqItems? (.ref l) >>= _) _ _ s
  refine wpAny_bind (wpAny_seqItems hol dl ?_)
  simp only [Int.toNat_natCast, hx]
  refine wpAny_bind (wpAny_rule (wpAny_bind (wpAny_setField hoi di (by simp) ?_)))
  refine stopH (x1 := x1) (hotTo t rfl fun ob g => ?_) fun h' e k he => ?_
  · show (s.heap.update it _).get? x1 = _
    rw [Heap.get?_update_other _ _ (Ne.symm nx)]; exact g
  · obtain ⟨ob, g, c⟩ := he
    refine wpAny_bind (wpAny_isInstance (T := "StopIteration") (b := true) ⟨ob, g, c⟩ isSubtype_stop ?_)
    exact wpAny_pure (hQ h' fun b ob hb g => k b ob ((Heap.SameBut.update ..).extBut b ob hb g))
/-- a tuple unpacked into that many targets -/
theorem assign_tupH {env : PySem.Env} {elts : List Expr} {kk : Nat} {pos : Pos} {l x1 : Addr} {its : Array Value} {Q : Unit → Shared → Prop} (t : HotAt A x1 s.heap) (hl : IsTup s.heap l its)
    (hn : (assignEach elts env).length = its.size) (hst : (assignEach elts env).findIdx? (·.1) = none)
    (h : ∀ h', Heap.ExtBut s.heap.objs.size s.heap h' → wpAny (model prog w) A (assignInOrder ((assignEach elts env).map (·.2)) its.toList) Q E { s with heap := h' }) :
    wpAny (model prog w) A (assign (.Tuple elts kk pos) env (.ref l)) Q E s := by
  rw [assign_Tuple]
  refine wpAny_bind (wpAny_standAt ?_)
  unfold unpack
  rw [hn, hst]
  have hne : l ≠ s.heap.objs.size := by obtain ⟨o, ho, _⟩ := hl; exact Nat.ne_of_lt (Heap.lt_size ho)
  have hx1 : x1 ≠ s.heap.objs.size := by obtain ⟨_, o, _, ho, _⟩ := t; exact Nat.ne_of_lt (Heap.lt_size ho)
  refine wpAny_bind (wpAny_holding ?_)
  unfold unpackItems
  refine wpAny_bind ?_
  · unfold notIterableAtAll
    refine wpAny_bind (wpAny_specialOf hl.typeIs slot_tuple_iter.lookup (wpAny_pure ?_))
    simp only [Bool.false_eq_true, if_false]
    refine wpAny_bind (wpAny_holding (iter_tuple hl (wpAny_bind (wpAny_holding (draw_tuple hne its.size 0 _ _ ⟨_, Heap.get?_push_size _ rfl, rfl, rfl⟩ (hl.push _) (by omega) fun h₁ hit₁ hs₁ => ?_)))))
    have whole : List.take its.size (List.drop 0 its.toList) = its.toList := by
      rw [List.drop_zero]; exact List.take_of_length_le (by simp)
    rw [whole, if_neg (by simp)]
    have hl₁ : IsTup h₁ l its := (hl.push _).extBut hs₁.extBut hne
    refine wpAny_bind (wpAny_holding (pyNext_tupH (x1 := x1) (hotTo t rfl fun o g => hs₁.extBut _ _ hx1 (Heap.get?_push_of_some _ g)) hx1 hit₁ hl₁ (by simp) fun h₂ he₂ => ?_))
    simp only [Option.isSome_none, Bool.false_eq_true, if_false]
    exact wpAny_pure (h h₂ fun b o hb e => he₂ b o hb (hs₁.extBut b o hb (Heap.get?_push_of_some _ e)))
end
theorem drawsListH {prog : Program} {w : World} {A : Around} {x1 : Addr} (it l : Addr) (hne : l ≠ it) (nx : x1 ≠ it) (its : Array Value) :
    Draws prog w A it [it, l, x1] its.size (fun i v => its[i]? = some v) (fun i h => (h.IsListIter it l i ∧ h.IsList l its) ∧ HotAt A x1 h) where
  live := fun _ _ st => let ⟨o, ho, _⟩ := st.1.1; ⟨o, ho⟩
  frame := fun _ _ _ st hk => ⟨⟨st.1.1.at fun o e => hk it (by simp) o e, st.1.2.at fun o e => hk l (by simp) o e⟩, hotTo st.2 rfl fun o g => hk x1 (by simp) o g⟩
  item := fun i s Q E hi st hQ => by
    refine wpAny_nextOf_list_item st.1.1 st.1.2 (x := its[i]) (by simp [hi]) fun h' hit' hs' => ?_
    exact hQ _ h' s.toks (by simp [hi]) ⟨⟨hit', st.1.2.extBut hs'.extBut hne⟩, hotTo st.2 rfl fun o g => hs'.extBut _ _ nx g⟩ hs'
  done := fun s Q E st hE => nextOf_listH st.2 nx st.1.1 st.1.2 (by simp) hE
end DI
namespace DI
open PySem PySem.Spec PyProof.Rows L2
open HotX (HotAt)
/-- the handled exception stands in every state of the context -/
def HotK (X : Cx) (p : Addr × Obj) : Prop := L2H.Hot1 X.A p ∧ (∀ v, p.2.data ≠ .cell v) ∧ (p ∈ X.pn ∨ (X.s_0.heap.get? p.1 = some p.2 ∧ X.H_0 p.1 = none ∧ p.1 ∉ X.fs ∧ p.1 ∉ X.ex))
section
variable {X : Cx} {p : Addr × Obj} {pins : List (Addr × Obj)} {σ : L2.St} {H : Hp} {s : Shared}
theorem HotK.there (h : HotK X p) (I : Inv X pins σ H s) : s.heap.get? p.1 = some p.2 ∧ H p.1 = none := by
  rcases h.2.2 with q | ⟨h1, h2, h3, h4⟩
  · exact ⟨(I.pin p (List.mem_append_left _ q)).1, (I.pin p (List.mem_append_left _ q)).2.1⟩
  · exact ⟨I.base.keep _ _ h1 h2 h3 h4, I.base.free _ _ h1 h2 h4⟩
theorem HotK.at (h : HotK X p) (I : Inv X pins σ H s) : HotAt X.A p.1 s.heap := by
  obtain ⟨hh, vs, e, c⟩ := h.1
  exact ⟨hh, p.2, vs, (h.there I).1, e, c⟩
/-- turns of an iterator, in contexts of a kind -/
structure TurnX (C : Cx → Prop) (P : Program) (w : World) (K : PySem.W.Frag) (tg : Expr) (J : It) (fp : List Addr) (it : Addr) (tn : Nat → Heap → Prop) : Prop where
  mem : it ∈ fp
  obj : ∀ i h, tn i h → ∀ b ∈ fp, ∃ o, h.get? b = some o ∧ ∀ v, o.data ≠ .cell v
  keep : ∀ i h h', tn i h → (∀ b ∈ fp, ∀ o, h.get? b = some o → h'.get? b = some o) → tn i h'
  item : ∀ (X : Cx), X.prog = P → X.w = w → X.K = K → C X → ∀ (i : Nat) (pins : List (Addr × Obj)) (s : Shared) (σ : L2.St) (H : Hp) (E : Value → Shared → Prop), Inv X pins σ H s → (∀ b ∈ fp, FpOk X pins H b) → tn i s.heap → J.go i H →
    wpAny (model P w) X.A (pyNext (.ref it)) (fun r s1 => ∃ u, r = some u ∧
      wpAny (model P w) X.A (letOwnedTupleGo tg (.ref it) u) (fun _ s2 => ∃ x H', Inv X pins σ H' s2 ∧ RelV x u ∧ J.yld i H x H' ∧ tn (i + 1) s2.heap ∧ ∀ b ∈ fp, H' b = none) E s1) E s
  done : ∀ (X : Cx), X.prog = P → X.w = w → X.K = K → C X → ∀ (i : Nat) (pins : List (Addr × Obj)) (s : Shared) (σ : L2.St) (H : Hp) (E : Value → Shared → Prop), Inv X pins σ H s → (∀ b ∈ fp, FpOk X pins H b) → tn i s.heap → J.stop i H →
    wpAny (model P w) X.A (pyNext (.ref it)) (fun r s1 => r = none ∧ Inv X pins σ H s1) E s
  self : ∀ (A : Around) (i : Nat) (s : Shared) (Q : Value → Shared → Prop) (E : Value → Shared → Prop), tn i s.heap → Q (.ref it) s → wpAny (model P w) A (pyIter (.ref it)) Q E s
def PIEX (C : Cx → Prop) (X : Cx) (pins : List (Addr × Obj)) (σ : L2.St) (tg : Expr) (R : It → Hp → Prop) (itv : Value) (s2 : Shared) : Prop :=
  ∃ (it : Addr) (fp : List Addr) (tn : Nat → Heap → Prop) (J : It) (H' : Hp), itv = .ref it ∧ Inv X pins σ H' s2 ∧ TurnX C X.prog X.w X.K tg J fp it tn ∧ tn 0 s2.heap ∧ (∀ b ∈ fp, FpOk X pins H' b) ∧ R J H'
structure PIX (C : Cx → Prop) (X : Cx) (tg iter : Expr) (wi : TI) : Prop where
  run : ∀ (pins : List (Addr × Obj)) (s : Shared) (σ : L2.St) (H : Hp) (R : It → Hp → Prop), Inv X pins σ H s → wi σ H R →
    wpAny (model X.prog X.w) X.A (eval iter X.env) (fun v s1 => wpAny (model X.prog X.w) X.A (pyIter v) (PIEX C X pins σ tg R) X.xe s1) X.xe s
/-- the block's context is hot as well -/
theorem HotK.blk (h : HotK X p) (I : Inv X pins σ H s) {scope : Scope} {cenv : PySem.Env} {fp : List Addr} (hf : ∀ b ∈ fp, p.1 ≠ b) : HotK (X.blk s H scope cenv fp) p := by
  obtain ⟨t1, t2⟩ := h.there I
  refine ⟨h.1, h.2.1, .inr ⟨t1, t2, fun z => ?_, fun z => hf _ z rfl⟩⟩
  -- no frame of the stack
  have z' : p.1 ∈ frs X.stack := z
  obtain ⟨_, o, ho, hnf⟩ := I.stack.mem z'
  rw [t1] at ho
  cases ho
  obtain ⟨_, vs, e, _⟩ := h.1
  exact hnf vs e
/-- a comprehension where an exception is handled -/
theorem lcX {C : Cx → Prop} {Q : VK} {elt tg iter : Expr} {ifs : List Expr} {scope : Scope} {own : List (Str × Nat)} {pos pos' : Pos} {wi : TI} {g : TG} {tt : TT} {te : TE} {use : Option (Value → Sem Unit)} {Qf : Value → Shared → Prop} (hk : HotK X p) (hC : ∀ Y : Cx, HotK Y p → C Y) (hN : X.N.Nodup) (I : Inv X pins σ H s) (hi : PIX C X tg iter wi) (ok : BlkOk X.N X.env.scope scope own)
    (hg : ∀ (s : Shared) (H : Hp) (c : Addr) (cl : List (Str × Addr)) (fp : List Addr), HotK (X.blk s H scope (compEnvC scope cl c X.env) fp) p → PG (X.blk s H scope (compEnvC scope cl c X.env) fp) tg g) (ht : ∀ (s : Shared) (H : Hp) (c : Addr) (cl : List (Str × Addr)) (fp : List Addr), PTs (X.blk s H scope (compEnvC scope cl c X.env) fp) ifs tt)
    (he : ∀ (s : Shared) (H : Hp) (c : Addr) (cl : List (Str × Addr)) (fp : List Addr), PE (X.blk s H scope (compEnvC scope cl c X.env) fp) elt te) (hs : ∀ x, foldedSetIterable iter X.env x = pure x) (h : tLc wi g tt te (own.map (·.2)) σ H Q)
    (hE : ∀ L B s' m H', Inv X pins σ H' s' → Q (.ref L) H' → s'.heap.Ns B m → FpOk X pins H' B → compPost (model X.prog X.w) X.A X.xe use Qf (.ref L) B (.ok .next) s') :
    wpAny (model X.prog X.w) X.A (comprehension (.ListComp elt [⟨tg, iter, ifs, 0⟩] scope pos) scope X.env pos' (newList []) false (eval iter X.env) use) Qf X.xe s := by
  have hfree : ∀ y ∈ scope.names, y.2 = .free → ∃ c, X.env.cells.lookup y.1 = some c := fun y hy e => I.ok.has _ (ok.free y hy e)
  refine wpAny_comprehension_free (use := use) rfl hs (closure_ok hfree) ok.kind (fun y hy e => by rw [ok.uniq y hy, e]) (thn (hi.run pins s σ H _ I h) fun xv s1 hx => thn hx fun itv s2 h2 => ?_)
  obtain ⟨it, fp, tn, J, H2, e, I2, T, st2, f2, q⟩ := h2
  subst e
  refine wpAny_newObj_type (newEnv_comp ?_) (by show 0 ≤ sizeLine; decide)
  generalize hD : s2.heap.objs.size = Dn
  have hDn : H2 Dn = none := I2.hok.fresh (Nat.le_of_eq hD)
  obtain ⟨Wm, ⟨m0, w0⟩, turn⟩ := q Dn hDn
  -- the new list
  generalize hs3 : ({ s2 with heap := s2.heap.push { cls := .type "list", data := .seq ([] : List Value).toArray } } : Shared) = s3
  have h3 : s3.heap = s2.heap.push { cls := .type "list", data := .seq ([] : List Value).toArray } := by rw [← hs3]
  have I3 : Inv X pins σ (upd H2 Dn (.lst [])) s3 := by
    rw [← hs3]
    refine I2.laid (t' := s2.toks) (fun b ob eb => Heap.get?_push_of_some _ eb) (Nat.le_of_eq hD) ⟨Nat.zero_le _, [], 0, .nil, ?_⟩
    rw [← hD]
    exact Heap.get?_push_size _ rfl
  have f3 : ∀ b ∈ fp, FpOk X pins (upd H2 Dn (.lst [])) b ∧ b < s3.heap.objs.size := fun b hb => by
    obtain ⟨ob, eb, _⟩ := T.obj _ _ st2 b hb
    have hlt := Heap.lt_size eb
    refine ⟨⟨?_, (f2 b hb).2⟩, by rw [h3, Heap.size_push]; exact Nat.lt_succ_of_lt hlt⟩
    rw [upd_ne (by rw [← hD]; exact Nat.ne_of_lt hlt)]
    exact (f2 b hb).1
  have st3 : tn 0 s3.heap := T.keep _ _ _ st2 fun b _ ob eb => by rw [h3]; exact Heap.get?_push_of_some _ eb
  have nfp : ∀ b ∈ fp, (upd H2 Dn (.lst [])) b = none := fun b hb => (f3 b hb).1.1
  have pfp : ∀ b ∈ fp, p.1 ≠ b := fun b hb z => by
    obtain ⟨t1, t2⟩ := hk.there I3
    rcases hk.2.2 with q' | ⟨k1, k2, k3, k4⟩
    · exact (f3 b hb).1.2.2.2.2.2 p (List.mem_append_left _ q') z
    · rcases (f3 b hb).1.2.2.2.1 with z2 | z2
      · exact k4 (z ▸ z2)
      · exact absurd (Nat.lt_of_lt_of_le (Heap.lt_size k1) (by rw [z]; exact z2)) (Nat.lt_irrefl _)
  have I4 := block_start I3 ok hN f3
  have hot4 : HotK (X.blk s3 (upd H2 Dn (.lst [])) scope (compEnvC scope (cellsFrom (s3.heap.objs.size + 1) scope.names (cloFrom X.env.cells scope.names [])) s3.heap.objs.size X.env) fp) p := hk.blk I3 pfp
  have pg := hg s3 (upd H2 Dn (.lst [])) s3.heap.objs.size (cellsFrom (s3.heap.objs.size + 1) scope.names (cloFrom X.env.cells scope.names [])) fp hot4
  have pt := ht s3 (upd H2 Dn (.lst [])) s3.heap.objs.size (cellsFrom (s3.heap.objs.size + 1) scope.names (cloFrom X.env.cells scope.names [])) fp
  have pe := he s3 (upd H2 Dn (.lst [])) s3.heap.objs.size (cellsFrom (s3.heap.objs.size + 1) scope.names (cloFrom X.env.cells scope.names [])) fp
  show codeAny _ _ (.compStart (.ListComp elt [⟨tg, iter, ifs, 0⟩] scope pos) 0 (.ref it) (.ref Dn) (compEnvC scope (cellsFrom (s3.heap.objs.size + 1) scope.names (cloFrom X.env.cells scope.names [])) s3.heap.objs.size X.env)) (compPost (model X.prog X.w) X.A X.xe use Qf (.ref Dn) s3.heap.objs.size) { s3 with heap := pushCells (s3.heap.push { cls := .type "dict", data := .dict #[] }) scope.names }
  generalize hce : compEnvC scope (cellsFrom (s3.heap.objs.size + 1) scope.names (cloFrom X.env.cells scope.names [])) s3.heap.objs.size X.env = ce at I4 pg pt pe hot4 ⊢
  have cL : ce.locals = s3.heap.objs.size := by subst hce; rfl
  generalize hH3 : upd H2 Dn (.lst []) = H3 at I3 I4 pg pt pe w0 nfp f3 hot4
  generalize hs4 : ({ s3 with heap := pushCells (s3.heap.push { cls := .type "dict", data := .dict #[] }) scope.names } : Shared) = s4 at I4 ⊢
  have st4 : tn 0 s4.heap := T.keep _ _ _ st3 fun b _ ob eb => by rw [← hs4]; exact pushCells_keeps _ _ _ _ (Heap.get?_push_of_some _ eb)
  have cY : C (X.blk s3 H3 scope ce fp) := hC _ hot4
  have stat : ∀ {σ' : L2.St} {H' : Hp} {s' : Shared}, Inv (X.blk s3 H3 scope ce fp) [] σ' H' s' → (∀ b ∈ fp, H' b = none) → ∀ b ∈ fp, FpOk (X.blk s3 H3 scope ce fp) [] H' b := fun {σ' H' s'} I' hn b hb =>
    ⟨hn b hb, (I'.ok.exf b hb).1, I'.ok.exfs b hb, .inl hb, fun x c eb => (I'.ok.exf b hb).2 x c eb, fun r hr => absurd (show r ∈ ([] : List (Addr × Obj)) ++ [] from hr) (by simp)⟩
  have loop : codeAny (model X.prog X.w) X.A (.compLoop (.ListComp elt [⟨tg, iter, ifs, 0⟩] scope pos) 0 (.ref it) (.ref Dn) ce) (compPost (model X.prog X.w) X.A X.xe use Qf (.ref Dn) s3.heap.objs.size) s4 := by
    refine compLoop_any (fun n s' => ∃ i H', Inv (X.blk s3 H3 scope ce fp) [] (wipe σ (own.map (·.2))) H' s' ∧ tn i s'.heap ∧ (∀ b ∈ fp, H' b = none) ∧ Wm i n H') ?_ m0 ⟨0, H3, I4, st4, nfp, w0⟩
    rintro n s5 ⟨i, H5, I5, st5, n5, w5⟩
    rcases turn i n H5 w5 with ⟨stop, qq⟩ | ⟨go, Nx, hNx, step⟩
    · refine thnF (T.done (X.blk s3 H3 scope ce fp) rfl rfl rfl cY i [] s5 _ H5 (fun _ _ => False) I5 (stat I5 n5) st5 stop) fun r s6 ⟨hr, I6⟩ => ?_
      subst hr
      have I7 : Inv X pins σ H5 s6 := I3.call' (ch := fp) I6.os I6.base I6.hok I6.bare fun b hb => ⟨(f3 b hb).1.2.2.2.1, (f3 b hb).1.2.1, (f3 b hb).1.2.2.2.2.1, (f3 b hb).1.2.2.2.2.2⟩
      have nC : H5 s3.heap.objs.size = none := by
        have z : H5 ce.locals = none := I6.free
        rw [cL] at z
        exact z
      obtain ⟨mm, hn, _⟩ := I6.loc
      have hn : s6.heap.Ns ce.locals mm := hn
      rw [cL] at hn
      exact hE Dn s3.heap.objs.size s6 mm H5 I7 qq hn (I3.fpOk (Nat.le_refl _) nC)
    · refine thnF (T.item (X.blk s3 H3 scope ce fp) rfl rfl rfl cY i [] s5 _ H5 (fun _ _ => False) I5 (stat I5 n5) st5 go) fun r s6 ⟨u, hr, h6⟩ => ?_
      subst hr
      refine thnF h6 fun _ s7 ⟨x, H7, I7, r7, y7, st7, n7⟩ => ?_
      have I7' := I7.pinned (stat I7 n7) (T.obj _ _ st7)
      refine thnF (pg.run _ s7 _ H7 x u _ I7' r7 (step x H7 y7)) fun _ s8 ⟨σ8, H8, I8, hw8, q8⟩ => ?_
      refine thnF (pt.run _ s8 σ8 H8 _ I8 q8) fun b s9 ⟨H9, I9, q9⟩ => ?_
      have fin : ∀ {s' : Shared} {H' : Hp}, Inv (X.blk s3 H3 scope ce fp) ([] ++ pinsAt fp s7.heap) σ8 H' s' → Nx H' → ∃ m, m < n ∧ ∃ i H', Inv (X.blk s3 H3 scope ce fp) [] (wipe σ (own.map (·.2))) H' s' ∧ tn i s'.heap ∧ (∀ b ∈ fp, H' b = none) ∧ Wm i m H' := fun {s' H'} I' nx => by
        obtain ⟨m', hm, w'⟩ := hNx H' nx
        have pin' : ∀ b ∈ fp, ∀ ob, s7.heap.get? b = some ob → s'.heap.get? b = some ob ∧ H' b = none := fun b hb ob eb =>
          let z := I'.pin (b, ob) (List.mem_append_right _ (List.mem_append_right _ (mem_pinsAt hb eb)))
          ⟨z.1, z.2.1⟩
        have hl : (wipe σ (own.map (·.2))).length = σ8.length := by rw [← hw8, wipe_length]
        refine ⟨m', hm, i + 1, H', (I'.unpinned (pins := [])).weak hl (fun j v ej => ?_), T.keep _ _ _ st7 fun b hb ob eb => (pin' b hb ob eb).1, fun b hb => ?_, w'⟩
        · rw [← hw8] at ej
          exact (wipe_some ej).1
        · obtain ⟨ob, eb, _⟩ := T.obj _ _ st7 b hb
          exact (pin' b hb ob eb).2
      cases b with
      | false =>
        simp only [Bool.false_eq_true, if_false] at q9 ⊢
        exact fin I9 q9
      | true =>
        simp only [if_true] at q9 ⊢
        refine thnF (pe.run _ s9 σ8 H9 _ I9 q9) fun z s10 ⟨yv, H10, I10, r10, acc, hD10, hz10, nx⟩ => ?_
        exact app_ok (X := X.blk s3 H3 scope ce fp) I10 hD10 hz10 r10 fun s11 I11 => fin I11 nx
  exact codeAny_compStart_list loop (T.self X.A 0 _ _ _ st4 loop)
section
variable {C : Cx → Prop} {elt tg iter : Expr} {ifs : List Expr} {scope : Scope} {own : List (Str × Nat)} {pos : Pos} {wi : TI} {g : TG} {tt : TT} {te : TE}
theorem pe_lcX (hk : HotK X p) (hC : ∀ Y : Cx, HotK Y p → C Y) (hN : X.N.Nodup) (hi : PIX C X tg iter wi) (ok : BlkOk X.N X.env.scope scope own)
    (hg : ∀ (s : Shared) (H : Hp) (c : Addr) (cl : List (Str × Addr)) (fp : List Addr), HotK (X.blk s H scope (compEnvC scope cl c X.env) fp) p → PG (X.blk s H scope (compEnvC scope cl c X.env) fp) tg g) (ht : ∀ (s : Shared) (H : Hp) (c : Addr) (cl : List (Str × Addr)) (fp : List Addr), PTs (X.blk s H scope (compEnvC scope cl c X.env) fp) ifs tt)
    (he : ∀ (s : Shared) (H : Hp) (c : Addr) (cl : List (Str × Addr)) (fp : List Addr), PE (X.blk s H scope (compEnvC scope cl c X.env) fp) elt te) (hs : ∀ x, foldedSetIterable iter X.env x = pure x := by intro _; rfl) :
    PE X (.ListComp elt [⟨tg, iter, ifs, 0⟩] scope pos) (tLc wi g tt te (own.map (·.2))) := by
  refine ⟨fun pins s σ H Q I h => ?_⟩
  rw [eval_ListComp]
  refine lcX hk hC hN I hi ok hg ht he hs h fun L B s' m H' I' q hn f => ⟨m, hn, fun h'' sb => ?_⟩
  exact ⟨.ref L, H', I'.turned (t' := s'.toks) (fun b ob hb eb => (sb.2 b hb).trans eb) f.1 f.2.1 f.2.2.2.1 f.2.2.2.2.1 f.2.2.2.2.2, rfl, q⟩
/-- name = [..], in one row -/
theorem ps_setLcX {i : Nat} {y : Str} {py spos : Pos} (hk : HotK X p) (hC : ∀ Y : Cx, HotK Y p → C Y) (hN : X.N.Nodup) (hy : X.N[i]? = some y) (hyl : X.env.scope.names.lookup y = some .local)
    (hsw : swapsWith (.ListComp elt [⟨tg, iter, ifs, 0⟩] scope pos) (some (.Name y py)) spos.line X.env = pure true) (hi : PIX C X tg iter wi) (ok : BlkOk X.N X.env.scope scope own)
    (hg : ∀ (s : Shared) (H : Hp) (c : Addr) (cl : List (Str × Addr)) (fp : List Addr), HotK (X.blk s H scope (compEnvC scope cl c X.env) fp) p → PG (X.blk s H scope (compEnvC scope cl c X.env) fp) tg g) (ht : ∀ (s : Shared) (H : Hp) (c : Addr) (cl : List (Str × Addr)) (fp : List Addr), PTs (X.blk s H scope (compEnvC scope cl c X.env) fp) ifs tt)
    (he : ∀ (s : Shared) (H : Hp) (c : Addr) (cl : List (Str × Addr)) (fp : List Addr), PE (X.blk s H scope (compEnvC scope cl c X.env) fp) elt te) (hs : ∀ x, foldedSetIterable iter X.env x = pure x := by intro _; rfl) :
    PS X (.Assign [.Name y py] (.ListComp elt [⟨tg, iter, ifs, 0⟩] scope pos) spos) (tAsg (tLc wi g tt te (own.map (·.2))) (gName i)) := by
  refine ⟨fun pins s σ H D I h => ?_⟩
  rw [exec_Assign_Name_used _ _ _ _ hsw]
  refine wpAny_bind (wpAny_standAt (wpAny_bind ?_))
  show wpAny _ X.A (do let _ ← comprehension (.ListComp elt [⟨tg, iter, ifs, 0⟩] scope pos) scope X.env (firstIterPos [⟨tg, iter, ifs, 0⟩] pos) (newList []) false (eval iter X.env) (some (assign (.Name y py) X.env))) _ _ s
  have h' : tLc wi g tt te (own.map (·.2)) σ H (fun x H1 => gName i x σ H1 D.nx) := h
  refine wpAny_bind (thn (lcX (Qf := fun _ s' => SP X pins D .next s') hk hC hN I hi ok hg ht he hs h' fun L B s' m H' I' q hn f => ?_) fun _ s' hq => wpAny_pure (wpAny_pure hq))
  show wpAny _ _ (assign (.Name y py) X.env (.ref L)) _ _ _
  refine wpAny_assign_Name (store_ok2 (v := V.ref L) I' hN hy (.inl hyl) rfl (fun s2 I2 ⟨a, sb, ha⟩ => ?_) (.inr hyl))
  have hB : B ≠ a := by
    rcases ha with z | z
    · rw [z]; exact f.2.1
    · exact fun e => f.2.2.2.2.1 y a z e.symm
  refine ⟨m, hn.sameBut sb hB, fun h3 sb3 => ?_⟩
  exact ⟨_, H', I2.turned (t' := s2.toks) (fun b ob hb eb => (sb3.2 b hb).trans eb) f.1 f.2.1 f.2.2.2.1 f.2.2.2.2.1 f.2.2.2.2.2, q⟩
end
end
end DI
namespace DI
open PySem PySem.Spec PyProof.Rows L2
open HotX (HotAt)
/-! ### zip of two lists, a pair unpacked, where an exception is handled -/
theorem HotK.ne {X : Cx} {p : Addr × Obj} {pins : List (Addr × Obj)} {H : Hp} {b : Addr} (h : HotK X p) (f : FpOk X pins H b) : p.1 ≠ b := fun z => by
  rcases h.2.2 with q' | ⟨k1, k2, k3, k4⟩
  · exact f.2.2.2.2.2 p (List.mem_append_left _ q') z
  · rcases f.2.2.2.1 with z2 | z2
    · exact k4 (z ▸ z2)
    · exact absurd (Nat.lt_of_lt_of_le (Heap.lt_size k1) (by rw [z]; exact z2)) (Nat.lt_irrefl _)
theorem or3 {a b c : Prop} (h : a ∨ b ∨ c) (f : a → False) (g : b → False) (k : c → False) : False := h.elim f fun h => h.elim g k
theorem drawH {X : Cx} {pins : List (Addr × Obj)} {σ : L2.St} {H : Hp} {s : Shared} {A : Around} {it a x1 : Addr} {i : Nat} {xs : List V} (I : Inv X pins σ H s) (t : HotAt A x1 s.heap) (nx : x1 ≠ it) (hne : a ≠ it) (h : SqL X.K H a xs) (st : s.heap.IsListIter it a i) :
    ∃ (fp : List Addr) (n : Nat) (P : Nat → Value → Prop) (St : Nat → Heap → Prop), Draws X.prog X.w A it fp n P St ∧ St i s.heap ∧ n = xs.length ∧ (∀ j v, P j v → ∃ x, xs[j]? = some x ∧ RelV x v) ∧ (∀ j h', St j h' → h'.IsListIter it a j) ∧ (∀ b ∈ fp, b = it ∨ b = a ∨ b = x1) := by
  obtain ⟨its, rv, p, hz⟩ := I.list h
  refine ⟨_, _, _, _, drawsListH (x1 := x1) it a hne nx its.toArray, ⟨⟨st, p.isList⟩, t⟩, by rw [List.size_toArray, rv.length], fun j v hv => ?_, fun j h' z => z.1.1, fun b hb => by simpa using hb⟩
  have hv' : its[j]? = some v := by simpa using hv
  have hj : j < its.length := by
    by_cases q : j < its.length
    · exact q
    · rw [List.getElem?_eq_none (by omega)] at hv'; cases hv'
  obtain ⟨u, hu, ru⟩ := rv.get (List.getElem?_eq_getElem (show j < xs.length by rw [rv.length]; exact hj))
  rw [hv'] at hu
  cases hu
  exact ⟨_, List.getElem?_eq_getElem _, ru⟩
theorem turn_zipH {p : Addr × Obj} {P : Program} {w : World} {K : PySem.W.Frag} {elts : List Expr} {kk : Nat} {tpos : Pos} {la lb : Addr} {z TI TO i1 i2 : Addr} (D : ZApart z TI TO i1 i2)
    (n1 : la ≠ z ∧ la ≠ TO ∧ la ≠ i2 ∧ la ≠ i1) (n2 : lb ≠ z ∧ lb ≠ TO ∧ lb ≠ i1 ∧ lb ≠ i2) :
    TurnX (fun Y => HotK Y p) P w K (.Tuple elts kk tpos) (ItzS K (.lst la) (.lst lb)) [z, TI, TO, i1, i2] z (fun i h => IsZip h z TI TO .none ∧ IsPair h TI (.ref i1) (.ref i2) ∧ (∃ x y, IsPair h TO x y) ∧ h.IsListIter i1 la i ∧ h.IsListIter i2 lb i) where
  mem := by simp
  obj := fun i h st c hc => by
    obtain ⟨hz, hTI, ⟨x, y, hTO⟩, h1, h2⟩ := st
    have e' : c = z ∨ c = TI ∨ c = TO ∨ c = i1 ∨ c = i2 := by simpa using hc
    rcases e' with q | q | q | q | q
    · rw [q]; exact ⟨_, hz, fun v q => nomatch q⟩
    · rw [q]; exact ⟨_, hTI, fun v q => nomatch q⟩
    · rw [q]; exact ⟨_, hTO, fun v q => nomatch q⟩
    · rw [q]; exact Sr.itr_obj (sr := .lst la) h1
    · rw [q]; exact Sr.itr_obj (sr := .lst lb) h2
  keep := fun i h h' st k => by
    obtain ⟨hz, hTI, ⟨x, y, hTO⟩, h1, h2⟩ := st
    exact ⟨k z (by simp) _ hz, k TI (by simp) _ hTI, ⟨x, y, k TO (by simp) _ hTO⟩, Sr.itr_at (sr := .lst la) h1 fun o q => k i1 (by simp) o q, Sr.itr_at (sr := .lst lb) h2 fun o q => k i2 (by simp) o q⟩
  item := by
    intro X hP hw hK hc i pins s σ H E I hf st hg
    subst hP hw hK
    obtain ⟨hz, hTI, ⟨x0, y0, hTO⟩, h1, h2⟩ := st
    obtain ⟨xs, ys, x, y, hqx, hqy, hx, hy⟩ := hg
    have hot : HotAt X.A.in1 p.1 s.heap := hotTo (HotK.at hc I) rfl fun o g => g
    have ne : ∀ b ∈ [z, TI, TO, i1, i2], p.1 ≠ b := fun b hb => HotK.ne hc (hf b hb)
    obtain ⟨fp1, m1, P1, S1, d1, s1, e1, g1, j1, k1⟩ := drawH I hot (ne i1 (by simp)) n1.2.2.2 hqx h1
    obtain ⟨fp2, m2, P2, S2, d2, s2, e2, g2, j2, k2⟩ := drawH I hot (ne i2 (by simp)) n2.2.2.2 hqy h2
    have lx : i < xs.length := by
      by_cases q : i < xs.length
      · exact q
      · rw [List.getElem?_eq_none (by omega)] at hx; cases hx
    have ly : i < ys.length := by
      by_cases q : i < ys.length
      · exact q
      · rw [List.getElem?_eq_none (by omega)] at hy; cases hy
    have f1 : z ∉ fp1 ∧ TO ∉ fp1 ∧ i2 ∉ fp1 := ⟨fun q => or3 (k1 _ q) (fun r => D.i1z r.symm) (fun r => n1.1 r.symm) (fun r => ne z (by simp) r.symm), fun q => or3 (k1 _ q) (fun r => D.TOi1 r) (fun r => n1.2.1 r.symm) (fun r => ne TO (by simp) r.symm), fun q => or3 (k1 _ q) (fun r => D.i12 r.symm) (fun r => n1.2.2.1 r.symm) (fun r => ne i2 (by simp) r.symm)⟩
    have f2 : z ∉ fp2 ∧ TO ∉ fp2 ∧ i1 ∉ fp2 := ⟨fun q => or3 (k2 _ q) (fun r => D.i2z r.symm) (fun r => n2.1 r.symm) (fun r => ne z (by simp) r.symm), fun q => or3 (k2 _ q) (fun r => D.TOi2 r) (fun r => n2.2.1 r.symm) (fun r => ne TO (by simp) r.symm), fun q => or3 (k2 _ q) (fun r => D.i12 r) (fun r => n2.2.2.1 r.symm) (fun r => ne i1 (by simp) r.symm)⟩
    have hzl : z < s.heap.objs.size := Heap.lt_size hz
    refine pyNext_zipD_item D d1 d2 f1 f2 hz hTI hTO s1 s2 (by omega) (by omega) fun u u2 h' tk p1 p2 z' TO' h1' h2' hT hsz hk => ?_
    obtain ⟨x', hx', ru⟩ := g1 _ _ p1
    obtain ⟨y', hy', ru2⟩ := g2 _ _ p2
    rw [hx] at hx'
    cases hx'
    rw [hy] at hy'
    cases hy'
    refine ⟨_, rfl, wpAny_letOwnedTupleGo_zip (s := { s with heap := h', toks := tk }) z' fun h'' z'' sb' => ?_⟩
    have hT2 : h''.get? s.heap.objs.size = some { cls := .type "tuple", data := .seq #[u, u2] } := (sb'.2 _ (Nat.ne_of_gt hzl)).trans hT
    have new : ObjOk X.prog X.w (upd H s.heap.objs.size (.tup [x, y])) h'' s.heap.objs.size (.tup [x, y]) :=
      ⟨by show 2 ≤ sizeLine; decide, [u, u2], .cons ru (.cons ru2 .nil), ⟨_, hT2, rfl, _, rfl⟩⟩
    have I1 : Inv X pins σ (upd H s.heap.objs.size (.tup [x, y])) { s with heap := h'', toks := tk } :=
      I.turnedNew (t' := tk) (ch := [z, TI, TO, i1, i2]) (fun c o hb q => (sb'.2 c (fun q' => hb (by simp [q']))).trans (hk c o (fun q' => hb (by simp [q'])) (fun q' => hb (by simp [q'])) (fun q' => hb (by simp [q'])) (fun q' => hb (by simp [q'])) q)) hf (Nat.le_refl _) new
    refine ⟨.ref s.heap.objs.size, _, I1, rfl, ⟨_, x, y, rfl, I.hok.fresh (Nat.le_refl _), rfl, fun l hl => by rw [Sr.at_inj (sr := .lst la) I hl hqx]; exact hx, fun l hl => by rw [Sr.at_inj (sr := .lst lb) I hl hqy]; exact hy⟩, ⟨z'', ?_, ⟨u, u2, ?_⟩, ?_, ?_⟩, fun c hcm => ?_⟩
    · exact (sb'.2 _ D.TIz).trans (hk _ _ D.TIz D.TITO D.TIi1 D.TIi2 hTI)
    · exact (sb'.2 _ D.TOz).trans TO'
    · exact Sr.itr_at (sr := .lst la) (j1 _ _ h1') fun o q => (sb'.2 _ D.i1z).trans q
    · exact Sr.itr_at (sr := .lst lb) (j2 _ _ h2') fun o q => (sb'.2 _ D.i2z).trans q
    · have hlt : c < s.heap.objs.size := by
        have e' : c = z ∨ c = TI ∨ c = TO ∨ c = i1 ∨ c = i2 := by simpa using hcm
        rcases e' with q | q | q | q | q
        · rw [q]; exact hzl
        · rw [q]; exact Heap.lt_size hTI
        · rw [q]; exact Heap.lt_size hTO
        · rw [q]; obtain ⟨_, e1, _⟩ := Sr.itr_obj (sr := .lst la) h1; exact Heap.lt_size e1
        · rw [q]; obtain ⟨_, e2, _⟩ := Sr.itr_obj (sr := .lst lb) h2; exact Heap.lt_size e2
      rw [upd_ne (Nat.ne_of_lt hlt)]
      exact (hf c hcm).1
  done := by
    intro X hP hw hK hc i pins s σ H E I hf st hg
    subst hP hw hK
    obtain ⟨hz, hTI, ⟨x0, y0, hTO⟩, h1, h2⟩ := st
    obtain ⟨xs, ys, hqx, hqy, hend⟩ := hg
    have hot : HotAt X.A.in1 p.1 s.heap := hotTo (HotK.at hc I) rfl fun o g => g
    have ne : ∀ b ∈ [z, TI, TO, i1, i2], p.1 ≠ b := fun b hb => HotK.ne hc (hf b hb)
    obtain ⟨fp1, m1, P1, S1, d1, s1, e1, g1, j1, k1⟩ := drawH I hot (ne i1 (by simp)) n1.2.2.2 hqx h1
    obtain ⟨fp2, m2, P2, S2, d2, s2, e2, g2, j2, k2⟩ := drawH I hot (ne i2 (by simp)) n2.2.2.2 hqy h2
    have f1 : z ∉ fp1 ∧ TO ∉ fp1 ∧ i2 ∉ fp1 := ⟨fun q => or3 (k1 _ q) (fun r => D.i1z r.symm) (fun r => n1.1 r.symm) (fun r => ne z (by simp) r.symm), fun q => or3 (k1 _ q) (fun r => D.TOi1 r) (fun r => n1.2.1 r.symm) (fun r => ne TO (by simp) r.symm), fun q => or3 (k1 _ q) (fun r => D.i12 r.symm) (fun r => n1.2.2.1 r.symm) (fun r => ne i2 (by simp) r.symm)⟩
    have f2 : z ∉ fp2 ∧ TO ∉ fp2 ∧ i1 ∉ fp2 := ⟨fun q => or3 (k2 _ q) (fun r => D.i2z r.symm) (fun r => n2.1 r.symm) (fun r => ne z (by simp) r.symm), fun q => or3 (k2 _ q) (fun r => D.TOi2 r) (fun r => n2.2.1 r.symm) (fun r => ne TO (by simp) r.symm), fun q => or3 (k2 _ q) (fun r => D.i12 r) (fun r => n2.2.2.1 r.symm) (fun r => ne i1 (by simp) r.symm)⟩
    exact pyNext_zipD_end D d1 d2 f1 f2 hz hTI hTO s1 s2 (by omega) fun h' tk hk => ⟨rfl, I.turnedL (t' := tk) (ch := [z, TI, TO, i1, i2]) (fun c o hb q =>
      hk c o (fun q' => hb (by simp [q'])) (fun q' => hb (by simp [q'])) (fun q' => hb (by simp [q'])) (fun q' => hb (by simp [q'])) q) hf⟩
  self := fun A i s Q E st h => wpAny_pyIter_zip st.1 h
def iZipL (K : PySem.W.Frag) (ta : TA) : TI := fun σ H R => ta σ H fun vs H1 => ∃ la lb xs ys, vs = [.ref la, .ref lb] ∧ SqL K H1 la xs ∧ SqL K H1 lb ys ∧ R (ItzS K (.lst la) (.lst lb)) H1
theorem pi_zipH {p : Addr × Obj} {X : Cx} {e e2 : Expr} {ta : TA} {pp pos tpos : Pos} {elts : List Expr} {kk : Nat} (hg : Gl X "zip") (hm : X.mg "zip" = none) (ha : PA X [e, e2] ta)
    (hs : starEach [e, e2] X.env = (false, eval e X.env) :: starEach [e2] X.env := by rfl) (hpl : (backTo pos (starEach [e2] X.env)).any (·.1) = false := by rfl) :
    PIX (fun Y => HotK Y p) X (.Tuple elts kk tpos) (.Call (.Name "zip" pp) [e, e2] [] pos) (iZipL X.K ta) := by
  refine ⟨fun pins s σ H R I h => ?_⟩
  refine Call_ (ld_blt I hg hm PyProof.Rows.boot_zip (PyProof.Rows.callWith_type1 (thn (ha.run pos pins s σ H _ I h) fun us s1 ⟨vs, H1, I1, r1, q1⟩ => ?_) hs hpl))
  obtain ⟨la, lb, xs, ys, ex, hqx, hqy, q⟩ := q1
  subst ex
  cases r1 with
  | @cons _ u1 _ _ r rr =>
    cases rr with
    | @cons _ u2 _ _ r' rr =>
      cases rr
      obtain ⟨o1, f1, i1, st1, l1⟩ := Sr.start (sr := .lst la) I1 hqx r
      obtain ⟨o2, f2, i2, st2, l2⟩ := Sr.start (sr := .lst lb) I1 hqy r'
      have fresh5 : ∀ c, c ∈ [s1.heap.objs.size + 4, s1.heap.objs.size + 2, s1.heap.objs.size + 3, s1.heap.objs.size, s1.heap.objs.size + 1] → FpOk X pins H1 c := fun c hcm => by
        have e' : c = s1.heap.objs.size + 4 ∨ c = s1.heap.objs.size + 2 ∨ c = s1.heap.objs.size + 3 ∨ c = s1.heap.objs.size ∨ c = s1.heap.objs.size + 1 := by simpa using hcm
        have hle : s1.heap.objs.size ≤ c := by
          rcases e' with z | z | z | z | z <;> rw [z] <;> first | exact Nat.le_refl _ | exact Nat.le_add_right _ _
        exact I1.fpOk hle (I1.hok.fresh hle)
      refine call_zipS f1 f2 (i1 _ fun _ _ e => e) (i2 _ fun c ob e => Heap.get?_push_of_some _ e) fun h' hz hTI hTO h1 h2 hsz hk => wpAny_pyIter_zip hz ?_
      have I2 : Inv X pins σ H1 { s1 with heap := h' } := I1.kept (t' := s1.toks) hk
      have ap : ZApart (s1.heap.objs.size + 4) (s1.heap.objs.size + 2) (s1.heap.objs.size + 3) s1.heap.objs.size (s1.heap.objs.size + 1) := by
        constructor <;> (intro z; simp at z)
      have b1 := l1 la rfl
      have b2 := l2 lb rfl
      have up : ∀ {b k : Nat}, b < s1.heap.objs.size → b ≠ s1.heap.objs.size + k := fun hb => Nat.ne_of_lt (Nat.lt_of_lt_of_le hb (Nat.le_add_right _ _))
      exact ⟨s1.heap.objs.size + 4, [s1.heap.objs.size + 4, s1.heap.objs.size + 2, s1.heap.objs.size + 3, s1.heap.objs.size, s1.heap.objs.size + 1], _, _, H1, rfl, I2,
        turn_zipH ap ⟨up b1, up b1, up b1, Nat.ne_of_lt b1⟩ ⟨up b2, up b2, Nat.ne_of_lt b2, up b2⟩, ⟨hz, hTI, ⟨_, _, hTO⟩, st1 _ _ h1, st2 _ _ h2⟩, fresh5, q⟩
theorem pg_tupH {p : Addr × Obj} {X : Cx} {es : List Expr} {k : Nat} {t : TGs} {n : Nat} {pos : Pos} (hk : HotK X p) (h : PGs X es t)
    (hn : (assignEach es X.env).length = n := by rfl) (hst : (assignEach es X.env).findIdx? (·.1) = none := by rfl) : PG X (.Tuple es k pos) (gTup X.K n t) := by
  refine ⟨fun pins s σ H v u Q I r hw => ?_⟩
  obtain ⟨a, xs, e1, hq, hl, hw⟩ := hw
  subst e1
  cases r
  obtain ⟨its, rv, ht, hz⟩ := I.tuple hq
  refine assign_tupH (hk.at I) ht (by simp [hn, ← hl, rv.length]) hst fun h' hx => ?_
  have I1 : Inv X pins σ H { s with heap := h' } := I.kept (t' := s.toks) fun b o e => hx b o (Nat.ne_of_lt (Heap.lt_size e)) e
  exact h.run pins _ σ H xs _ Q I1 (by simpa using rv) hw
theorem tg_tupH {p : Addr × Obj} {X : Cx} {es : List Expr} {pos : Pos} {is : List Nat} {k n : Nat} (hk : HotK X p) (h : STgs X es is is) (hl : is.length = n := by rfl) (hn : (assignEach es X.env).length = n := by rfl) (hst : (assignEach es X.env).findIdx? (·.1) = none := by rfl) : STg X (.Tuple es k pos) is (tT is) := by
  refine ⟨pg_weak (pg_tupH hk h.pg hn hst) fun v σ H Q ⟨G, ι, ρ, m, x, g, ev, r, q⟩ => ?_⟩
  have key : ∃ xs, x = .d (.tup xs) := by
    match x, q with
    | .d (.tup xs), _ => exact ⟨xs, rfl⟩
  obtain ⟨xs, rfl⟩ := key
  cases r with
  | tup hs r =>
    have q' : match setAll is xs ρ with
      | some ρ' => ∀ σ', EnvR X.kx G ι ρ' σ' → OffEq is σ σ' → Q σ' H
      | none => False := q
    refine ⟨_, _, rfl, g.sub.sqt hs, ?_, ⟨G, ι, ρ, m, xs, g, ev, r, q'⟩⟩
    rw [r.length, ← hl]
    cases hs : setAll is xs ρ with
    | none => rw [hs] at q'; exact q'.elim
    | some ρ' => exact setAll_len hs
theorem zipL_of {X : Cx} {W : XK} {a b : Expr} {fa fb : SE} {σ : L2.St} {H : Hp} {R : It → Hp → Prop} (h : tI X W (iZipLL fa fb) σ H R) : iZipL X.K (tCons (tE X W fa) (tCons (tE X W fb) tNil)) σ H R := by
  obtain ⟨G, ι, ρ, m, g, ev, p⟩ := h
  have p' : PostG X (fun G _ J xs => WalkD X.kx G J xs) W G ι H ((fa ρ m).bind fun x m => (fb ρ m).bind fun y m => match x, y with
    | .d (.lst xs), .d (.lst ys) => .ok ((xs.zip ys).map fun p => .tup [p.1, p.2]) m
    | _, _ => .no) R := p
  refine tE_mono (step_e g ev p') fun v H1 ⟨G1, ι1, m1, x, x1, g1, ev1, r1, _, p1⟩ => ?_
  refine tE_mono (step_e g1 ev1 p1) fun u H2 ⟨G2, ι2, m2, y, x2, g2, ev2, r2, _, p2⟩ => ?_
  have r1 := r1.ext x2
  have key : ∃ xs ys, x = .d (.lst xs) ∧ y = .d (.lst ys) := by
    match x, y, p2 with
    | .d (.lst xs), .d (.lst ys), _ => exact ⟨xs, ys, rfl, rfl⟩
  obtain ⟨xs, ys, rfl, rfl⟩ := key
  cases r1 with
  | lst h1 q1 =>
    cases r2 with
    | lst h2 q2 => exact ⟨_, _, _, _, rfl, g2.sub.sql h1, g2.sub.sql h2, p2 _ G2 ι2 H2 (Ext.refl ..) g2 (walkD_zip (sa := .lst _) (sb := .lst _) h1 h2 q1 q2)⟩
/-- [word for word, good in zip(words, matching) if good] -/
theorem ne_lcH {p : Addr × Obj} {X : Cx} {W : XK} {elt tg a b : Expr} {ifs : List Expr} {scope : Scope} {own : List (Str × Nat)} {pos zp zpos tpos : Pos} {elts : List Expr} {kk : Nat} {fa fb ts fe : SE} {tgt : Tg} (hk : HotK X p) (hN : X.N.Nodup) (hm : X.mg "zip" = none) (h : SEx X W a fa) (h' : SEx X W b fb) (ok : BlkOk X.N X.env.scope scope own)
    (hg : ∀ (s : Shared) (H : Hp) (c : Addr) (cl : List (Str × Addr)) (fp : List Addr), HotK (X.blk s H scope (compEnvC scope cl c X.env) fp) p → STg (X.blk s H scope (compEnvC scope cl c X.env) fp) (.Tuple elts kk tpos) (own.map (·.2)) tgt) (ht : ∀ (s : Shared) (H : Hp) (c : Addr) (cl : List (Str × Addr)) (fp : List Addr), STs (X.blk s H scope (compEnvC scope cl c X.env) fp) ifs ts)
    (he : ∀ (s : Shared) (H : Hp) (c : Addr) (cl : List (Str × Addr)) (fp : List Addr), SEx (X.blk s H scope (compEnvC scope cl c X.env) fp) W0 elt fe) (hgz : Gl X "zip" := by rfl) (hs : ∀ x, foldedSetIterable (.Call (.Name "zip" zp) [a, b] [] zpos) X.env x = pure x := by intro _; rfl)
    (hs1 : starEach [a, b] X.env = (false, eval a X.env) :: starEach [b] X.env := by rfl) (hs2 : starEach [b] X.env = [(false, eval b X.env)] := by rfl) (hpl : (backTo zpos (starEach [b] X.env)).any (·.1) = false := by rfl) :
    NEx X W (.ListComp elt [⟨.Tuple elts kk tpos, .Call (.Name "zip" zp) [a, b] [] zpos, ifs, 0⟩] scope pos) (nLc (own.map (·.2)) (iZipLL fa fb) tgt ts fe) := by
  have hi : PIX (fun Y => HotK Y p) X (.Tuple elts kk tpos) (.Call (.Name "zip" zp) [a, b] [] zpos) (iZipL X.K (tCons (tE X W fa) (tCons (tE X W fb) tNil))) := pi_zipH hgz hm (pa_cons h.pe (pa_cons h'.pe pa_nil hs2) hs1) hs1 hpl
  refine ⟨pe_weak (pe_lcX (C := fun Y => HotK Y p) (g := tG X (List.map (fun (x : Str × Nat) => x.2) own) tgt) (tt := tTe X W0 ts) (te := tE X W0 fe) hk (fun _ z => z) hN hi ok (fun s H C cl fp z => (hg s H C cl fp z).pg) (fun s H C cl fp => (ht s H C cl fp).pt) (fun s H C cl fp => (he s H C cl fp).pe) hs) fun σ H Q q => ?_⟩
  have q' := ne_lc (ts := ts) (fe := fe) q
  exact zipL_of (a := a) (b := b) q'
/-- name = [..], in one row -/
theorem ss_asgLcH {p : Addr × Obj} {X : Cx} {W : XK} {elt a b : Expr} {ifs : List Expr} {scope : Scope} {own : List (Str × Nat)} {pos zp zpos tpos py spos : Pos} {elts : List Expr} {kk i : Nat} {y : Str} {fa fb ts fe : SE} {tgt : Tg} (hk : HotK X p) (hN : X.N.Nodup) (hm : X.mg "zip" = none) (h : SEx X W a fa) (h' : SEx X W b fb) (ok : BlkOk X.N X.env.scope scope own)
    (hg : ∀ (s : Shared) (H : Hp) (c : Addr) (cl : List (Str × Addr)) (fp : List Addr), HotK (X.blk s H scope (compEnvC scope cl c X.env) fp) p → STg (X.blk s H scope (compEnvC scope cl c X.env) fp) (.Tuple elts kk tpos) (own.map (·.2)) tgt) (ht : ∀ (s : Shared) (H : Hp) (c : Addr) (cl : List (Str × Addr)) (fp : List Addr), STs (X.blk s H scope (compEnvC scope cl c X.env) fp) ifs ts)
    (he : ∀ (s : Shared) (H : Hp) (c : Addr) (cl : List (Str × Addr)) (fp : List Addr), SEx (X.blk s H scope (compEnvC scope cl c X.env) fp) W0 elt fe) (hsw : swapsWith (.ListComp elt [⟨.Tuple elts kk tpos, .Call (.Name "zip" zp) [a, b] [] zpos, ifs, 0⟩] scope pos) (some (.Name y py)) spos.line X.env = pure true) (hyl : X.env.scope.names.lookup y = some .local := by rfl) (hy : X.N[i]? = some y := by rfl)
    (hgz : Gl X "zip" := by rfl) (hs : ∀ x, foldedSetIterable (.Call (.Name "zip" zp) [a, b] [] zpos) X.env x = pure x := by intro _; rfl)
    (hs1 : starEach [a, b] X.env = (false, eval a X.env) :: starEach [b] X.env := by rfl) (hs2 : starEach [b] X.env = [(false, eval b X.env)] := by rfl) (hpl : (backTo zpos (starEach [b] X.env)).any (·.1) = false := by rfl) :
    SSt X W (.Assign [.Name y py] (.ListComp elt [⟨.Tuple elts kk tpos, .Call (.Name "zip" zp) [a, b] [] zpos, ifs, 0⟩] scope pos) spos) (sAsg (tN i) (eFz (nLc (own.map (·.2)) (iZipLL fa fb) tgt ts fe))) := by
  have hi : PIX (fun Y => HotK Y p) X (.Tuple elts kk tpos) (.Call (.Name "zip" zp) [a, b] [] zpos) (iZipL X.K (tCons (tE X W fa) (tCons (tE X W fb) tNil))) := pi_zipH hgz hm (pa_cons h.pe (pa_cons h'.pe pa_nil hs2) hs1) hs1 hpl
  refine ⟨ps_weak (ps_setLcX (C := fun Y => HotK Y p) (g := tG X (List.map (fun (x : Str × Nat) => x.2) own) tgt) (tt := tTe X W0 ts) (te := tE X W0 fe) hk (fun _ z => z) hN hy hyl hsw hi ok (fun s H C cl fp z => (hg s H C cl fp z).pg) (fun s H C cl fp => (ht s H C cl fp).pt) (fun s H C cl fp => (he s H C cl fp).pe) hs) fun D σ H ⟨G, ι, ρ, m, g, ev, q⟩ => ?_⟩
  have hx : tLc (tI X W (iZipLL fa fb)) (tG X (List.map (fun (x : Str × Nat) => x.2) own) tgt) (tTe X W0 ts) (tE X W0 fe) (own.map (·.2)) σ H (fun x H1 => gName i x σ H1 D.nx) := by
    refine ne_lc (W := W) (fe := fe) (ts := ts) ⟨G, ι, ρ, m, g, ev, ?_⟩
    unfold sAsg eFz at q
    cases hr : nLc (own.map (·.2)) (iZipLL fa fb) tgt ts fe ρ m with
    | no => rw [hr] at q; exact q
    | ex e m1 => rw [hr] at q; exact q
    | ok xs m1 =>
      rw [hr] at q
      intro l vs G' ι' H' e g' hq r
      obtain ⟨g2, e2⟩ := g'.lay hq (.lst vs)
      have q2 : PostS X W D G ι H (.nx (ρ.set i (some (.d (.lst xs)))) m1) := q
      exact q2 _ _ _ _ (e.trans e2) g2 (((ev.ext e).ext e2).set (x := .d (.lst xs)) (.lst (SqL.of upd_same) (RepAll.mono e2.sub r)) i)
  exact zipL_of (a := a) (b := b) hx
end DI
namespace DI
open PySem PySem.Spec PyProof.Rows L2
/-! ### exceptions: made and raised -/

/-- an own exception class without an own __init__, over ValueError -/
structure ExcF (K : Kx) (c : String) (C : Addr) : Prop where
  g : K.mg (Str.ofString c) = some (.ref C)
  q : PySem.W.excIn K.K C [.type "ValueError", .type "Exception", .type "BaseException", .type "object"] "ValueError.__new__" = true
  k : PySem.W.keepIn K.K (.ref C) = true
  s : PySem.W.subIn K.K (.ref C) (.type "BaseException") = some true
  t : PySem.W.typeIn K.K (.ref C) = some (.type "type")
section
variable {X : Cx} {W : XK} {c : String} {C : Addr} {p p2 pos pos' : Pos} {j : Nat} {x y : Str}
theorem ss_raise (c : String) (E : ExcF X.kx c C) (hc : X.calm = true) (tk : Tk X W) (hx : x = Str.ofString c := by rfl) (hg : Gl X x := by rfl) (hd : (x == ("__debug__" : Str)) = false := by decide +kernel) :
    SSt X W (.Raise (some (.Call (.Name x p) [.Constant (.str y) j p2] [] pos)) none pos') (sRaise ⟨c, none⟩) := by
  subst hx
  refine ⟨ps_weak (L2N.ps_raise hc tk (L2N.pmk_own PySem.F.excBase_ValueError E.q E.g E.k (raises_own E.s E.t) hg hd)) fun D σ H ⟨G, ι, ρ, m, g, ev, q⟩ => ?_⟩
  exact q (.ref C) none G ι H (Ext.refl ..) g ⟨C, E.g, rfl, rfl⟩
end
/-! ### isinstance of the exception that is handled -/
/-- the name x in such a question, and the answer -/
inductive IsF (K : Kx) (D : Addr) (x : Str) (b : Bool) : Prop
  | own (C : Addr) (h : K.mg x = some (.ref C)) (e : PySem.W.kitOne K.K (.ref D) (.ref C) = some b)
  | ty (T : String) (h : K.mg x = none) (hv : bootBuiltins x = some (.type T)) (hn : x ≠ "__name__") (e : PySem.W.kitOne K.K (.ref D) (.type T) = some b)
section
variable {X : Cx} {W : XK} {p : Addr × Obj} {D : Addr} {pos q1 q2 q3 : Pos} {x y : Str} {b : Bool}
theorem call_isH {cv : Value} (hk : HotK X p) (C : L2.ExcC X.K D) (hz : L2.Zc (.ref D) none p.2) (e : PySem.W.kitOne X.K (.ref D) cv = some b) : CallR X (.builtin "isinstance") (fun xs H Q => ∃ c, xs = [.ref p.1, c] ∧ (∀ u, RelV c u → u = cv) ∧ Q (.bl b) H) := by
  intro pins s σ H xs us Q I r h
  obtain ⟨c, rfl, hcv, q⟩ := h
  cases r with
  | cons rx rr =>
    cases rr with
    | cons rt rr =>
      cases rr
      cases rx
      have ec := hcv _ rt
      subst ec
      have hget := (hk.there I).1
      obtain ⟨_, vs, hv, _⟩ := hk.1
      have J : PySem.W.InstAt s.heap p.1 p.2 D none := by
        obtain ⟨a, oe⟩ := p
        obtain ⟨oc, od, oda, osl⟩ := oe
        obtain ⟨h1, h2⟩ := hz
        dsimp only at h1 h2 hv
        subst h1 h2 hv
        exact ⟨hget, rfl, rfl, trivial⟩
      exact PySem.W.kia_one (PySem.W.handS_kitx_exc C.hg C.hk C.hs C.hd C.ha C.hn C.ht C.hm) I.kIn J e (fun z => nomatch z) fun tk => ⟨.bl b, H, I.kept (t' := tk) fun _ _ z => z, rfl, q⟩
theorem se_isE (hk : HotK X p) (C : L2.ExcC X.K D) (hz : L2.Zc (.ref D) none p.2) (hm : X.mg "isinstance" = none) (F : IsF X.kx D x b) (hy : X.N[0]? = some y := by rfl) (hv : Vis X.env.scope y := by first | exact .inl rfl | exact .inr (.inl rfl) | exact .inr (.inr rfl)) (hgx : Gl X x := by rfl) (hg : Gl X "isinstance" := by rfl)
    (hdx : (x == ("__debug__" : Str)) = false := by decide +kernel) (hdy : (y == ("__debug__" : Str)) = false := by decide +kernel) (hcy : (y == ("__classdict__" : Str)) = false := by decide +kernel)
    (he : starEach (.Name y q2 :: [.Name x q3]) X.env = (false, eval (.Name y q2) X.env) :: starEach [.Name x q3] X.env := by rfl) (he2 : starEach [.Name x q3] X.env = [(false, eval (.Name x q3) X.env)] := by rfl) (hpl : (backTo pos (starEach [.Name x q3] X.env)).any (·.1) = false := by rfl) :
    SEx X W (.Call (.Name "isinstance" q1) [.Name y q2, .Name x q3] [] pos) (eIsE p.1 b) := by
  have key : ∃ (cv : Value) (c : V), PE X (.Name x q3) (tC c) ∧ (∀ u, RelV c u → u = cv) ∧ PySem.W.kitOne X.K (.ref D) cv = some b := by
    cases F with
    | own C h e => exact ⟨.ref C, .ref C, pe_glob hgx h rfl hdx, fun u r => r, e⟩
    | ty T h hv hn e => exact ⟨.type T, .ty T, pe_bltn hgx h hv (rfl : RelV (.ty T) (.type T)) hn hdx, fun u r => r, e⟩
  obtain ⟨cv, c, pT, hc, e⟩ := key
  refine ⟨pe_weak (pe_callB (call_isH hk C hz e) hg hm (by decide +kernel) (pa_cons (pe_var (i := 0) hy hv hdy hcy) (pa_cons pT pa_nil he2) he) (by decide +kernel) (by decide +kernel) he hpl) fun σ H Q ⟨G, ι, ρ, m, g, ev, q⟩ => ?_⟩
  have q' : PostE X W G ι H (eIsE p.1 b ρ m) Q := q
  unfold eIsE at q'
  split at q'
  · rename_i a hr
    split at q'
    · rename_i ha
      obtain ⟨v, h1, h2⟩ := ev.2 0 _ hr
      have h2 : v = .ref a := h2
      subst h2 ha
      exact ⟨_, h1, c, rfl, hc, q' (.bl b) G ι H (Ext.refl ..) g (.bl b)⟩
    · exact q'.elim
  · exact q'.elim
end
end DI
namespace DI
open PySem PySem.Spec PyProof.Rows L2
open LamX (CodeO TabB LamS lamEnv lamCx inv_table among_app lam_start2)
theorem io_apart {q : Addr} : ∀ (L : Io) (i j : Nat) (l l' : List Addr), L.flatten.Nodup → L[i]? = some l → L[j]? = some l' → j ≠ i → q ∈ l → q ∈ l' → False := by
  intro L
  induction L with
  | nil => intro i j l l' _ h; simp at h
  | cons x L ih =>
    intro i j l l' nd hi hj hne h1 h2
    rw [List.flatten_cons, List.nodup_append] at nd
    cases i with
    | zero =>
      cases j with
      | zero => exact hne rfl
      | succ j =>
        simp at hi hj
        subst hi
        exact nd.2.2 q h1 q (mem_io hj h2) rfl
    | succ i =>
      cases j with
      | zero =>
        simp at hi hj
        subst hj
        exact nd.2.2 q h2 q (mem_io hi h1) rfl
      | succ j =>
        simp at hi hj
        exact ih i j l l' nd.2.1 hi hj (fun e => hne (by rw [e])) h1 h2
section
variable {X : Cx} {pins : List (Addr × Obj)} {σ : L2.St} {G H : Hp} {ι : Io} {m : Mem} {s : Shared}
/-- the table is written, a code object is laid -/
theorem GR.code {K : Kx} (g : GR K G ι m H) {i : Nat} {P : Addr} {q : String} (hi : m[i]? = some (.tab P q)) :
    ι[i]? = some [P] ∧ G P = none ∧ ∃ ps, H P = some (.tbl ps) ∧ TriplesOk ps.toList ∧ (∀ (pos : Pos) (cv : Value), codeAmong pos ps.toList = some cv → ∃ c, cv = .ref c ∧ G c = some (CodeO c (Str.ofString q))) ∧
      ∀ (c' : Addr) (pos : Pos) , H c' = none → GR K (upd G c' (CodeO c' (Str.ofString q))) ι m (upd (upd H P (.tbl (ps ++ #[rawInt pos.line, rawInt pos.col, .ref c']))) c' (CodeO c' (Str.ofString q))) ∧
        Ext G ι H (upd G c' (CodeO c' (Str.ofString q))) ι (upd (upd H P (.tbl (ps ++ #[rawInt pos.line, rawInt pos.col, .ref c']))) c' (CodeO c' (Str.ofString q))) := by
  have hlt : i < ι.length := by rw [g.len]; exact (List.getElem?_eq_some_iff.mp hi).1
  have hl : ι[i]? = some ι[i] := List.getElem?_eq_getElem hlt
  obtain ⟨ps, el, hG, hP, ht, ha⟩ := g.obj i _ _ hl hi
  rw [el] at hl
  refine ⟨hl, hG, ps, hP, ht, ha, fun c' pos hc => ?_⟩
  obtain ⟨g1, g2⟩ := g.fresh hc
  have nPc : P ≠ c' := ne_of_none hP hc
  have mP : P ∈ ι.flatten := mem_io hl (by simp)
  have at_ : ∀ b, b ≠ P → b ≠ c' → upd (upd H P (.tbl (ps ++ #[rawInt pos.line, rawInt pos.col, .ref c']))) c' (CodeO c' (Str.ofString q)) b = H b := fun b h1 h2 => by rw [upd_ne h2, upd_ne h1]
  have x : Ext G ι H (upd G c' (CodeO c' (Str.ofString q))) ι (upd (upd H P (.tbl (ps ++ #[rawInt pos.line, rawInt pos.col, .ref c']))) c' (CodeO c' (Str.ofString q))) := by
    refine ⟨sub_upd g1, ⟨[], by simp, by simp⟩, fun a o e n => ?_, fun a e => ?_, fun a o e => ?_⟩
    · rw [at_ a (fun z => n (z ▸ mP)) (ne_of_none e hc)]; exact e
    · by_cases z : a = c'
      · subst z; exact hc
      · by_cases z2 : a = P
        · subst z2; rw [upd_ne nPc, upd_same] at e; cases e
        · rw [at_ a z2 z] at e; exact e
    · by_cases z : a = c'
      · subst z; exact .inr (.inl hc)
      · rw [upd_ne z] at e; exact .inl e
  refine ⟨⟨fun a o e => ?_, g.len, g.nd, fun j l o hj ho => ?_⟩, x⟩
  · by_cases z : a = c'
    · subst z; rw [upd_same] at e ⊢; exact e
    · rw [upd_ne z] at e
      rw [at_ a (fun z2 => by rw [z2, hG] at e; cases e) z]
      exact g.sub _ _ e
  · by_cases hji : j = i
    · subst hji
      rw [hl] at hj; cases hj
      rw [hi] at ho; cases ho
      refine ⟨_, rfl, by rw [upd_ne nPc]; exact hG, by rw [upd_ne nPc, upd_same], ?_, fun p' cv hcv => ?_⟩
      · simp only [Array.toList_append]; exact PySem.TriplesOk_snoc _ _ _ _ ht
      · simp only [Array.toList_append] at hcv
        rcases among_app _ ht hcv with z | z
        · obtain ⟨c0, e1, e2⟩ := ha p' cv z
          exact ⟨c0, e1, x.sub _ _ e2⟩
        · exact ⟨c', z, upd_same⟩
    · refine (g.obj j l o hj ho).mono x.sub fun a hal => ?_
      have n1 : a ≠ c' := fun z => g2 (z ▸ mem_io hj hal)
      have n2 : a ≠ P := fun z => io_apart ι i j _ l g.nd hl hj hji (by simp) (z ▸ hal)
      exact ⟨fun e => by rw [upd_ne n1]; exact e, at_ a n2 n1⟩
/-- the lambda is made: its code object is new, or found in the table -/
theorem lam_mk {c P : Addr} {q : String} {params : Arguments} {body : Expr} {scope : Scope} {pos : Pos} {E : Value → Shared → Prop} {Q : Value → Shared → Prop} (I : Inv X pins σ H s) (g : GR X.kx G ι m H) (hm0 : m[0]? = some (.tab P q)) (TB : TabB X.base X.mg c P) (hcode : X.env.code = .ref c)
    (hq : X.env.qual ++ "<lambda>" = Str.ofString q) (hdef : defaultsOf params X.env = ([], [])) (hfree : ∀ y ∈ scope.names, y.2 = .free → ∃ c, X.env.cells.lookup y.1 = some c)
    (h : ∀ (f c' : Addr) (pm ctv : Value) (G1 H1 : Hp) (s' : Shared), Inv X pins σ H1 s' → Ext G ι H G1 ι H1 → GR X.kx G1 ι m H1 →
      s'.heap.get? f = some (PySem.W.kla_obj "<lambda>" (X.env.qual ++ "<lambda>") params body scope (cloFrom X.env.cells scope.names []) pm c' ctv) → H1 f = none → f ∉ frs X.stack → G1 c' = some (CodeO c' (X.env.qual ++ "<lambda>")) → Q (.ref f) s') :
    wpAny (model X.prog X.w) X.A (eval (.Lambda params body scope pos) X.env) Q E s := by
  obtain ⟨hi, hG, ps, hP, ht, ha, new⟩ := g.code hm0
  rw [← hq] at ha new
  refine PySem.W.kla_eval hdef ?_
  have bP : s.heap.BuiltinsAt X.mg P := TB.bm.keeps I.bk
  have hP' : s.heap.get? P = some { cls := .none, data := .fields ps } := I.hok P _ hP
  have nofr : ∀ f, s.heap.objs.size ≤ f → f ∉ frs X.stack := fun f hf z => by
    rcases List.mem_cons.mp (I.stkSub _ z) with e | e
    · have h1 := I.lt
      rw [← e] at h1
      exact Nat.lt_irrefl _ (Nat.lt_of_lt_of_le h1 hf)
    · exact I.nofs hf e
  cases hc : codeAmong pos ps.toList with
  | none =>
    refine PySem.W.kla_makeFunction (mg := X.mg) (c := c) (P := P) (ps := ps) (closure_ok hfree) I.ok.glob (I.mod.glob.keeps I.bk) hcode (TB.code.keeps I.bk) hP' ht hc TB.gP bP fun c' ctv h' tk hx hge hlt hrec htb => ?_
    obtain ⟨c2, oc, vs, t, e2, hoc, hd, hv⟩ := hrec
    cases e2
    have hsz : s.heap.objs.size ≤ h'.objs.size := Nat.le_trans hge (Nat.le_of_lt hlt)
    have nC : H c' = none := I.hok.fresh hge
    have I1 := inv_table (t' := tk) (more := #[rawInt pos.line, rawInt pos.col, .ref c']) (h' := h'.push (PySem.W.kla_obj "<lambda>" (X.env.qual ++ "<lambda>") params body scope (cloFrom X.env.cells scope.names []) ((X.mg "__name__").getD .none) c' ctv)) I hP
      (fun b o hb e => Heap.get?_push_of_some _ (hx b o hb e)) (Heap.get?_push_of_some _ htb) hge ⟨oc, vs, t, Heap.get?_push_of_some _ hoc, hd, hv⟩
    obtain ⟨g1, x1⟩ := new c' pos nC
    refine h h'.objs.size c' ((X.mg "__name__").getD .none) ctv _ _ _ I1 x1 g1 (Heap.get?_push_size _ rfl) ?_ (nofr _ hsz) upd_same
    have n1 : h'.objs.size ≠ c' := Nat.ne_of_gt hlt
    have n2 : h'.objs.size ≠ P := Nat.ne_of_gt (Nat.lt_of_lt_of_le (Heap.lt_size hP') hsz)
    rw [upd_ne n1, upd_ne n2]
    exact I.hok.fresh hsz
  | some cv =>
    obtain ⟨c', e, hco⟩ := ha pos cv hc
    subst e
    refine PySem.W.kla_makeFunctionHit (mg := X.mg) (c := c) (P := P) (ps := ps) (closure_ok hfree) I.ok.glob (I.mod.glob.keeps I.bk) hcode (TB.code.keeps I.bk) hP' ht hc bP fun ctv h' tk hx hsz => ?_
    have I1 : Inv X pins σ H { s with heap := h'.push (PySem.W.kla_obj "<lambda>" (X.env.qual ++ "<lambda>") params body scope (cloFrom X.env.cells scope.names []) ((X.mg "__name__").getD .none) c' ctv), toks := tk } := I.kept fun b o e => Heap.get?_push_of_some _ (hx b o e)
    exact h h'.objs.size c' ((X.mg "__name__").getD .none) ctv G H _ I1 (Ext.refl ..) g (Heap.get?_push_size _ rfl) (I.hok.fresh hsz) (nofr _ hsz) hco
end
/-- the lambda's context, its exceptions' contexts None -/
abbrev lamXe (X : Cx) (A : Around) (outer : List PySem.Env) (s : Shared) (H : Hp) (E : XK) (scope : Scope) (f c' : Addr) : Value → Shared → Prop := fun e s' => wpAny (model X.prog X.w) (A.deeper (lamEnv X scope s.heap.objs.size f c')) (leaving (lamEnv X scope s.heap.objs.size f c') e)
    (fun _ s'' => L2N.CX X.prog X.w outer H s E e s'') (fun e' s'' => L2N.CX X.prog X.w outer H s E e' s'') s'
abbrev lamCxN (X : Cx) (A : Around) (outer : List PySem.Env) (s : Shared) (H : Hp) (E : XK) (scope : Scope) (f c' : Addr) : Cx := (lamCx X A outer s H E scope f c').tr [] (lamXe X A outer s H E scope f c')
section
variable {X : Cx} {pins : List (Addr × Obj)} {σ : L2.St} {H : Hp} {s : Shared}
theorem lam_tk {A : Around} {outer : List PySem.Env} {s : Shared} {H : Hp} {E : XK} {scope : Scope} {f c' : Addr} : Tk (lamCxN X A outer s H E scope f c') E := L2N.takes_of rfl rfl rfl rfl
/-- a(), in the def that got the lambda: Z is that def's context, entered at s -/
theorem pe_actN {CXg : CXT} {Eg : XK} {Ng : List Str} {qg : Str} {sg : Scope} {g f c' : Addr} {cdg pm ctv : Value} {params : Arguments} {body : Expr} {scope : Scope} {k i : Nat} {a : Str} {pn : List (Addr × Obj)} {xe : Value → Shared → Prop} {W : WX} {tb : XK → TE} {p1 p2 : Pos}
    (I : Inv X pins σ H s) (L : LamS X.env.scope scope) (hf : s.heap.get? f = some (PySem.W.kla_obj "<lambda>" (X.env.qual ++ "<lambda>") params body scope (cloFrom X.env.cells scope.names []) pm c' ctv)) (hfn : H f = none) (hfr : f ∉ frs X.stack)
    (hbind : bindArgs (PySem.W.kla_fn "<lambda>" (X.env.qual ++ "<lambda>") params body scope (cloFrom X.env.cells scope.names []) pm (.ref c') ctv) ⟨[], []⟩ = pure [])
    (tk : L2N.Takes ((cxOf CXg X.prog X.w X.K X.mg X.base Ng qg sg g cdg X.A X.stack s H Eg).tr pn xe) W) (hr : Room (k + 1) (X.A.deeper (envOfC qg sg s.heap.objs.size g cdg)))
    (hbody : ∀ (E : XK) (A : Around) (outer : List PySem.Env) (s : Shared) (H : Hp), Room k (A.deeper (lamEnv X scope s.heap.objs.size f c')) → PE (lamCxN X A outer s H E scope f c') body (tb E))
    (hN : Ng[i]? = some a) (hv : Vis sg a) (hd : (a == ("__debug__" : Str)) = false := by decide) (hcd : (a == ("__classdict__" : Str)) = false := by decide) :
    PE ((cxOf CXg X.prog X.w X.K X.mg X.base Ng qg sg g cdg X.A X.stack s H Eg).tr pn xe) (.Call (.Name a p1) [] [] p2)
      (fun σZ HZ Q => ∃ E : XK, (∀ cls d H', E cls d H' → W cls d σZ H') ∧ σZ[i]? = some (some (.ref f)) ∧ HZ c' = some (CodeO c' (X.env.qual ++ "<lambda>")) ∧ tb E σ HZ Q) := by
  refine ⟨fun pinsZ sZ σZ HZ Q IZ h => ?_⟩
  obtain ⟨E, hW, hs, hc, ht⟩ := h
  refine wpAny_Call_Name_kw (thn ((pe_var (pos := p1) (i := i) hN hv hd hcd).run pinsZ sZ σZ HZ (fun v H1 => v = .ref f ∧ H1 = HZ) IZ ⟨.ref f, hs, rfl, rfl⟩) fun u s1 ⟨v, H1, I1, r1, q1⟩ => ?_)
  obtain ⟨ev, eH⟩ := q1
  subst ev
  rw [eH] at I1
  obtain rfl : u = Value.ref f := r1
  have of1 : s1.heap.get? f = some (PySem.W.kla_obj "<lambda>" (X.env.qual ++ "<lambda>") params body scope (cloFrom X.env.cells scope.names []) pm c' ctv) := I1.base.keep f _ hf hfn hfr (fun z => nomatch (show f ∈ ([] : List Addr) from z))
  refine PySem.W.callWith_F0 ⟨_, _, _, _, of1⟩ ?_
  have un : Un (frs X.stack) [] H HZ s.heap s1.heap := I1.base
  obtain ⟨⟨oc, vs, t, hoc, hdc, hvc⟩, _, _⟩ := I1.hok c' _ hc
  have rc : codeAny (model X.prog X.w) (X.A.deeper (envOfC qg sg s.heap.objs.size g cdg)) (.call (.ref f) ⟨[], []⟩) (CR (L2N.CX X.prog X.w) (envOfC qg sg s.heap.objs.size g cdg :: X.stack) X.prog X.w HZ s1 Q E) s1 := by
    refine PySem.W.kla_callFunE hr.depth of1 rfl L.co L.gen rfl ⟨c', oc, vs, t, rfl, hoc, hdc, hvc⟩ ?_
    rw [hbind]
    refine wpAny_pure (wpAny_newFunctionEnv (fun y hy => (L.own y hy).2) (fun y hy => absurd hy (by simp)) (fun h₁ hns hsb => ⟨I1.nolimit.fresh _ hsb, ?_⟩) L.kind)
    show codeAny _ _ (.expr body (lamEnv X scope s1.heap.objs.size f c')) _ _
    have kp : ∀ b o, s1.heap.get? b = some o → h₁.get? b = some o := fun b o e => hsb.extBut b o (Nat.ne_of_lt (Heap.lt_size e)) (Heap.get?_push_of_some _ e)
    have J0 : Inv (lamCx X (X.A.deeper (envOfC qg sg s.heap.objs.size g cdg)) (envOfC qg sg s.heap.objs.size g cdg :: X.stack) s1 HZ E scope f c') [] σ HZ { s1 with heap := h₁, toks := s1.toks + ([] : List (Str × Value)).length } :=
      lam_start2 I L I1.env0 hr.hd un hns kp
    have J : Inv (lamCxN X (X.A.deeper (envOfC qg sg s.heap.objs.size g cdg)) (envOfC qg sg s.heap.objs.size g cdg :: X.stack) s1 HZ E scope f c') [] σ HZ { s1 with heap := h₁, toks := s1.toks + ([] : List (Str × Value)).length } := J0.toTry _
    refine PySem.W.kla_codeExpr (wpAny_mono ((hbody E _ _ s1 HZ (hr.deeper _)).run [] _ _ HZ Q J ht) (fun v s' hq => ?_) fun e s' hq => hq)
    obtain ⟨w', H', J', rv, q⟩ := hq
    exact ⟨w', H', J'.os, J'.bare, J'.base, J'.hok, rv, q⟩
  refine wpAny_call (codeAny_mono rc fun r s' hq => ?_)
  cases r with
  | error e => 
    obtain ⟨a', B', H', cls, d, e1, fl, hok, ub, na, os, ag, hE⟩ := hq
    exact L2N.passAt tk σZ pinsZ HZ s1 e s' I1 ⟨a', B', H', cls, d, e1, fl, hok, ub, na, os, ag, hW _ _ _ hE⟩
  | ok fl =>
    cases fl with
    | ret u => exact I1.after hq
    | next => exact False.elim hq
    | brk => exact False.elim hq
    | cont => exact False.elim hq
end
end DI
namespace DI
open PySem PySem.Spec PyProof.Rows L2
open LamX (CodeO TabB LamS lamEnv lamCx)
/-- what the body of a def called while an exception is handled gives -/
structure CxH (X : Cx) (W : XK) (k : Nat) (p : Addr × Obj) (D : Addr) : Prop where
  tk : Tk X W
  rm : L2H.RoomH k X.A
  nd : X.N.Nodup
  hk : HotK X p
  hz : L2.Zc (.ref D) none p.2
/-- the def x, called with the handled exception, of the class c, answers with a text -/
structure NmS (P : Program) (w : World) (K : Kx) (base : Heap) (k : Nat) (x : Str) (c : String) (str : List Char) : Prop where
  ex : ∃ (f : Addr) (fd : FuncData) (ps : List Str) (D : Addr), K.mg x = some (.ref f) ∧ PySem.W.keepIn K.K (.ref f) = true ∧ Binds K.K fd ps [] ∧ ps.length = 1 ∧ K.mg (Str.ofString c) = some (.ref D) ∧
    ∀ (A : Around) (outer : List PySem.Env) (s : Shared) (H : Hp) (us : List Value) (Q : VK) (E : XK) (p : Addr × Obj), L2H.RoomH k A → L2H.Hot1 A p → L2H.PinOk outer H s p → Env0 P w K.K K.mg base A outer s H → L2.Zc (.ref D) none p.2 → BindsTo s fd ⟨us, []⟩ (ps.zip us) → us = [.ref p.1] →
      (∃ G ι m, GR K G ι m H ∧ ∀ v G' ι' H', Ext G ι H G' ι' H' → GR K G' ι' m H' → RepV K G' ι' v (.d (.str str)) → Q v H') → codeAny (model P w) A (.call (.ref f) ⟨us, []⟩) (CR (L2N.CX P w) outer P w H s Q E) s
section
variable {P : Program} {w : World} {K : Kx} {base : Heap}
theorem nm_ok {x qual : Str} {st : Stmt} {f D : Addr} {fd : FuncData} {N ps : List Str} {k : Nat} {s : Nat → SS} {c : String} {str : List Char} (F : L2.Fun K.K x qual st f fd) (S : FnScope N ps (defScope st)) (hn : ps.length = 1)
    (hm : K.mg x = some (.ref f)) (hk : PySem.W.keepIn K.K (.ref f) = true) (hb : Binds K.K fd ps []) (hD : K.mg (Str.ofString c) = some (.ref D))
    (body : ∀ (X : Cx) (W : XK) (cdv : Value) (A : Around) (outer : List PySem.Env) (sh : Shared) (H : Hp) (p : Addr × Obj), X = L2H.cxH (L2N.CX P w) P w K.K K.mg base N qual (defScope st) f cdv A outer sh H W p → CxH X W k p D → SSs X W (defBody st) (s p.1))
    (mean : ∀ a m, mkFn N.length (s a) [.raw a] m = .ok (.d (.str str)) m) : NmS P w K base (k + 1) x c str := by
  obtain ⟨oc, od, kV, doc, pm, an, cdv, ct, osl, rfl, lk, hcd⟩ := F.ex
  refine ⟨f, _, ps, D, hm, hk, hb, hn, hD, fun A outer s0 H us Q E p hr hot hpin e0 hz hbt hus hq => ?_⟩
  subst hus
  have KX : K.K.In s0.heap := e0.mod.kin.keeps fun b o e => (e0.bs b o e).1
  have lim : s0.heap.NoLimit := e0.mod.nolimit.keeps fun b o e => (e0.bs b o e).1
  have hkind : ∀ y ∈ ps.zip [Value.ref p.1], (defScope st).names.lookup y.1 = some .local ∨ ((defScope st).names.lookup y.1 = some .cell ∧ ((cellsFrom (s0.heap.objs.size + 1) (defScope st).names []).lookup y.1).isSome = true) := fun ⟨n, v⟩ hy => by
    rcases S.par n (List.of_mem_zip hy).1 with q | q
    · exact .inl q
    · exact .inr ⟨q, PySem.W.cellsFrom_some _ _ _ (.inl q)⟩
  refine codeAny_call_function hr.depth (KX _ _ lk) rfl S.co S.gen rfl (PySem.W.codeRec_of KX hcd) (hbt _ _ _ _ ?_)
  refine wpAny_newFunctionEnv_cells S.kind hkind fun env he s1 x => ?_
  subst he
  refine ⟨lim.keeps x.toInCall.keep, codeAny_func ?_⟩
  have I : Inv (L2H.cxH (L2N.CX P w) P w K.K K.mg base N qual (defScope st) f cdv A outer s0 H E p) [] (L2.start N [V.ref p.1]) H s1 := L2H.inv_startH S hpin e0 (by simp [hn]) (.cons rfl .nil) x
  have cx : CxH (L2H.cxH (L2N.CX P w) P w K.K K.mg base N qual (defScope st) f cdv A outer s0 H E p) E k p D :=
    ⟨L2N.takes_of rfl rfl rfl rfl, hr.deeper _, S.nd, ⟨hot, (fun v z => by obtain ⟨_, vs, e, _⟩ := hot; rw [e] at z; cases z), .inl (List.mem_singleton.mpr rfl)⟩, hz⟩
  obtain ⟨G, ι, m, g, q⟩ := hq
  have q2 : tS (L2H.cxH (L2N.CX P w) P w K.K K.mg base N qual (defScope st) f cdv A outer s0 H E p) E (s p.1) { nx := fun _ H' => Q .non H', rt := Q } (L2.start N [V.ref p.1]) H := by
    refine ⟨G, ι, _, m, g, envR_start (ds := [PV.raw p.1]) (.cons rfl .nil), ?_⟩
    have hp : PostK K E G ι H (fnR m.length (s p.1 ([PV.raw p.1].map some ++ List.replicate (N.length - [PV.raw p.1].length) none) m)) Q := by
      have e := mean p.1 m
      unfold mkFn at e
      rw [e]
      exact q
    have hι : m.length = ι.length := g.len.symm
    cases ho : s p.1 ([PV.raw p.1].map some ++ List.replicate (N.length - [PV.raw p.1].length) none) m with
    | no => rw [ho] at hp; exact hp.elim
    | bk _ _ => rw [ho] at hp; exact hp.elim
    | ct _ _ => rw [ho] at hp; exact hp.elim
    | ex e m1 => rw [ho] at hp; exact fun c dx G' ι' H' x g' r' => hp c dx G' _ H' (ext_take x hι) (g'.take _) r'
    | nx ρ1 m1 => rw [ho] at hp; exact fun σ' G' ι' H' x g' _ => hp .non G' _ H' (ext_take x hι) (g'.take _) .non
    | rt v m1 =>
      rw [ho] at hp
      cases v with
      | d d => exact fun v G' ι' H' x g' r' => hp v G' _ H' (ext_take x hι) (g'.take _) r'
      | raw a => exact fun v G' ι' H' x g' r' => hp v G' _ H' (ext_take x hι) (g'.take _) r'
      | obj i =>
        have hp' : PostK K E G ι H (if i < m.length then .ok (.obj i) (m1.take m.length) else .ok (.obj i) m1) Q := hp
        by_cases hi : i < m.length
        · rw [if_pos hi] at hp'
          intro v G' ι' H' x g' r'
          refine hp' v G' _ H' (ext_take x hι) (g'.take _) ?_
          obtain ⟨a, l, h1, h2⟩ := r'
          exact ⟨a, l, by rw [List.getElem?_take, if_pos hi]; exact h1, h2⟩
        · rw [if_neg hi] at hp'
          exact fun v G' ι' H' x g' r' => hp' v G' ι' H' x g' r'
  refine wpAny_mono ((body _ E cdv A outer s0 H p rfl cx).pss.run [] s1 (L2.start N [V.ref p.1]) H _ I q2) (fun fl s' hs => ?_) fun e s' hs => hs
  have fin : ∀ {σ' : L2.St} {H' : Hp} {v : V} {u : Value}, Inv (L2H.cxH (L2N.CX P w) P w K.K K.mg base N qual (defScope st) f cdv A outer s0 H E p) [] σ' H' s' → RelV v u → Q v H' → CE outer P w H s0 Q u s' :=
    fun {σ' H' v u} J rv q => ⟨v, H', J.os, J.bare, J.base, J.hok, rv, q⟩
  cases fl with
  | ret u =>
    obtain ⟨v, σ', H', J, rv, q⟩ := hs
    exact fin J rv q
  | next =>
    obtain ⟨σ', H', J, q⟩ := hs
    exact fin (v := V.non) (u := Value.none) J rfl q
  | brk =>
    obtain ⟨_, _, _, q⟩ := hs
    exact False.elim q
  | cont =>
    obtain ⟨_, _, _, q⟩ := hs
    exact False.elim q
end
end DI
namespace DI
open PySem PySem.Spec PyProof.Rows L2
open LamX (CodeO TabB LamS lamEnv lamCx)
/-- the text of the def that tries -/
inductive TryB : List Stmt → Prop
  | mk {p1 p2 p3 p4 p5 p6 p7 p8 p9 p10 p11 p12 p13 p14 p15 p16 p17 p18 p19 : Pos} {j j2 k2 : Nat} :
    TryB [.Assign [.Name "got" p1] (.Constant .none j p2) p3, .Try [.Assign [.Name "got" p4] (.Tuple [.Constant (.str "told") j2 p5, .Call (.Name "door" p6) [] [] p7] k2 p8) p9]
      [.ExceptHandler (some (.Name "AnchorError" p10)) (some "e") [.Assign [.Name "got" p11] (.Call (.Name "_law_name_of" p12) [.Name "e" p13] [] p14) p15] p16] [] [] p17, .Return (some (.Name "got" p18)) p19]
structure TryS (P : Program) (w : World) (K : Kx) (base : Heap) (k : Nat) (nm : String → Option (List Char)) : Prop where
  ex : ∃ (g CA : Addr) (pg : Arguments) (bg : List Stmt) (sg : Scope) (dV kV doc pm cdv ct oc : Value) (an od : Option Addr) (osl : Array (Option Value)),
    K.mg "_law_try" = some (.ref g) ∧ PySem.W.keepIn K.K (.ref g) = true ∧ K.K.lookup g = some ⟨oc, od, .func (PySem.W.fnOf "_law_try" "_law_try" pg bg sg dV kV doc pm an cdv ct), osl⟩ ∧ PySem.W.codeIn K.K cdv "_law_try" = true ∧
    Binds K.K (PySem.W.fnOf "_law_try" "_law_try" pg bg sg dV kV doc pm an cdv ct) ["door"] [] ∧ FnScope ["door", "got", "e"] ["door"] sg ∧ TryB bg ∧ (sg.names.lookup ("AnchorError" : Str) = some .globalImplicit ∧ sg.names.lookup ("_law_name_of" : Str) = some .globalImplicit ∧
    sg.names.lookup ("door" : Str) = some .local ∧ sg.names.lookup ("got" : Str) = some .local ∧ sg.names.lookup ("e" : Str) = some .local) ∧ K.mg "AnchorError" = some (.ref CA) ∧
    ∀ c str, nm c = some str → NmS P w K base k "_law_name_of" c str ∧ ∃ C, K.mg (Str.ofString c) = some (.ref C) ∧ PySem.W.exmOne K.K (.ref C) (.ref CA) = some true
section
variable {X : Cx} {W : XK} {pins : List (Addr × Obj)} {σ : L2.St} {H : Hp} {s : Shared}
/-- what the def that names says of the handled exception at a -/
def tNm (K : Kx) (nm : String → Option (List Char)) (i : Nat) (a : Addr) (cls : Value) (d : Option Addr) : TE := fun σ H Q => σ[i]? = some (some (.ref a)) ∧ d = none ∧ ∃ c str C, nm c = some str ∧ K.mg (Str.ofString c) = some (.ref C) ∧ cls = .ref C ∧
  ∃ G ι m, GR K G ι m H ∧ ∀ v G' ι' H', Ext G ι H G' ι' H' → GR K G' ι' m H' → RepV K G' ι' v (.d (.str str)) → Q v H'
theorem pe_nm {nm : String → Option (List Char)} {k i : Nat} {a : Addr} {oe : Obj} {cls : Value} {d : Option Addr} {x y : Str} {q1 q2 pos : Pos} (F : ∀ c str, nm c = some str → NmS X.prog X.w X.kx X.base k x c str) (hr : L2H.RoomH k X.A) (hot : L2H.Hot1 X.A (a, oe)) (hp : (a, oe) ∈ X.pn) (hz : L2N.Zn cls d oe)
    (hg : Gl X x) (hN : X.N[i]? = some y) (hv : Vis X.env.scope y) (hdb : (x == ("__debug__" : Str)) = false := by decide +kernel) (hdy : (y == ("__debug__" : Str)) = false := by decide +kernel) (hcy : (y == ("__classdict__" : Str)) = false := by decide +kernel)
    (he : starEach [.Name y q2] X.env = [(false, eval (.Name y q2) X.env)] := by rfl) :
    PE X (.Call (.Name x q1) [.Name y q2] [] pos) (tNm X.kx nm i a cls d) := by
  refine ⟨fun pins s σ H Q I h => ?_⟩
  obtain ⟨hs, hd, c, str, C, hc, hC, hcls, G, ι, m, g, q⟩ := h
  obtain ⟨f, fd, ps, D, h1, h2, h3, h4, h5, h6⟩ := (F c str hc).ex
  have hCD : C = D := by
    have z := hC.symm.trans h5
    exact Value.ref.inj (Option.some.inj z)
  subst hCD
  refine wpAny_Call_Name_kw (ld_glob I hg h1 ?_ hdb)
  refine PySem.W.callWith_K (h₀ := X.base) I.ok.mod.kin h2 (thn ((pa_cons (pe_var (i := i) hN hv hdy hcy) pa_nil he).run pos pins s σ H (fun vs H1 => vs = [.ref a] ∧ H1 = H) I ⟨.ref a, hs, rfl, rfl⟩) fun us s1 ⟨vs, H1, I1, r, e1, e2⟩ => ⟨I1.kIn, ?_⟩) he (by rfl)
  subst e1
  rw [e2] at I1
  cases r with
  | @cons _ u _ us r rr =>
    cases rr
    cases r
    have P1 := I1.pin (a, oe) (List.mem_append_left _ hp)
    have hpin : L2H.PinOk X.stack H s1 (a, oe) := ⟨P1.1, P1.2.1, fun hm => (List.mem_cons.mp (I1.stkSub a hm)).elim P1.2.2.1 P1.2.2.2.1, P1.2.2.2.2⟩
    have b := h3 s1 [.ref a] I1.kIn (by simp [h4])
    rw [List.append_nil] at b
    have hz' : L2.Zc (.ref C) none oe := by rw [← hcls, ← hd]; exact hz.zc
    refine wpAny_call (codeAny_mono (h6 X.A X.stack s1 H [.ref a] Q (fun _ _ _ => False) (a, oe) hr hot hpin I1.env0 hz' b rfl ⟨G, ι, m, g, q⟩) fun r s' hq => ?_)
    cases r with
    | error e =>
      obtain ⟨_, _, _, _, _, _, _, _, _, _, _, _, hE⟩ := hq
      exact hE.elim
    | ok fl =>
      cases fl with
      | ret u => exact I1.after hq
      | next => exact False.elim hq
      | brk => exact False.elim hq
      | cont => exact False.elim hq
theorem takes0 {Y : Cx} : L2N.Takes Y (fun _ _ _ _ => False) := fun _ _ x => by
  obtain ⟨_, _, _, _, _, _, _, _, _, _, _, _, _, _, _, _, z⟩ := x
  exact z.elim
def tDoor (X : Cx) (fb : SE) (σ0 : L2.St) (f c' : Addr) (W : WX) : TE := fun σZ HZ Q => ∃ E : XK, (∀ cls d H', E cls d H' → W cls d σZ H') ∧ σZ[0]? = some (some (.ref f)) ∧ HZ c' = some (CodeO c' (X.env.qual ++ "<lambda>")) ∧ tE X E fb σ0 HZ Q
def tTold (X : Cx) (fb : SE) (σ0 : L2.St) (f c' : Addr) (W : WX) : TS := tAsg (tTup (tCons (tC (.str "told")) (tCons (tDoor X fb σ0 f c' W) tNil))) (gName 1)
def tSay (X : Cx) (nm : String → Option (List Char)) (a : Addr) (cls : Value) (d : Option Addr) : TS := tAsg (tNm X.kx nm 2 a cls d) (gName 1)
/-- _law_try(lambda: body) -/
theorem se_try {k : Nat} {nm : String → Option (List Char)} {fb : SE} {c P : Addr} {q : String} {params : Arguments} {body : Expr} {scope : Scope} {p lpos pos : Pos} (T : TryS X.prog X.w X.kx X.base k nm) (hr : Room (k + 2) X.A) (TB : TabB X.base X.mg c P) (hcode : X.env.code = .ref c) (hq : X.env.qual ++ "<lambda>" = Str.ofString q)
    (L : LamS X.env.scope scope) (hdef : defaultsOf params X.env = ([], [])) (hbind : ∀ (q : Str) (cl : List (Str × Addr)) (pm cv ctv : Value), bindArgs (PySem.W.kla_fn "<lambda>" q params body scope cl pm cv ctv) ⟨[], []⟩ = pure [])
    (hbody : ∀ (A : Around) (outer : List PySem.Env) (s : Shared) (H : Hp) (E : XK) (f c' : Addr), Room k (A.deeper (lamEnv X scope s.heap.objs.size f c')) → SEx (lamCxN X A outer s H E scope f c') E body fb) (hg : Gl X "_law_try" := by rfl) :
    SEx X W (.Call (.Name "_law_try" p) [.Lambda params body scope lpos] [] pos) (eTry P q nm fb) := by
  refine ⟨⟨fun pins s σ0 H Q I h => ?_⟩⟩
  obtain ⟨G, ι, ρ, m, g, ev, post⟩ := h
  obtain ⟨gt, CA, pg, bg, sg, dV, kV, doc, pm, cdv, ct, oc, an, od, osl, t1, t2, t3, t4, t5, t6, t7, ⟨l1, l2, l3, l4, l5⟩, t8, t9⟩ := T.ex
  cases t7
  have hm0 : m[0]? = some (.tab P q) ∧ PostE X W G ι H (match fb ρ m with
    | .ok (.d v) m1 => .ok (.d (.tup [.str k_told, v])) m1
    | .ok _ _ => .no
    | .ex e m1 => (match e.pay, nm e.cls with
      | none, some s => .ok (.d (.str s)) m1
      | _, _ => .no)
    | .no => .no) Q := by
    unfold eTry at post
    split at post
    · rename_i T' q' e
      split at post
      · rename_i e2
        obtain ⟨e3, e4⟩ := e2
        subst e3 e4
        exact ⟨e, post⟩
      · exact post.elim
    · exact post.elim
  obtain ⟨hm0, post⟩ := hm0
  refine wpAny_Call_Name_kw (ld_glob I hg t1 ?_ (by decide +kernel))
  refine PySem.W.callWith_K (h₀ := X.base) I.ok.mod.kin t2 ?_ (by rfl) (by rfl)
  show wpAny _ _ (spliced ((false, eval (.Lambda params body scope lpos) X.env) :: backTo pos (starEach [] X.env))) _ _ s
  refine Calls.spliced_cons (lam_mk I g hm0 TB hcode hq hdef (L.has I.ok) fun f c' pm' ctv G1 H1 s' I1 x1 g1 hf hfn hfr hco => ?_)
  refine Calls.spliced_nil ⟨I1.kIn, ?_⟩
  have rc : codeAny (model X.prog X.w) X.A (.call (.ref gt) ⟨[.ref f], []⟩) (CR C8.CX0 X.stack X.prog X.w H1 s' Q C8.E0) s' := by
    refine LamX.run_ofS (N := ["door", "got", "e"]) (ps := ["door"]) (us := [.ref f]) (vs := [.ref f]) t3 t4 t6 hr I1.env0 (t5 s' [.ref f] I1.kIn rfl) (.cons rfl .nil) rfl fun hr' => ?_
    generalize hX' : cxOf C8.CX0 X.prog X.w X.K X.mg X.base ["door", "got", "e"] "_law_try" sg gt cdv X.A X.stack s' H1 C8.E0 = X'
    have eN : X'.N = (["door", "got", "e"] : List Str) := by subst hX'; rfl
    have nd : X'.N.Nodup := by rw [eN]; decide +kernel
    have hloc : ∀ {y : Str}, sg.names.lookup y = some .local → X'.env.scope.names.lookup y = some .local := fun h => by subst hX'; exact h
    have gl : ∀ {y : Str}, sg.names.lookup y = some .globalImplicit → Gl X' y := fun h => by subst hX'; exact h
    have got : ∀ Y : Cx, Y.N = X'.N → Y.env = X'.env → ∀ {e : Expr} {te : TE} {p1 p2 : Pos}, PE Y e te → swapsWith e (some (.Name "got" p1)) p2.line Y.env = pure false → PS Y (.Assign [.Name "got" p1] e p2) (tAsg te (gName 1)) := fun Y e1 e2 {e te p1 p2} he hs =>
      ps_set (by rw [e1]; exact nd) (by rw [e1, eN]; rfl) (by rw [e2]; exact .inl (hloc l4)) he hs (.inr (by rw [e2]; exact hloc l4))
    have kX : X'.kx = X.kx := by subst hX'; rfl
    have mE : X'.mg "AnchorError" = some (.ref CA) := by subst hX'; exact t8
    have rX : Room (k + 1) X'.A := by subst hX'; exact hr'
    refine ⟨tSeq (tAsg (tC .non) (gName 1)) (tSeq (fun D σ H => tTold X fb σ0 f c' (wAs X'.K (.ref CA) 2 (tSay X nm) (fun _ _ _ _ => False) D) D σ H) (tRet (tVar 1))), ?_, ?_⟩
    · refine pss_cons (got X' rfl rfl pe_non rfl) (pss_cons (L2N.ps_try_as (i := 2) (tb := tTold X fb σ0 f c') (ts := tSay X nm)
        (by subst hX'; rfl) (by subst hX'; rfl) nd (by rw [eN]; rfl) (hloc l5) ⟨gl l1, by decide +kernel, .inl mE⟩ takes0 (fun W pn xe tk _ => ?_) (fun a oe cls d pn hz hfs => ?_)) (pss_one (ps_ret (pe_var (i := 1) (by rw [eN]; rfl) (.inl (hloc l4)) (by decide +kernel) (by decide +kernel)))))
      · refine pss_one (got (X'.tr pn xe) rfl rfl (pe_tup (pa_cons pe_str (pa_cons ?_ pa_nil (by rfl)) (by rfl))) (by rfl))
        subst hX'
        exact pe_actN (i := 0) (tb := fun E => tE X E fb) I1 L hf hfn hfr (hbind _ _ _ _ _) tk hr' (fun E A outer s H hr2 => (hbody A outer s H E f c' hr2).pe) (by rfl) (.inl l3) (by decide +kernel) (by decide +kernel)
      · refine pss_one (got (X'.suite a ((a, oe) :: pn)) rfl rfl ?_ (by rfl))
        subst hX'
        obtain ⟨vs, hvs⟩ := hfs
        exact pe_nm (i := 2) (fun c str h => (t9 c str h).1) ⟨(hr'.mono (Nat.le_succ _)).dp, (hr'.mono (Nat.le_succ _)).un⟩ ⟨rfl, vs, hvs, hz.2.2 vs hvs⟩ List.mem_cons_self hz l2 (by rfl) (.inl l5)
    · have g1' := g1
      show tTold X fb σ0 f c' (wAs X'.K (.ref CA) 2 (tSay X nm) (fun _ _ _ _ => False) { nx := tRet (tVar 1) { nx := fun _ H' => Q .non H', rt := Q }, rt := Q }) { nx := tRet (tVar 1) { nx := fun _ H' => Q .non H', rt := Q }, rt := Q } [some (.ref f), some .non, none] H1
      have hc1 : H1 c' = some (CodeO c' (X.env.qual ++ "<lambda>")) := g1.sub _ _ hco
      have ev1 := ev.ext x1
      cases hf : fb ρ m with
      | no => rw [hf] at post; exact post.elim
      | ok v m1 =>
        rw [hf] at post
        cases v with
        | obj i => exact post.elim
        | raw a => exact post.elim
        | d v =>
          have post : ∀ x G' ι' H', Ext G ι H G' ι' H' → GR X.kx G' ι' m1 H' → RepV X.kx G' ι' x (.d (.tup [.str k_told, v])) → Q x H' := post
          refine ⟨fun _ _ _ => False, fun _ _ _ z => z.elim, rfl, hc1, G1, ι, ρ, m, g1, ev1, ?_⟩
          rw [hf]
          intro y G2 ι2 H2 x2 g2 r2
          refine ⟨by rw [sizeLine_eq]; simp, fun p hp => ⟨.ref p, rfl, ?_⟩⟩
          obtain ⟨g3, x3⟩ := g2.lay hp (.tup [.str "told", y])
          refine post _ _ _ _ ((x1.trans x2).trans x3) g3 ?_
          exact .tup (SqT.of upd_same) (.cons (show Rep X.kx _ (.str (txt k_told)) (.str k_told) from .str _) (.cons (Rep.mono x3.sub r2) .nil))
      | ex e m1 =>
        rw [hf] at post
        have key : ∃ str, e.pay = none ∧ nm e.cls = some str ∧ PostE X W G ι H (.ok (.d (.str str)) m1) Q := by
          cases hp : e.pay with
          | some z => simp only [hp] at post; exact post.elim
          | none =>
            cases hn : nm e.cls with
            | none => simp only [hp, hn] at post; exact post.elim
            | some str => simp only [hp, hn] at post; exact ⟨str, rfl, rfl, post⟩
        obtain ⟨str, hpay, hnm, post⟩ := key
        have post : ∀ x G' ι' H', Ext G ι H G' ι' H' → GR X.kx G' ι' m1 H' → RepV X.kx G' ι' x (.d (.str str)) → Q x H' := post
        obtain ⟨_, C, hC, hex⟩ := t9 e.cls str hnm
        refine ⟨fun cls dx H2 => ∃ G2 ι2, Ext G1 ι H1 G2 ι2 H2 ∧ GR X.kx G2 ι2 m1 H2 ∧ ExR X.kx G2 H2 e cls dx, fun cls dx H2 ⟨G2, ι2, x2, g2, C', hC', hcls, hdx⟩ => ?_, rfl, hc1, G1, ι, ρ, m, g1, ev1, ?_⟩
        · have hCC : C' = C := Value.ref.inj (Option.some.inj (hC'.symm.trans hC))
          subst hCC hcls
          have hdx : dx = none := by rw [hpay] at hdx; exact hdx
          subst hdx
          refine ⟨true, by subst hX'; exact hex, fun _ a _ => ?_, fun z => nomatch z⟩
          refine ⟨rfl, rfl, e.cls, str, C', hnm, hC, rfl, G2, ι2, m1, g2, fun v G3 ι3 H3 x3 g3 r3 => ?_⟩
          refine ⟨v, rfl, ?_⟩
          exact post _ _ _ _ ((x1.trans x2).trans x3) g3 r3
        · rw [hf]
          exact fun c dx G2 ι2 H2 x2 g2 r2 => ⟨G2, ι2, x2, g2, r2⟩
  refine wpAny_call (codeAny_mono rc fun r s2 hq => ?_)
  cases r with
  | error e => exact (show False from hq).elim
  | ok fl =>
    cases fl with
    | ret u => exact I1.after hq
    | next => exact False.elim hq
    | brk => exact False.elim hq
    | cont => exact False.elim hq
end
end DI
namespace DI
open PySem PySem.Spec PyProof.Rows L2
open LamX (TabB LamS lamEnv)
theorem roomH_mono {j k : Nat} {A : Around} (r : L2H.RoomH k A) (h : j ≤ k) : L2H.RoomH j A := r.mono h
theorem NmS.mono {P : Program} {w : World} {K : Kx} {base : Heap} {j k : Nat} {x : Str} {c : String} {str : List Char} (h : NmS P w K base j x c str) (hk : j ≤ k) : NmS P w K base k x c str := by
  obtain ⟨f, fd, ps, D, h1, h2, h3, h4, h5, h6⟩ := h.ex
  exact ⟨f, fd, ps, D, h1, h2, h3, h4, h5, fun A outer s H us Q E p hr => h6 A outer s H us Q E p (hr.mono hk)⟩
theorem FnS.zero {P : Program} {w : World} {K : Kx} {base : Heap} {k n : Nat} {x : Str} {f : Addr} {fd : FuncData} {ps : List Str} (h1 : K.mg x = some (.ref f)) (h2 : PySem.W.keepIn K.K (.ref f) = true) (h3 : Binds K.K fd ps []) (h4 : ps.length = n) : FnS P w K base k x n (fun _ _ => .no) :=
  ⟨f, fd, ps, h1, h2, h3, ⟨fun vs H Q E ⟨G, ι, m, ds, hl, _, r, _⟩ => by rw [paired_len r, hl, h4], fun A outer s H args us vs Q E hr e0 hb r ⟨_, _, _, _, _, _, _, p⟩ => p.elim⟩⟩
section
variable {X : Cx} {W : XK}
/-- _law_try(lambda: body) -/
theorem se_tryC {k : Nat} {nm : String → Option (List Char)} {fb : SE} {c P : Addr} {q : String} {params : Arguments} {body : Expr} {scope : Scope} {p lpos pos : Pos} (T : TryS X.prog X.w X.kx X.base k nm) (hr : Room (k + 2) X.A) (nd : X.N.Nodup) (TB : TabB X.base X.mg c P) (hbody : ∀ (Y : Cx) (E : XK), (∃ A outer s H f c', Y = lamCxN X A outer s H E scope f c') → CxOk Y E k → SEx Y E body fb) (hcode : X.env.code = .ref c := by rfl) (hq : X.env.qual ++ "<lambda>" = Str.ofString q := by rfl)
    (L : LamX.lamSB X.env.scope scope = true := by rfl) (hdef : defaultsOf params X.env = ([], []) := by rfl) (hbind : ∀ (q : Str) (cl : List (Str × Addr)) (pm cv ctv : Value), bindArgs (PySem.W.kla_fn "<lambda>" q params body scope cl pm cv ctv) ⟨[], []⟩ = pure [] := by intros; rfl)
    (hg : Gl X "_law_try" := by rfl) : SEx X W (.Call (.Name "_law_try" p) [.Lambda params body scope lpos] [] pos) (eTry P q nm fb) :=
  se_try T hr TB hcode hq (LamX.lamS_by L) hdef hbind (fun A outer s H E f c' h => hbody _ E ⟨A, outer, s, H, f, c', rfl⟩ ⟨lam_tk, h, rfl, nd⟩) hg
end
section
variable {P : Program} {w : World} {K : Kx} {base : Heap}
/-- a def of the text: its body's meaning is its worth -/
theorem fn_okT {x qual : Str} {st : Stmt} {f cA : Addr} {N ps : List Str} {k n : Nat} {s : SS} {oc kV doc pm ct : Value} {od an : Option Addr} {osl : Array (Option Value)} (lk : K.K.lookup f = some ⟨oc, od, .func (PySem.W.fnOf x qual (defArgs st) (defBody st) (defScope st) .none kV doc pm an (.ref cA) ct), osl⟩) (hcd : PySem.W.codeIn K.K (.ref cA) qual = true) (S : FnScope N ps (defScope st)) (hn : ps.length = n)
    (body : ∀ (X : Cx) (W : XK) (A : Around) (outer : List PySem.Env) (sh : Shared) (H : Hp), X = cxOf (L2N.CX P w) P w K.K K.mg base N qual (defScope st) f (.ref cA) A outer sh H W → CxOk X W k → PassesOwn (model X.prog X.w) X.A X.env X.xe → SSs X W (defBody st) s) :
    FnOk P w K.K K.mg base (L2N.CX P w) (k + 1) f (PySem.W.fnOf x qual (defArgs st) (defBody st) (defScope st) .none kV doc pm an (.ref cA) ct) ps (spF K n (mkFn N.length s)) := by
  refine fn_of lk hcd S (fun vs H Q E h => ?_) fun A outer sh H vs Q E hr h => ?_
  · obtain ⟨G, ι, m, ds, hl, _, r, _⟩ := h
    rw [paired_len r, hl, hn]
  · obtain ⟨G, ι, m, ds, hl, g, r, p⟩ := h
    have cx : CxOk (cxOf (L2N.CX P w) P w K.K K.mg base N qual (defScope st) f (.ref cA) A outer sh H E) E k :=
      ⟨L2N.takes_of rfl rfl rfl rfl, hr, rfl, S.nd⟩
    refine ⟨_, (body _ E A outer sh H rfl cx (passes_of rfl)).pss, ?_⟩
    refine ⟨G, ι, _, m, g, envR_start r, ?_⟩
    have hp : PostK K E G ι H (fnR m.length (s (ds.map some ++ List.replicate (N.length - ds.length) none) m)) Q := p
    have hι : m.length = ι.length := g.len.symm
    cases ho : s (ds.map some ++ List.replicate (N.length - ds.length) none) m with
    | no => rw [ho] at hp; exact hp.elim
    | bk _ _ => rw [ho] at hp; exact hp.elim
    | ct _ _ => rw [ho] at hp; exact hp.elim
    | ex e m1 => rw [ho] at hp; exact fun c dx G' ι' H' x g' r' => hp c dx G' _ H' (ext_take x hι) (g'.take _) r'
    | nx ρ1 m1 => rw [ho] at hp; exact fun σ' G' ι' H' x g' _ => hp .non G' _ H' (ext_take x hι) (g'.take _) .non
    | rt v m1 =>
      rw [ho] at hp
      cases v with
      | d d => exact fun v G' ι' H' x g' r' => hp v G' _ H' (ext_take x hι) (g'.take _) r'
      | raw a => exact fun v G' ι' H' x g' r' => hp v G' _ H' (ext_take x hι) (g'.take _) r'
      | obj i =>
        have hp' : PostK K E G ι H (if i < m.length then .ok (.obj i) (m1.take m.length) else .ok (.obj i) m1) Q := hp
        by_cases hi : i < m.length
        · rw [if_pos hi] at hp'
          intro v G' ι' H' x g' r'
          refine hp' v G' _ H' (ext_take x hι) (g'.take _) ?_
          obtain ⟨a, l, h1, h2⟩ := r'
          exact ⟨a, l, by rw [List.getElem?_take, if_pos hi]; exact h1, h2⟩
        · rw [if_neg hi] at hp'
          exact fun v G' ι' H' x g' r' => hp' v G' ι' H' x g' r'
end
end DI
namespace DI
open PySem PySem.Spec PyProof.Rows L2
/-! list(enumerate(x)) -/
/-- the enumerate object en over it, at i, whether or not its own tuple was handed out -/
def EnS (h : Heap) (en it : Addr) (i : Int) : Prop := ∃ (f0 f1 old : Value), h.get? en = some { cls := .type "enumerate", dict := none, data := .fields #[f0, f1, .ref it, rawInt i, .none, old], slots := #[] } ∧
  (f0 = .none ∨ ∃ a : Nat, f0 = rawInt (a : Int))
theorem EnS.ty {h : Heap} {en it : Addr} {i : Int} (x : EnS h en it i) : ∃ o, h.get? en = some o ∧ o.cls = .type "enumerate" := by
  obtain ⟨_, _, _, z, _⟩ := x
  exact ⟨_, z, rfl⟩
theorem EnS.at {h h' : Heap} {en it : Addr} {i : Int} (x : EnS h en it i) (ke : h'.get? en = h.get? en) : EnS h' en it i := by
  obtain ⟨f0, f1, old, z, q⟩ := x
  exact ⟨f0, f1, old, by rw [ke]; exact z, q⟩
section
variable {prog : Program} {w : World} {A : Around} {E : Value → Shared → Prop} {s : Shared}
theorem alive_at {M : Model} {a : Nat} {Q : Option Obj → Shared → Prop} (h : Q (s.heap.get? a) s) : wpAny M A (loadIfAlive a) Q E s := fun _ _ _ => h
theorem en_next {en it : Addr} {fp : List Addr} {n i : Nat} {P : Nat → Value → Prop} {St : Nat → Heap → Prop} {Q : Value → Shared → Prop}
    (D : Draws prog w A it fp n P St) (he : EnS s.heap en it i) (st : St i s.heap) (hi : i < n) (hne : en ≠ it) (hf : en ∉ fp)
    (hQ : ∀ x h' tk, P i x → EnS h' en it ((i : Int) + 1) → St (i + 1) h' → h'.get? s.heap.objs.size = some { cls := .type "tuple", data := .seq #[.int i tk, x] } → h'.objs.size = s.heap.objs.size + 1 →
      (∀ b o, b ≠ en → b ≠ it → s.heap.get? b = some o → h'.get? b = some o) → Q (.ref s.heap.objs.size) { s with heap := h', toks := tk + 1 }) :
    wpAny (model prog w) A (Builtin.«enumerate.__next__» ⟨[.ref en], []⟩) (fun r s' => ∃ v, r = .done (.ret v) ∧ Q v s') E s := by
  obtain ⟨f0, f1, old, e0, q0⟩ := he
  obtain ⟨h0, gs, dr, t0, os⟩ := s
  show wpAny _ _ (field (.ref en) 2 >>= _) _ _ _
  refine wpAny_bind (wpAny_field e0 rfl (x := .ref it) rfl ?_)
  refine wpAny_bind (D.item i _ _ _ hi st fun x h1 tk px st1 sb1 => ?_)
  replace sb1 : Heap.SameBut it h0 h1 := sb1
  have e1 : h1.get? en = _ := (sb1.2 en hne).trans e0
  show wpAny _ _ (field (.ref en) 3 >>= _) _ _ ⟨h1, gs, dr, tk, os⟩
  refine wpAny_bind (wpAny_field e1 rfl (x := rawInt i) rfl ?_)
  show wpAny _ _ (field (.ref en) 4 >>= _) _ _ ⟨h1, gs, dr, tk, os⟩
  refine wpAny_bind (wpAny_field e1 rfl (x := .none) rfl ?_)
  show wpAny _ _ (mkInt i >>= _) _ _ ⟨h1, gs, dr, tk, os⟩
  refine wpAny_bind (wpAny_mkInt ?_)
  show wpAny _ _ (setField (.ref en) 3 (rawInt ((i : Int) + 1)) >>= _) _ _ ⟨h1, gs, dr, tk + 1, os⟩
  refine wpAny_bind (wpAny_setField_rec e1 (by simp) fun h2 e2 sb2 => ?_)
  replace sb2 : Heap.SameBut en h1 h2 := sb2
  replace e2 : h2.get? en = some { cls := .type "enumerate", dict := none, data := .fields #[f0, f1, .ref it, rawInt ((i : Int) + 1), .none, old], slots := #[] } := e2
  show wpAny _ _ (setField (.ref en) 4 .none >>= _) _ _ ⟨h2, gs, dr, tk + 1, os⟩
  refine wpAny_bind (wpAny_setField_rec e2 (by simp) fun h3 e3 sb3 => ?_)
  replace sb3 : Heap.SameBut en h2 h3 := sb3
  replace e3 : h3.get? en = some { cls := .type "enumerate", dict := none, data := .fields #[f0, f1, .ref it, rawInt ((i : Int) + 1), .none, old], slots := #[] } := e3
  show wpAny _ _ (newTuple [.int i tk, x] >>= _) _ _ ⟨h3, gs, dr, tk + 1, os⟩
  refine wpAny_bind (wpAny_newTuple ?_)
  have z3 : h3.objs.size = h0.objs.size := by rw [sb3.1, sb2.1, sb1.1]
  have len : en < h0.objs.size := Heap.lt_size e0
  obtain ⟨h4, eh4⟩ : ∃ h4, h4 = h3.push { cls := .type "tuple", data := .seq #[.int i tk, x] } := ⟨_, rfl⟩
  have e4 : h4.get? en = some { cls := .type "enumerate", dict := none, data := .fields #[f0, f1, .ref it, rawInt ((i : Int) + 1), .none, old], slots := #[] } := by rw [eh4]; exact Heap.get?_push_of_some _ e3
  have t4 : h4.get? h0.objs.size = some { cls := .type "tuple", data := .seq #[.int i tk, x] } := by rw [eh4, ← z3]; exact Heap.get?_push_size _ rfl
  have z4 : h4.objs.size = h0.objs.size + 1 := by rw [eh4, Heap.size_push, z3]
  have k4 : ∀ b o, b ≠ en → b ≠ it → h0.get? b = some o → h4.get? b = some o := fun b o a c y => by
    rw [eh4]; exact Heap.get?_push_of_some _ (sb3.extBut b o a (sb2.extBut b o a (sb1.extBut b o c y)))
  have s4 : St (i + 1) h4 := D.frame _ _ _ st1 fun b hb o y => by
    have a : b ≠ en := fun q => hf (q ▸ hb)
    rw [eh4]; exact Heap.get?_push_of_some _ (sb3.extBut b o a (sb2.extBut b o a y))
  rw [z3]
  show wpAny _ _ _ _ _ ⟨h3.push { cls := .type "tuple", data := .seq #[.int i tk, x] }, gs, dr, tk + 1, os⟩
  rw [← eh4]
  -- what is kept by more writing into en
  have more : ∀ h5, Heap.SameBut en h4 h5 → EnS h5 en it ((i : Int) + 1) → Q (.ref h0.objs.size) ⟨h5, gs, dr, tk + 1, os⟩ := fun h5 sb e5 => by
    refine hQ x h5 tk px e5 (D.frame _ _ _ s4 fun b hb o y => sb.extBut b o (fun q => hf (q ▸ hb)) y) (sb.extBut _ _ (Nat.ne_of_gt len) t4) (by rw [sb.1]; exact z4) fun b o a c y => sb.extBut b o a (k4 b o a c y)
  show wpAny _ _ (Builtin.SmallTypes.ownedTupleIsFree (.ref en) >>= _) _ _ ⟨h4, gs, dr, tk + 1, os⟩
  refine wpAny_bind ?_
  unfold Builtin.SmallTypes.ownedTupleIsFree
  refine wpAny_bind (wpAny_field e4 rfl (x := f0) rfl ?_)
  -- handed out again
  have again : wpAny (model prog w) A (rule "enumerate.__next__.owned-tuple-again" >>= fun _ => (field (.ref en) 5 >>= fun o => setField (.ref en) 5 x >>= fun _ => Builtin.SmallTypes.ownedTupleHandOut (.ref en) (.ref h0.objs.size) >>= fun _ => letGo [o] [.ref h0.objs.size] >>= fun _ => ret (.ref h0.objs.size))) (fun r s' => ∃ v, r = .done (.ret v) ∧ Q v s') E ⟨h4, gs, dr, tk + 1, os⟩ := by
    refine wpAny_bind (wpAny_rule ?_)
    refine wpAny_bind (wpAny_field e4 rfl (x := old) rfl ?_)
    refine wpAny_bind (wpAny_setField_rec e4 (by simp) fun h5 e5 sb5 => ?_)
    replace sb5 : Heap.SameBut en h4 h5 := sb5
    replace e5 : h5.get? en = some { cls := .type "enumerate", dict := none, data := .fields #[f0, f1, .ref it, rawInt ((i : Int) + 1), .none, x], slots := #[] } := e5
    refine wpAny_bind ?_
    unfold Builtin.SmallTypes.ownedTupleHandOut
    refine wpAny_bind (wpAny_setField_rec e5 (by simp) fun h6 e6 sb6 => ?_)
    replace sb6 : Heap.SameBut en h5 h6 := sb6
    replace e6 : h6.get? en = some { cls := .type "enumerate", dict := none, data := .fields #[rawInt (h0.objs.size : Int), f1, .ref it, rawInt ((i : Int) + 1), .none, x], slots := #[] } := e6
    refine wpAny_setField_rec e6 (by simp) fun h7 e7 sb7 => ?_
    replace sb7 : Heap.SameBut en h6 h7 := sb7
    replace e7 : h7.get? en = some { cls := .type "enumerate", dict := none, data := .fields #[rawInt (h0.objs.size : Int), .bool false, .ref it, rawInt ((i : Int) + 1), .none, x], slots := #[] } := e7
    have sb : Heap.SameBut en h4 h7 := ⟨by rw [sb7.1, sb6.1, sb5.1], fun b hb => by rw [sb7.2 b hb, sb6.2 b hb, sb5.2 b hb]⟩
    refine wpAny_bind (wpAny_letGo (wpAny_pure ⟨_, rfl, more h7 sb ⟨_, _, _, e7, .inr ⟨h0.objs.size, rfl⟩⟩⟩))
  rcases q0 with rfl | ⟨a, rfl⟩
  · refine wpAny_pure ?_
    simp only [if_true]
    exact again
  · show wpAny _ _ (loadIfAlive _ >>= _) _ _ _
    refine wpAny_bind (alive_at ?_)
    show wpAny _ _ _ _ _ _
    cases hu : h4.get? ((a : Int).toNat) with
    | none =>
      refine wpAny_pure ?_
      simp only [if_true]
      exact again
    | some u =>
      refine PySem.W.KFB.if_not rfl ?_
      refine wpAny_bind (wpAny_field e4 rfl (x := f1) rfl ?_)
      refine wpAny_ite_split (fun _ => ?_) (fun _ => ?_)
      · refine wpAny_bind (wpAny_setField_rec e4 (by simp) fun h5 e5 sb5 => ?_)
        replace sb5 : Heap.SameBut en h4 h5 := sb5
        replace e5 : h5.get? en = some { cls := .type "enumerate", dict := none, data := .fields #[rawInt (a : Int), .bool true, .ref it, rawInt ((i : Int) + 1), .none, old], slots := #[] } := e5
        refine wpAny_pure ?_
        exact wpAny_pure ⟨_, rfl, more h5 sb5 ⟨_, _, _, e5, .inr ⟨a, rfl⟩⟩⟩
      · refine wpAny_pure ?_
        exact wpAny_pure ⟨_, rfl, more h4 ⟨rfl, fun _ _ => rfl⟩ ⟨_, _, _, e4, .inr ⟨a, rfl⟩⟩⟩
theorem en_item {en it : Addr} {fp : List Addr} {n i : Nat} {P : Nat → Value → Prop} {St : Nat → Heap → Prop} {Q : Option Value → Shared → Prop}
    (D : Draws prog w A.in1 it fp n P St) (he : EnS s.heap en it i) (st : St i s.heap) (hi : i < n) (hne : en ≠ it) (hf : en ∉ fp)
    (hQ : ∀ x h' tk, P i x → EnS h' en it ((i : Int) + 1) → St (i + 1) h' → h'.get? s.heap.objs.size = some { cls := .type "tuple", data := .seq #[.int i tk, x] } → h'.objs.size = s.heap.objs.size + 1 →
      (∀ b o, b ≠ en → b ≠ it → s.heap.get? b = some o → h'.get? b = some o) → Q (some (.ref s.heap.objs.size)) { s with heap := h', toks := tk + 1 }) :
    wpAny (model prog w) A (pyNext (.ref en)) Q E s := by
  have ty : s.TypeIs (.ref en) "enumerate" := he.ty
  unfold pyNext
  exact wpAny_bind (wpAny_attempt (wpAny_callSpecial?_slot (name := Str.ofString "__next__") ty F.slot_enumerate_next
    (wpAny_call_entry F.slot_enumerate_next ty F.entry_enumerate_next
      (en_next D he st hi hne hf fun x h' tk a b c d k q => wpAny_pure (hQ x h' tk a b c d k q)) (F.args_enumerate_next_1 _))))
theorem en_end {en it : Addr} {fp : List Addr} {n : Nat} {P : Nat → Value → Prop} {St : Nat → Heap → Prop} {i : Int} {Q : Option Value → Shared → Prop}
    (D : Draws prog w A.in1 it fp n P St) (he : EnS s.heap en it i) (st : St n s.heap) (hQ : ∀ h', Heap.ExtBut it s.heap h' → Q none { s with heap := h' }) :
    wpAny (model prog w) A (pyNext (.ref en)) Q E s := by
  have ty : s.TypeIs (.ref en) "enumerate" := he.ty
  obtain ⟨f0, f1, old, e0, _⟩ := he
  unfold pyNext
  refine wpAny_bind (wpAny_attempt (wpAny_callSpecial?_slot (name := Str.ofString "__next__") ty F.slot_enumerate_next
    (wpAny_call_entry F.slot_enumerate_next ty F.entry_enumerate_next ?_ (F.args_enumerate_next_1 _))))
  show wpAny _ _ (field (.ref en) 2 >>= _) _ _ _
  refine wpAny_bind (wpAny_field e0 rfl (x := .ref it) rfl ?_)
  refine wpAny_bind (D.done _ _ _ st fun h' x ext hx => ?_)
  obtain ⟨o, ho, hc⟩ := hx
  refine wpAny_bind (wpAny_isInstance (T := "StopIteration") (b := true) ⟨o, ho, hc⟩ isSubtype_stop ?_)
  exact wpAny_pure (hQ _ ext)
/-- the pairs made so far -/
structure Md (P : Nat → Value → Prop) (h : Heap) (lo : Nat) (S : Addr) (Ts : List Addr) : Prop where
  rise : Ts.Pairwise (· < ·)
  bd : ∀ T ∈ Ts, lo ≤ T ∧ T < h.objs.size ∧ T ≠ S
  tup : ∀ (j : Nat) (T : Addr), Ts[j]? = some T → ∃ t x, P j x ∧ h.get? T = some { cls := .type "tuple", data := .seq #[.int (j : Int) t, x] }
theorem Md.keep {P : Nat → Value → Prop} {h h' : Heap} {lo : Nat} {S en it : Addr} {Ts : List Addr} (m : Md P h lo S Ts) (hz : h.objs.size ≤ h'.objs.size) (k : ∀ b o, b ≠ S → b ≠ en → b ≠ it → h.get? b = some o → h'.get? b = some o) (he : en < lo) (hi : it < lo) : Md P h' lo S Ts :=
  ⟨m.rise, fun T hT => ⟨(m.bd T hT).1, Nat.lt_of_lt_of_le (m.bd T hT).2.1 hz, (m.bd T hT).2.2⟩, fun j T hj => by
    obtain ⟨t, x, p, e⟩ := m.tup j T hj
    have b := m.bd T (List.mem_of_getElem? hj)
    exact ⟨t, x, p, k T _ b.2.2 (Nat.ne_of_gt (Nat.lt_of_lt_of_le he b.1)) (Nat.ne_of_gt (Nat.lt_of_lt_of_le hi b.1)) e⟩⟩
theorem Md.add {P : Nat → Value → Prop} {h : Heap} {lo : Nat} {S : Addr} {Ts : List Addr} {T : Addr} {t : Tok} {x : Value} (m : Md P h lo S Ts) (h1 : ∀ q ∈ Ts, q < T) (h2 : lo ≤ T) (h3 : T < h.objs.size) (h4 : T ≠ S) (p : P Ts.length x) (e : h.get? T = some { cls := .type "tuple", data := .seq #[.int (Ts.length : Int) t, x] }) : Md P h lo S (Ts ++ [T]) := by
  refine ⟨?_, fun q hq => ?_, fun j q hj => ?_⟩
  · rw [List.pairwise_append]
    exact ⟨m.rise, List.pairwise_singleton .., fun a ha b hb => by rw [List.mem_singleton.mp hb]; exact h1 a ha⟩
  · rcases List.mem_append.mp hq with hq | hq
    · exact m.bd q hq
    · rw [List.mem_singleton.mp hq]; exact ⟨h2, h3, h4⟩
  · by_cases c : j < Ts.length
    · rw [List.getElem?_append_left c] at hj
      exact m.tup j q hj
    · rw [List.getElem?_append_right (by omega)] at hj
      have c2 : j = Ts.length := by
        have := (List.getElem?_eq_some_iff.mp hj).1
        simp at this
        omega
      subst c2
      simp at hj
      subst hj
      exact ⟨t, x, p, e⟩
theorem en_loop {en it S lo : Nat} {fp : List Addr} {n : Nat} {P : Nat → Value → Prop} {St : Nat → Heap → Prop} {Rs : Result → Shared → Prop} (D : Draws prog w A.in1.in1 it fp n P St) (hn : n ≤ sizeLine) (hne : en ≠ it) (hf : en ∉ fp) (hS : S ∉ fp) (hSe : S ≠ en) (hSi : S ≠ it) (le : en < lo) (li : it < lo) :
    ∀ (k i : Nat) (h : Heap) (tk : Nat) (acc : Array Value) (c : Nat) (Ts : List Addr), n - i = k → i ≤ n → EnS h en it i → St i h → h.get? S = some { cls := .type "list", dict := none, data := .seq acc c, slots := #[] } → acc.toList = Ts.map Value.ref → Ts.length = i → Md P h lo S Ts → lo ≤ h.objs.size →
      (∀ b o, b ≠ S → b ≠ en → b ≠ it → s.heap.get? b = some o → h.get? b = some o) →
      (∀ h' tk' acc' c' Ts', h'.get? S = some { cls := .type "list", dict := none, data := .seq acc' c', slots := #[] } → acc'.toList = Ts'.map Value.ref → Ts'.length = n → Md P h' lo S Ts' → (∀ b o, b ≠ S → b ≠ en → b ≠ it → s.heap.get? b = some o → h'.get? b = some o) → Rs (.ok (.ret .none)) { s with heap := h', toks := tk' }) →
      codeAny (model prog w) A (.builtin "list.extend.loop" ⟨[.ref S, .ref en, .none], []⟩) Rs { s with heap := h, toks := tk } := by
  intro k
  induction k with
  | zero =>
    intro i h tk acc c Ts hk hi he st hl ha ht md hz kp hR
    obtain rfl : i = n := by omega
    refine codeAny_builtin PySem.F.entry_extend_loop ?_
    rw [Around.under_plainId PySem.F.plain_extend_loop _]
    show wpAny _ A.in1 (pyNext (.ref en) >>= _) _ _ _
    refine wpAny_bind (en_end D he st fun h' ext => ?_)
    refine wpAny_pure (hR h' tk acc c Ts (ext S _ hSi hl) ha ht ?_ fun b o a1 a2 a3 e => ext b o a3 (kp b o a1 a2 a3 e))
    refine ⟨md.rise, fun T hT => ?_, fun j T hj => ?_⟩
    · have b := md.bd T hT
      obtain ⟨j, hj⟩ := List.mem_iff_getElem?.mp hT
      obtain ⟨t, x, _, e⟩ := md.tup j T hj
      exact ⟨b.1, Heap.lt_size (ext T _ (Nat.ne_of_gt (Nat.lt_of_lt_of_le li b.1)) e), b.2.2⟩
    · obtain ⟨t, x, p, e⟩ := md.tup j T hj
      have b := md.bd T (List.mem_of_getElem? hj)
      exact ⟨t, x, p, ext T _ (Nat.ne_of_gt (Nat.lt_of_lt_of_le li b.1)) e⟩
  | succ k ih =>
    intro i h tk acc c Ts hk hi he st hl ha ht md hz kp hR
    have hlt : i < n := by omega
    refine codeAny_builtin PySem.F.entry_extend_loop ?_
    rw [Around.under_plainId PySem.F.plain_extend_loop _]
    show wpAny _ A.in1 (pyNext (.ref en) >>= _) _ _ _
    refine wpAny_bind (en_item D he st hlt hne hf fun x h1 tk1 px e1 s1 t1 z1 k1 => ?_)
    have z1 : h1.objs.size = h.objs.size + 1 := z1
    have k1 : ∀ b o, b ≠ en → b ≠ it → h.get? b = some o → h1.get? b = some o := k1
    have t1 : h1.get? h.objs.size = some { cls := .type "tuple", data := .seq #[.int i tk1, x] } := t1
    have hl1 := k1 S _ hSe hSi hl
    have Slt : S < h.objs.size := Heap.lt_size hl
    have hacc : acc.size = i := by rw [← Array.length_toList, ha, List.length_map]; exact ht
    show wpAny _ A.in1 (updateSeq S (·.push (.ref h.objs.size)) >>= _) _ _ _
    refine wpAny_bind (wpAny_updateSeq hl1 rfl (wpAny_pure ⟨plainId_quiet PySem.F.plain_extend_loop _, ?_⟩) (by rw [hacc]; omega) (by show (acc.push (.ref h.objs.size)).size ≤ sizeLine + 1; rw [Array.size_push]; omega))
    have sb : Heap.SameBut S h1 (h1.update S (Obj.mapSeq (·.push (.ref h.objs.size)))) := Heap.SameBut.update ..
    have self := Heap.get?_update_self (Obj.mapSeq (·.push (Value.ref h.objs.size))) hl1 rfl
    have md1 : Md P (h1.update S (Obj.mapSeq (·.push (.ref h.objs.size)))) lo S (Ts ++ [h.objs.size]) := by
      have m0 : Md P h1 lo S Ts := md.keep (en := en) (it := it) (by rw [z1]; exact Nat.le_succ _) (fun b o _ a2 a3 e => k1 b o a2 a3 e) le li
      have m1 : Md P h1 lo S (Ts ++ [h.objs.size]) := m0.add (t := tk1) (x := x) (fun q hq => (md.bd q hq).2.1) hz (by rw [z1]; exact Nat.lt_succ_self _) (Nat.ne_of_gt Slt) (by rw [ht]; exact px) (by rw [ht]; exact t1)
      exact m1.keep (en := en) (it := it) (by rw [sb.1]; exact Nat.le_refl _) (fun b o a1 _ _ e => sb.extBut b o a1 e) le li
    refine ih (i + 1) _ (tk1 + 1) (acc.push (.ref h.objs.size)) _ (Ts ++ [h.objs.size]) (by omega) hlt (EnS.at e1 (sb.2 en (Ne.symm hSe))) (D.frame _ _ _ s1 fun b hb o e => sb.extBut b o (fun q => hS (q ▸ hb)) e) self (by rw [Array.toList_push, ha]; simp) (by rw [List.length_append, ht]; rfl) md1 (by rw [sb.1, z1]; exact Nat.le_succ_of_le hz) (fun b o a1 a2 a3 e => sb.extBut b o a1 (k1 b o a2 a3 (kp b o a1 a2 a3 e))) hR
end
end DI
namespace DI
open PySem PySem.Spec PyProof.Rows L2
theorem nolen_en : typeLookup (.type "enumerate") "__len__" = pure none := by
  rw [typeLookup_type, builtinLookup_eq_fast]; kernel_rfl
theorem nohint_en : typeLookup (.type "enumerate") "__length_hint__" = pure none := by
  rw [typeLookup_type, builtinLookup_eq_fast]; kernel_rfl
section
variable {prog : Program} {w : World} {A : Around} {E : Value → Shared → Prop} {s : Shared}
theorem en_self {en it : Addr} {i : Int} {Q : Value → Shared → Prop} (he : EnS s.heap en it i) (h : Q (.ref en) s) : wpAny (model prog w) A (pyIter (.ref en)) Q E s := by
  have ty : s.TypeIs (.ref en) "enumerate" := he.ty
  refine wpAny_pyIter_slot ty F.slot_enumerate_iter (wpAny_call_entry F.slot_enumerate_iter ty F.entry_enumerate_iter ?_ (F.args_enumerate_iter_1 _))
  show wpAny _ _ (ret (.ref en)) _ _ s
  exact wpAny_pure ⟨_, rfl, "enumerate", _, ty, F.slot_enumerate_next.lookup, h⟩
theorem en_extend {en it S lo : Nat} {fp : List Addr} {n : Nat} {P : Nat → Value → Prop} {St : Nat → Heap → Prop} {Rs : Result → Shared → Prop} {c : Nat} (D : Draws prog w A.in1.in1 it fp n P St) (hn : n ≤ sizeLine) (hne : en ≠ it) (hf : en ∉ fp) (hS : S ∉ fp) (hSe : S ≠ en) (hSi : S ≠ it) (le : en < lo) (li : it < lo) (hlo : lo ≤ s.heap.objs.size)
    (he : EnS s.heap en it 0) (st : St 0 s.heap) (hl : s.heap.get? S = some { cls := .type "list", dict := none, data := .seq #[] c, slots := #[] })
    (hR : ∀ h' tk' acc' c' Ts', h'.get? S = some { cls := .type "list", dict := none, data := .seq acc' c', slots := #[] } → acc'.toList = Ts'.map Value.ref → Ts'.length = n → Md P h' lo S Ts' → (∀ b o, b ≠ S → b ≠ en → b ≠ it → s.heap.get? b = some o → h'.get? b = some o) → Rs (.ok (.ret .none)) { s with heap := h', toks := tk' }) :
    wpAny (model prog w) A.in1 (Builtin.List.listExtendWith (.ref S) (.ref en) .none)
      (fun r s' => match r with | .done f => Rs (.ok f) s' | .again c' => c'.quiet = true ∧ codeAny (model prog w) A c' Rs s') (fun e s' => Rs (.error e) s') s := by
  unfold Builtin.List.listExtendWith
  have ty : s.TypeIs (.ref en) "enumerate" := he.ty
  refine wpAny_bind (wpAny_typeOf ty ?_)
  have q1 : Builtin.List.listSameRef (.ref S) (.ref en) = false := by simp [Builtin.List.listSameRef, hSe]
  have q2 : (Value.type "enumerate" == Value.type "list") = false := by decide
  have q3 : (Value.type "enumerate" == Value.type "tuple") = false := by decide
  simp only [q1, q2, q3, Bool.or_false, Bool.false_eq_true, if_false]
  refine wpAny_bind (en_self he ?_)
  refine wpAny_bind (wpAny_holding ?_)
  unfold Builtin.List.listLengthHint
  refine wpAny_bind (wpAny_specialOf ty nolen_en ?_)
  show wpAny _ A.in1 (specialOf (Value.ref en) (Str.ofString "__length_hint__") >>= _) _ _ _
  refine wpAny_bind (wpAny_specialOf ty nohint_en ?_)
  refine wpAny_pure ?_
  show wpAny _ A.in1 (rule "list.extend.makes-room" >>= fun _ => Builtin.List.listTouch (.ref S) >>= fun _ => again (.builtin "list.extend.loop" ⟨[.ref S, .ref en, .none], []⟩)) _ _ _
  refine wpAny_bind (wpAny_rule ?_)
  refine wpAny_bind ?_
  show wpAny _ A.in1 (updateSeq S (·.push .none) >>= fun _ => updateSeq S (·.pop)) _ _ _
  refine wpAny_bind (wpAny_updateSeq hl rfl ?_)
  have l2 := Heap.get?_update_self (Obj.mapSeq (·.push Value.none)) hl rfl
  refine wpAny_updateSeq (hz := by seq_fits) l2 rfl ?_
  have l3 := Heap.get?_update_self (Obj.mapSeq (·.pop)) l2 rfl
  have sb : Heap.SameBut S s.heap ((s.heap.update S (Obj.mapSeq (·.push Value.none))).update S (Obj.mapSeq (·.pop))) :=
    ⟨(Heap.SameBut.update ..).1.trans (Heap.SameBut.update ..).1, fun b hb => ((Heap.SameBut.update ..).2 b hb).trans ((Heap.SameBut.update ..).2 b hb)⟩
  have loop := en_loop (s := s) (Rs := Rs) D hn hne hf hS hSe hSi le li n 0 _ s.toks _ _ [] rfl (Nat.zero_le _) (EnS.at he (sb.2 en (Ne.symm hSe))) (D.frame _ _ _ st fun b hb o e => sb.extBut b o (fun q => hS (q ▸ hb)) e) l3 rfl rfl ⟨List.Pairwise.nil, fun T hT => by simp at hT, fun j T hj => by simp at hj⟩ (by rw [sb.1]; exact hlo) (fun b o a1 _ _ e => sb.extBut b o a1 e) hR
  exact wpAny_pure ⟨plainId_quiet PySem.F.plain_extend_loop _, loop⟩
theorem en_list {en it : Nat} {fp : List Addr} {n : Nat} {P : Nat → Value → Prop} {St : Nat → Heap → Prop} {Q : Value → Shared → Prop} (D : Draws prog w A.in1.in1.in1 it fp n P St) (hn : n ≤ sizeLine) (hne : en ≠ it) (hf : en ∉ fp) (hfp : ∀ b ∈ fp, b < s.heap.objs.size)
    (he : EnS s.heap en it 0) (st : St 0 s.heap)
    (hQ : ∀ h' tk acc c Ts, h'.get? s.heap.objs.size = some { cls := .type "list", dict := none, data := .seq acc c, slots := #[] } → acc.toList = Ts.map Value.ref → Ts.length = n → Md P h' (s.heap.objs.size + 1) s.heap.objs.size Ts → (∀ b o, b ≠ en → b ≠ it → s.heap.get? b = some o → h'.get? b = some o) → Q (.ref s.heap.objs.size) { s with heap := h', toks := tk }) :
    wpAny (model prog w) A (call (.type "list") [.ref en]) Q E s := by
  have le : en < s.heap.objs.size := by obtain ⟨_, _, _, z, _⟩ := he; exact Heap.lt_size z
  have li : it < s.heap.objs.size := by obtain ⟨o, z⟩ := D.live _ _ st; exact Heap.lt_size z
  have hS : s.heap.objs.size ∉ fp := fun hm => Nat.lt_irrefl _ (hfp _ hm)
  refine callType_codes (Q₁ := fun o u => o = .ref s.heap.objs.size ∧ u = { s with heap := s.heap.push { cls := .type "list", data := .seq #[] } }) F.called_list (F.typeCall_list_1 _) F.entry_list_init (code_list_new _ ⟨rfl, rfl⟩) fun o u hu => ?_
  obtain ⟨rfl, rfl⟩ := hu
  have lz : (s.heap.push { cls := .type "list", data := .seq #[] }).objs.size = s.heap.objs.size + 1 := Heap.size_push ..
  have l1 : (s.heap.push { cls := .type "list", data := .seq #[] }).get? s.heap.objs.size = some { cls := .type "list", data := .seq #[] } := Heap.get?_push_size _ rfl
  have k1 : ∀ b o, s.heap.get? b = some o → (s.heap.push { cls := .type "list", data := .seq #[] }).get? b = some o := fun b o e => Heap.get?_push_of_some _ e
  refine ⟨⟨_, l1, rfl⟩, F.args_list_init_2 _ _, ?_⟩
  show wpAny _ A.in1.in1 (do let old ← Builtin.List.listItems (.ref s.heap.objs.size); Builtin.List.listUpdate (.ref s.heap.objs.size) (fun _ => #[]); letGo old.toList.reverse; Builtin.List.listExtendWith (.ref s.heap.objs.size) (.ref en) .none) _ _ _
  refine wpAny_bind ?_
  unfold Builtin.List.listItems
  refine wpAny_bind (wpAny_seqItems l1 rfl (wpAny_pure ?_))
  show wpAny _ _ (updateSeq s.heap.objs.size (fun _ => #[]) >>= fun _ => letGo (#[] : Array Value).toList.reverse >>= fun _ => Builtin.List.listExtendWith (.ref s.heap.objs.size) (.ref en) .none) _ _ _
  refine wpAny_bind (wpAny_updateSeq l1 rfl ?_)
  have l2 := Heap.get?_update_self (Obj.mapSeq (fun _ => (#[] : Array Value))) l1 rfl
  have sb : Heap.SameBut s.heap.objs.size (s.heap.push { cls := .type "list", data := .seq #[] }) ((s.heap.push { cls := .type "list", data := .seq #[] }).update s.heap.objs.size (Obj.mapSeq (fun _ => (#[] : Array Value)))) := Heap.SameBut.update ..
  have k2 : ∀ b o, s.heap.get? b = some o → ((s.heap.push { cls := .type "list", data := .seq #[] }).update s.heap.objs.size (Obj.mapSeq (fun _ => (#[] : Array Value)))).get? b = some o := fun b o e => sb.extBut b o (Nat.ne_of_lt (Heap.lt_size e)) (k1 b o e)
  refine wpAny_bind (wpAny_letGo ?_)
  have he2 : EnS ((s.heap.push { cls := .type "list", data := .seq #[] }).update s.heap.objs.size (Obj.mapSeq (fun _ => (#[] : Array Value)))) en it 0 := by
    obtain ⟨f0, f1, old, z, q⟩ := he
    exact ⟨f0, f1, old, k2 _ _ z, q⟩
  refine en_extend (lo := s.heap.objs.size + 1) D hn hne hf hS (Nat.ne_of_gt le) (Nat.ne_of_gt li) (Nat.lt_succ_of_lt le) (Nat.lt_succ_of_lt li) (by show _ ≤ Array.size _; rw [show (((s.heap.push { cls := .type "list", data := .seq #[] }).update s.heap.objs.size (Obj.mapSeq (fun _ => (#[] : Array Value)))).objs.size) = _ from sb.1, lz]; exact Nat.le_refl _) he2 (D.frame _ _ _ st fun b hb o e => k2 b o e) l2 fun h' tk acc c Ts a1 a2 a3 a4 a5 => ?_
  exact ⟨rfl, hQ h' tk acc c Ts a1 a2 a3 a4 fun b o c1 c2 e => a5 b o (Nat.ne_of_lt (Heap.lt_size e)) c1 c2 (k2 b o e)⟩
end
end DI
namespace DI
open PySem PySem.Spec PyProof.Rows L2
/-- tuples laid, one after the other -/
def layP (H : Hp) : List (Addr × List V) → Hp
  | [] => H
  | p :: r => layP (upd H p.1 (.tup p.2)) r
theorem layP_ne {b : Addr} : ∀ (L : List (Addr × List V)) (H : Hp), b ∉ L.map (·.1) → layP H L b = H b
  | [], _, _ => rfl
  | p :: r, H, h => by
    rw [List.map_cons, List.mem_cons] at h
    show layP (upd H p.1 (.tup p.2)) r b = H b
    rw [layP_ne r _ fun z => h (.inr z), upd_ne fun z => h (.inl z)]
theorem layP_at {p : Addr × List V} : ∀ (L : List (Addr × List V)) (H : Hp), (L.map (·.1)).Nodup → p ∈ L → layP H L p.1 = some (.tup p.2)
  | q :: r, H, nd, h => by
    rw [List.map_cons, List.nodup_cons] at nd
    show layP (upd H q.1 (.tup q.2)) r p.1 = _
    rcases List.mem_cons.mp h with e | h
    · subst e
      rw [layP_ne r _ nd.1, upd_same]
    · exact layP_at r _ nd.2 h
theorem takeP {X : Cx} {pins : List (Addr × Obj)} {σ : L2.St} {H0 : Hp} {s : Shared} {h' : Heap} {tk : Nat} (I0 : Inv X pins σ H0 s) : ∀ (L : List (Addr × List V)) (H1 : Hp), Inv X pins σ H1 { s with heap := h', toks := tk } → (L.map (·.1)).Nodup →
    (∀ p ∈ L, s.heap.objs.size ≤ p.1 ∧ H1 p.1 = none ∧ ∀ H2, ObjOk X.prog X.w H2 h' p.1 (.tup p.2)) → Inv X pins σ (layP H1 L) { s with heap := h', toks := tk }
  | [], _, I1, _, _ => I1
  | p :: L, H1, I1, nd, h => by
    rw [List.map_cons, List.nodup_cons] at nd
    obtain ⟨a1, a2, a3⟩ := h p (List.mem_cons_self ..)
    have I2 : Inv X pins σ (upd H1 p.1 (.tup p.2)) { s with heap := h', toks := tk } := I1.take (h' := h') (t' := tk) (fun b ob _ e => e) (I0.fpOk a1 a2) (a3 _)
    refine takeP I0 L _ I2 nd.2 fun q hq => ?_
    obtain ⟨b1, b2, b3⟩ := h q (List.mem_cons_of_mem _ hq)
    exact ⟨b1, by rw [upd_ne fun z => nd.1 (by rw [← z]; exact List.mem_map_of_mem hq)]; exact b2, b3⟩
theorem GR.layP {K : Kx} {ι : Io} {m : Mem} : ∀ (L : List (Addr × List V)) {G H : Hp}, GR K G ι m H → (L.map (·.1)).Nodup → (∀ p ∈ L, H p.1 = none) → GR K (DI.layP G L) ι m (DI.layP H L) ∧ Ext G ι H (DI.layP G L) ι (DI.layP H L)
  | [], _, _, g, _, _ => ⟨g, Ext.refl ..⟩
  | p :: L, G, H, g, nd, h => by
    rw [List.map_cons, List.nodup_cons] at nd
    obtain ⟨g1, x1⟩ := g.lay (h p (List.mem_cons_self ..)) (.tup p.2)
    obtain ⟨g2, x2⟩ := GR.layP L g1 nd.2 fun q hq => by
      rw [upd_ne fun z => nd.1 (by rw [← z]; exact List.mem_map_of_mem hq)]
      exact h q (List.mem_cons_of_mem _ hq)
    exact ⟨g2, x1.trans x2⟩
/-- the pairs of enumerate -/
def enV (xs : List V) : List (List V) := xs.mapIdx fun i x => [.int (i : Nat), x]
theorem rep_enV {K : Kx} {G0 G : Hp} (s : Sub G0 G) {vs : List V} {ds : List D} (r : RepAll K G0 vs ds) {L : List (Addr × List V)} (hL : L.map (·.2) = enV vs) (hG : ∀ p ∈ L, G p.1 = some (.tup p.2)) : RepAll K G (L.map fun p => .ref p.1) (ds.mapIdx fun (i : Nat) x => .tup [.int i, x]) := by
  have len : L.length = ds.length := by
    have := congrArg List.length hL
    rw [List.length_map] at this
    rw [this, enV, List.length_mapIdx, r.length]
  -- by the places
  have key : ∀ (k : Nat) (L' : List (Addr × List V)) (ds' : List D), L'.length = ds'.length → (∀ (j : Nat) p d, L'[j]? = some p → ds'[j]? = some d → Rep K G (.ref p.1) (.tup [.int ((k + j : Nat) : Int), d])) → RepAll K G (L'.map fun p => .ref p.1) (ds'.mapIdx fun (i : Nat) x => .tup [.int ((k + i : Nat) : Int), x]) := by
    intro k L'
    induction L' generalizing k with
    | nil =>
      intro ds' hl _
      cases ds' with
      | nil => exact .nil
      | cons _ _ => simp at hl
    | cons p L' ih =>
      intro ds' hl h
      cases ds' with
      | nil => simp at hl
      | cons d ds' =>
        rw [List.map_cons, List.mapIdx_cons]
        refine .cons (h 0 p d rfl rfl) ?_
        have := ih (k + 1) ds' (by simpa using hl) fun j p d a b => by
          have := h (j + 1) p d (by simpa using a) (by simpa using b)
          rw [show k + (j + 1) = k + 1 + j by omega] at this
          exact this
        have e : (fun (i : Nat) (x : D) => D.tup [.int ((k + (i + 1) : Nat) : Int), x]) = fun (i : Nat) (x : D) => D.tup [.int ((k + 1 + i : Nat) : Int), x] := by
          funext i x
          rw [show k + (i + 1) = k + 1 + i by omega]
        rw [e]
        exact this
  have := key 0 L ds len fun j p d hp hd => by
    obtain ⟨v, hv, rv⟩ := r.get hd
    have e : (L.map (·.2))[j]? = some p.2 := by rw [List.getElem?_map, hp]; rfl
    rw [hL, enV, List.getElem?_mapIdx, hv] at e
    have e2 : p.2 = [.int (j : Nat), v] := (Option.some.inj e).symm
    refine .tup (SqT.of (hG p (List.mem_of_getElem? hp))) ?_
    rw [e2, Nat.zero_add]
    exact .cons (.int _) (.cons (Rep.mono s rv) .nil)
  simpa using this
def tLE (K : PySem.W.Frag) (te : TE) : TE := fun σ H Q => te σ H fun x H1 => ∃ (sr : Sr) (xs : List V), x = sr.val ∧ sr.at K H1 xs ∧ xs.length ≤ sizeLine ∧ ∀ (l : Addr) (L : List (Addr × List V)), L.map (·.2) = enV xs → (L.map (·.1)).Nodup → (∀ p ∈ L, H1 p.1 = none) → H1 l = none → l ∉ L.map (·.1) → Q (.ref l) (upd (layP H1 L) l (.lst (L.map fun p => .ref p.1)))
section
variable {X : Cx} {e : Expr} {te : TE} {p p2 pos pos2 : Pos}
theorem pe_listEn (hc : X.calm = true) (hgl : Gl X "list") (hml : X.mg "list" = none) (hg : Gl X "enumerate") (hm : X.mg "enumerate" = none) (ha : PE X e te) (hs : starEach [e] X.env = (false, eval e X.env) :: starEach [] X.env := by rfl)
    (hs0 : starEach [.Call (.Name "enumerate" p2) [e] [] pos2] X.env = (false, eval (.Call (.Name "enumerate" p2) [e] [] pos2) X.env) :: starEach [] X.env := by rfl) : PE X (.Call (.Name "list" p) [.Call (.Name "enumerate" p2) [e] [] pos2] [] pos) (tLE X.K te) := by
  refine ⟨fun pins s σ H Q I h => ?_⟩
  refine Call_ (ld_blt I hgl hml boot_list ?_)
  refine PyProof.Rows.callWith_type1 (PyProof.Rows.args_cons ?_ hs0) hs0 rfl
  refine Call_ (ld_blt I hg hm boot_enumerate ?_)
  refine PyProof.Rows.callWith_type1 (PyProof.Rows.args_cons (thn (ha.run pins s σ H _ I h) fun v s1 ⟨x, H1, I1, r1, q1⟩ => PyProof.Rows.args_nil ?_) hs) hs rfl
  obtain ⟨sr, xs, rfl, hq, hz, q⟩ := q1
  have fin : ∀ h', IsEnum h' (s1.heap.objs.size + 1) s1.heap.objs.size 0 .none → sr.itr s1.heap.objs.size 0 h' → (∀ b, sr.isA b → b < s1.heap.objs.size) → h'.objs.size = s1.heap.objs.size + 2 → (∀ b o, s1.heap.get? b = some o → h'.get? b = some o) →
      wpAny (model X.prog X.w) X.A (call (.type "list") [.ref (s1.heap.objs.size + 1)]) (EP X pins σ Q) X.xe { s1 with heap := h' } := fun h' he hit hlt hsz hk => by
    have I2 : Inv X pins σ H1 { s1 with heap := h' } := I1.kept (t' := s1.toks) hk
    obtain ⟨fp, n, P, St, D, st, hn, hP, _, hfp⟩ := Sr.draw (A := X.A.in1.in1.in1) I2 (I2.ok.hd hc) sr (fun b hb => Nat.ne_of_lt (hlt b hb)) hq hit
    have flt : ∀ b ∈ fp, b ≤ s1.heap.objs.size := fun b hb => by
      rcases hfp b hb with z | z
      · rw [z]; exact Nat.le_refl _
      · exact Nat.le_of_lt (hlt b z)
    have ene : EnS h' (s1.heap.objs.size + 1) s1.heap.objs.size 0 := ⟨_, _, _, he, .inl rfl⟩
    refine en_list (A := X.A) (s := { s1 with heap := h' }) D (by rw [hn]; exact hz) (Nat.succ_ne_self _) (fun hm => absurd (flt _ hm) (Nat.not_succ_le_self _)) (fun b hb => by show b < h'.objs.size; rw [hsz]; exact Nat.lt_of_le_of_lt (flt b hb) (by omega)) ene st fun h2 tk acc c Ts a1 a2 a3 a4 a5 => ?_
    have hsz' : Shared.heap { s1 with heap := h' } = h' := rfl
    have I3 : Inv X pins σ H1 { s1 with heap := h2, toks := tk } := I1.kept fun b o e => a5 b o (Nat.ne_of_lt (Nat.lt_succ_of_lt (Heap.lt_size e))) (Nat.ne_of_lt (Heap.lt_size e)) (hk b o e)
    -- the list of pairs
    have vx : ∀ (j : Nat) (T : Addr), Ts[j]? = some T → ∃ t u x, xs[j]? = some x ∧ RelV x u ∧ h2.get? T = some { cls := .type "tuple", data := .seq #[.int (j : Int) t, u] } := fun j T hj => by
      obtain ⟨t, u, pu, eT⟩ := a4.tup j T hj
      obtain ⟨x, hx, ru⟩ := hP j u pu
      exact ⟨t, u, x, hx, ru, eT⟩
    have tl : Ts.length = xs.length := a3.trans hn
    have low : ∀ T ∈ Ts, s1.heap.objs.size ≤ T := fun T hT => by
      have b := (a4.bd T hT).1
      have : h'.objs.size + 1 ≤ T := b
      omega
    have eLx : ((Ts.zip (enV xs)).map (·.2)) = enV xs := List.map_snd_zip (by rw [enV, List.length_mapIdx, tl]; exact Nat.le_refl _)
    have eLt : ((Ts.zip (enV xs)).map (·.1)) = Ts := List.map_fst_zip (by rw [enV, List.length_mapIdx, tl]; exact Nat.le_refl _)
    have nd : Ts.Nodup := List.Pairwise.imp (fun h => Nat.ne_of_lt h) a4.rise
    have mz : ∀ q ∈ Ts.zip (enV xs), ∃ j x, Ts[j]? = some q.1 ∧ xs[j]? = some x ∧ q.2 = [.int (j : Nat), x] := fun q hq => by
      obtain ⟨j, hj⟩ := List.mem_iff_getElem?.mp hq
      obtain ⟨b1, b2⟩ := List.getElem?_zip_eq_some.mp hj
      rw [enV, List.getElem?_mapIdx] at b2
      cases hx : xs[j]? with
      | none => rw [hx] at b2; cases b2
      | some x =>
        rw [hx] at b2
        exact ⟨j, x, b1, hx, (Option.some.inj b2).symm⟩
    have I4 : Inv X pins σ (layP H1 (Ts.zip (enV xs))) { s1 with heap := h2, toks := tk } := takeP I1 _ H1 I3 (by rw [eLt]; exact nd) fun q hq => by
      obtain ⟨j, x, b1, b2, b3⟩ := mz q hq
      have hm := List.mem_of_getElem? b1
      refine ⟨low _ hm, I1.hok.fresh (low _ hm), fun H2 => ?_⟩
      obtain ⟨t, u, x', c1, c2, c3⟩ := vx j q.1 b1
      rw [b2] at c1
      cases c1
      refine ⟨?_, [.int (j : Int) t, u], ?_, ⟨_, c3, rfl, 0, rfl⟩⟩
      · rw [b3, sizeLine_eq]; show 2 ≤ 16777216; decide
      · rw [b3]; exact .cons ⟨t, rfl⟩ (.cons c2 .nil)
    have Sn : H1 h'.objs.size = none := I1.hok.fresh (by rw [hsz]; omega)
    have Sm : h'.objs.size ∉ Ts := fun z => (a4.bd _ z).2.2 rfl
    have fS : layP H1 (Ts.zip (enV xs)) h'.objs.size = none := by rw [layP_ne _ _ (by rw [eLt]; exact Sm)]; exact Sn
    have lenL : (Ts.zip (enV xs)).length = xs.length := by rw [List.length_zip, enV, List.length_mapIdx, tl, Nat.min_self]
    have acc2 : acc.toList = (Ts.zip (enV xs)).map fun q => Value.ref q.1 := by
      rw [a2]
      conv => lhs; rw [← eLt]
      rw [List.map_map]
      rfl
    have I5 : Inv X pins σ (upd (layP H1 (Ts.zip (enV xs))) h'.objs.size (.lst ((Ts.zip (enV xs)).map fun q => .ref q.1))) { s1 with heap := h2, toks := tk } := by
      refine I4.take (h' := h2) (t' := tk) (fun b ob _ e => e) (I1.fpOk (by rw [hsz]; omega) fS) ⟨by rw [List.length_map, lenL]; exact hz, acc.toList, c, ?_, by rw [Array.toArray_toList]; exact a1⟩
      rw [acc2]
      exact vals_maps (fun q : Addr × List V => V.ref q.1) (fun q => Value.ref q.1) _ fun _ _ => rfl
    exact ⟨.ref h'.objs.size, _, I5, rfl, q h'.objs.size (Ts.zip (enV xs)) eLx (by rw [eLt]; exact nd) (fun q' hq' => by
      obtain ⟨j, x, b1, _, _⟩ := mz q' hq'
      exact I1.hok.fresh (low _ (List.mem_of_getElem? b1))) Sn (by rw [eLt]; exact Sm)⟩
  cases sr with
  | lst a =>
    cases r1
    obtain ⟨its, rv, p', _⟩ := I1.list hq
    exact call_enumerate_list p'.isList fun h' he hit hsz hk => PyProof.Rows.args_nil (fin h' he hit (fun b hb => by rw [show b = a from hb]; exact p'.lt) hsz hk)
  | tup a =>
    cases r1
    obtain ⟨its, rv, p', _⟩ := I1.tuple hq
    have p2 : s1.heap.IsTuple a its.toArray := p'
    exact call_enumerate_tuple p2 fun h' he hit hsz hk => PyProof.Rows.args_nil (fin h' he hit (fun b hb => by rw [show b = a from hb]; obtain ⟨o, ho, _⟩ := p2; exact Heap.lt_size ho) hsz hk)
  | str x =>
    obtain ⟨t, rfl⟩ := r1
    exact call_enumerate_str fun h' he hit hsz hk => PyProof.Rows.args_nil (fin h' he ⟨t, hit⟩ (fun b hb => hb.elim) hsz hk)
end
section
variable {X : Cx} {W : XK} {a : Expr} {fa : SE} {p p2 pos pos2 : Pos}
theorem ne_enum (hc : X.calm = true) (hml : X.mg "list" = none) (hm : X.mg "enumerate" = none) (ha : SEx X W a fa) (hgl : Gl X "list" := by rfl) (hg : Gl X "enumerate" := by rfl) (hs : starEach [a] X.env = (false, eval a X.env) :: starEach [] X.env := by rfl)
    (hs0 : starEach [.Call (.Name "enumerate" p2) [a] [] pos2] X.env = (false, eval (.Call (.Name "enumerate" p2) [a] [] pos2) X.env) :: starEach [] X.env := by rfl) :
    NEx X W (.Call (.Name "list" p) [.Call (.Name "enumerate" p2) [a] [] pos2] [] pos) (nEnum fa) := by
  refine ⟨pe_weak (pe_listEn hc hgl hml hg hm ha.pe hs hs0) fun σ H Q ⟨G, ι, ρ, m, g, ev, q⟩ => ?_⟩
  have p' := tNE_G (f := nEnum fa) (g0 := g) ev q
  have p2 : PostG X (fun G _ (v : Addr × List V) xs => RepAll X.kx G v.2 xs) W G ι H ((fa ρ m).bind fun x m => match x with
    | .d x => (match itD x with
      | some xs => if xs.length ≤ lineL then .ok (xs.mapIdx fun i x => .tup [.int i, x]) m else .no
      | none => .no)
    | _ => .no) (fun v H' => H' v.1 = none → Q (.ref v.1) (upd H' v.1 (.lst v.2))) := by
    have e : nEnum fa ρ m = ((fa ρ m).bind fun x m => match x with
    | .d x => (match itD x with
      | some xs => if xs.length ≤ lineL then .ok (xs.mapIdx fun i x => .tup [.int i, x]) m else .no
      | none => .no)
    | _ => .no) := by
      unfold nEnum iV
      cases fa ρ m with
      | no => rfl
      | ex _ _ => rfl
      | ok x m1 =>
        rw [Res.bind_ok, Res.bind_ok]
        cases x with
        | obj _ => rfl
        | raw _ => rfl
        | d x =>
          show Res.bind (match itD x with
            | some xs => .ok xs m1
            | none => .no) (fun xs m => if xs.length ≤ lineL then .ok (xs.mapIdx fun (i : Nat) x => D.tup [D.int i, x]) m else .no) = (match itD x with
            | some xs => if xs.length ≤ lineL then Res.ok (xs.mapIdx fun (i : Nat) x => D.tup [D.int i, x]) m1 else .no
            | none => .no)
          cases itD x with
          | none => rfl
          | some xs => rfl
    rw [← e]
    exact p'
  refine tE_mono (step_e g ev p2) fun v H1 ⟨G1, ι1, m1, x, x1, g1, ev1, r1, _, p1⟩ => ?_
  match x, p1, r1 with
  | .d x, p1, r1 =>
    have p3 : PostG X (fun G _ (v : Addr × List V) xs => RepAll X.kx G v.2 xs) W G1 ι1 H1 (match itD x with
      | some xs => if xs.length ≤ lineL then .ok (xs.mapIdx fun i x => .tup [.int i, x]) m1 else .no
      | none => .no) (fun v H' => H' v.1 = none → Q (.ref v.1) (upd H' v.1 (.lst v.2))) := p1
    cases h1 : itD x with
    | none => rw [h1] at p3; exact p3.elim
    | some xs =>
      rw [h1] at p3
      dsimp only at p3
      by_cases hl : xs.length ≤ lineL
      · rw [if_pos hl] at p3
        obtain ⟨sa, vs, rfl, t1, w1⟩ := Sr.of r1 h1
        refine ⟨sa, vs, rfl, Sr.sub g1.sub t1, by rw [w1.length, ← lineL_eq]; exact hl, fun l L e1 e2 e3 e4 e5 => ?_⟩
        obtain ⟨g2, x2⟩ := g1.layP L e2 e3
        have rr := rep_enV x2.sub w1 e1 fun q hq => layP_at L G1 e2 hq
        exact p3 (l, L.map fun q => .ref q.1) (DI.layP G1 L) ι1 (DI.layP H1 L) x2 g2 rr (by rw [layP_ne L H1 e5]; exact e4)
      · rw [if_neg hl] at p3; exact p3.elim
  | .obj _, p1, _ => exact p1.elim
  | .raw _, p1, _ => exact p1.elim
end
end DI
namespace DI
open PySem PySem.Spec PyProof.Rows L2
/-! sorted(set(list of ints)) -/
/-- the new set of this world -/
abbrev newS (w : World) : Obj := { cls := .type "set", dict := none, data := .set #[] 0 (.fresh 0 0 (!w.params.followText "set-order")) }
section
variable {P : Program} {w : World} {A : Around} {E : Value → Shared → Prop} {s : Shared}
set_option maxHeartbeats 3200000 in
theorem set_ints {lp : Addr} {its : Array Value} (ns : List Int) {Q : Value → Shared → Prop} (hh : A.handled = none) (hL : s.heap.IsList lp its) (hI : IntsAre its.toList ns) (hB : ns.length + 1 < scanBound)
    (fin : ∀ (h' : Heap) (tk c : Nat), SetR w h' s.heap.objs.size (fun j => decide (j ∈ ns)) c → (∀ b o, s.heap.get? b = some o → h'.get? b = some o) → Q (.ref s.heap.objs.size) { s with heap := h', toks := tk }) :
    wpAny (model P w) A (call (.type "set") [.ref lp]) Q E s := by
  have sz : its.size = ns.length := by
    have e := IntsAre.length hI
    rw [Array.length_toList] at e
    exact e
  obtain ⟨cc, tl, hmro⟩ := F.called_set.mro
  have m1 := F.called_set.made
  have m2 := F.called_set.sub
  refine wpAny_call (codeAny_of_tree ?_)
  show wpAny _ _ (callAny (.type "set") _) _ _ _
  refine wpAny_pure ⟨Code.quiet_builtin _ (by decide +kernel), codeAny_builtin F.entry_type_call ?_⟩
  rw [Around.under_plain (weight_type_call_type "set" [.ref lp] []) rfl]
  have m3 := F.called_set.notType
  have m4 := F.called_set.canCreate
  have m5 := F.typeCall_set_1 (.ref lp)
  repeat (any_goals (first | assumption | wp_step))
  refine codeAny_mono (code_set_led1 (.ref lp) (E := E) (Q₁ := fun o u => o = .ref s.heap.objs.size ∧ u = { s with heap := s.heap.push (newS w) }) ⟨rfl, rfl⟩) fun r u hu => ?_
  cases r with
  | error e => exact hu
  | ok fl =>
    cases fl with
    | ret ob =>
      obtain ⟨rfl, rfl⟩ := hu
      have nS : (s.heap.push (newS w)).get? s.heap.objs.size = some (newS w) := Heap.get?_push_size _ rfl
      have tS : Shared.TypeIs { s with heap := s.heap.push (newS w) } (.ref s.heap.objs.size) "set" := ⟨_, nS, rfl⟩
      have i1 := F.called_set.init.lookup
      have i2 := F.called_set.init.bind (.ref s.heap.objs.size)
      repeat (any_goals (first | assumption | wp_step))
      refine codeAny_mono (codeAny_call_builtin (R := wants (fun r u₂ => r = .none ∧ ∃ h' tk c, u₂ = { s with heap := h', toks := tk } ∧ SetR w h' s.heap.objs.size (fun j => decide (j ∈ ns)) c ∧
          (∀ b o, s.heap.get? b = some o → h'.get? b = some o)) E) F.called_set.init.plain F.entry_set_init (check_set_init_1 tS ?_)) fun r₂ u₂ hr₂ => ?_
      · obtain ⟨ol, eol, cl, nl, dl⟩ := hL
        obtain ⟨k1, k2, k3, k4⟩ := ol
        simp only at cl dl
        subst cl; subst dl
        have el : (s.heap.push (newS w)).get? lp = some { cls := .type "list", dict := k2, data := .seq its nl, slots := k4 } := Heap.get?_push_of_some _ eol
        have b1 := F.sub_list_set
        have b2 := F.sub_list_frozenset
        have b3 : (Value.type "list" == Value.type "dict") = false := by decide
        have L1 : (s.heap.push (newS w)).IsList lp its := ⟨_, el, rfl, nl, rfl⟩
        unfold Builtin.«set.__init__» noKeywords Builtin.Frozenset.updateFrom
        generalize gPI : pyIter = PI
        wp_walk
        subst gPI
        refine wpAny_pyIter_list L1 ?_
        refine wpAny_bind (wpAny_runValue ?_)
        have lS : lp < s.heap.objs.size := Heap.lt_size eol
        have hh3 : A.in1.in1.in1.handled = none := by simp [hh]
        have zS : (s.heap.push (newS w)).objs.size = s.heap.objs.size + 1 := Heap.size_push ..
        have neI : lp ≠ (s.heap.push (newS w)).objs.size := by
          rw [zS]; exact Nat.ne_of_lt (Nat.lt_succ_of_lt lS)
        have nfp : s.heap.objs.size ∉ [(s.heap.push (newS w)).objs.size, lp] := by
          rw [zS]
          intro z
          rcases List.mem_cons.mp z with z | z
          · exact absurd z (Nat.ne_of_lt (Nat.lt_succ_self _))
          · exact absurd (List.mem_singleton.mp z) (Nat.ne_of_gt lS)
        have vals : ∀ (i : Nat) (v : Value), its[i]? = some v → ∃ k t, ns[i]? = some k ∧ v = .int k t := fun i v hv => by
          have lt : i < ns.length := by rw [← sz]; exact (Array.getElem?_eq_some_iff.mp hv).1
          obtain ⟨t, e⟩ := PyProof.Rows.IntsAre.int_at hI i v (by rw [Array.getElem?_toList]; exact hv)
          refine ⟨ns[i], t, List.getElem?_eq_getElem lt, ?_⟩
          rw [e, List.getD_eq_getElem?_getD, List.getElem?_eq_getElem lt] <;> rfl
        refine set_update_ints ((Walks.list hh3 _ lp neI its).toS) s.heap.objs.size nfp ns sz hB vals (its.size - 0) 0 _ (by omega) (Nat.zero_le _) ⟨⟨_, Heap.get?_push_size _ rfl, rfl, rfl⟩, (L1.push _)⟩ ?g0 ?g1
        case g0 =>
          have g : ((s.heap.push (newS w)).push { cls := .type "list_iterator", data := .fields #[.ref lp, .int 0 0] }).get? s.heap.objs.size = some (newS w) := Heap.get?_push_of_some _ nS
          exact ⟨0, Nat.le_refl 0, setR_new_at g⟩
        case g1 =>
          intro u' c' mv _ R'
          obtain ⟨h', gg, dd, tk', oo⟩ := u'
          have eg : gg = s.gens := mv.gens
          have ed : dd = s.drawn := mv.drawn
          have eo : oo = s.os := mv.os
          subst eg; subst ed; subst eo
          show wpAny _ _ _ _ _ _
          refine wpAny_pure ?_
          show wpAny _ _ (ret Value.none) _ _ _
          refine wpAny_pure ⟨rfl, h', tk', c', rfl, R', fun b o e => ?_⟩
          have b0 : b < s.heap.objs.size := Heap.lt_size e
          have n1 : b ≠ s.heap.objs.size := Nat.ne_of_lt b0
          have n2 : b ≠ (s.heap.push (newS w)).objs.size := by
            rw [zS]; exact Nat.ne_of_lt (Nat.lt_succ_of_lt b0)
          exact mv.heap b o (by simp only [List.mem_cons, List.mem_singleton, List.not_mem_nil, or_false, not_or]; exact ⟨n1, n2⟩) (Heap.get?_push_of_some _ (Heap.get?_push_of_some _ e))
      · cases r₂ with
        | error e => exact hr₂
        | ok fl₂ =>
          cases fl₂ with
          | ret r =>
            obtain ⟨rfl, h', tk, c', rfl, R', kk⟩ := hr₂
            repeat (any_goals (first | assumption | wp_step))
            exact fin _ _ _ R' kk
          | _ => exact hr₂.elim
    | _ => exact hu.elim
theorem setR_count {h : Heap} {a : Addr} {ns : List Int} {c : Nat} (R : SetR w h a (fun j => decide (j ∈ ns)) c) : c = (dedupI ns).length := by
  obtain ⟨o, es, ep, t, _, _, _, _, nd, hm, _, _, hn, _, _⟩ := R
  have p : (es.toList.map L2.keyOf).Perm (dedupI ns) := (List.perm_ext_iff_of_nodup nd (dedupI_nd ns)).mpr fun k => by
    rw [← hm k, dedupI_mem]
    simp
  have := p.length_eq
  rw [List.length_map, Array.length_toList] at this
  omega
end
def tSrtSet (K : PySem.W.Frag) (te : TE) : TE := fun σ H Q => te σ H fun x H1 => ∃ (l : Addr) (ns : List Int), x = V.ref l ∧ SqL K H1 l (ns.map V.int) ∧ (dedupI ns).length < 64 ∧ ns.length ≤ 1000 ∧ ∀ p, H1 p = none → Q (.ref p) (upd H1 p (.lst ((sortI (dedupI ns)).map V.int)))
section
variable {X : Cx} {e : Expr} {te : TE} {p p2 pos pos2 : Pos}
theorem pe_srtSet (hc : X.calm = true) (hg : Gl X "sorted") (hm : X.mg "sorted" = none) (hg2 : Gl X "set") (hm2 : X.mg "set" = none) (ha : PE X e te) (na : starEach [e] X.env = (false, eval e X.env) :: starEach [] X.env := by rfl)
    (na0 : starEach [.Call (.Name "set" p2) [e] [] pos2] X.env = (false, eval (.Call (.Name "set" p2) [e] [] pos2) X.env) :: starEach [] X.env := by rfl) : PE X (.Call (.Name "sorted" p) [.Call (.Name "set" p2) [e] [] pos2] [] pos) (tSrtSet X.K te) := by
  refine ⟨fun pins s σ H Q I h => ?_⟩
  refine Call_ (ld_blt I hg hm boot_sorted ?_)
  refine PyProof.Rows.callWith_builtin1 (PyProof.Rows.args_cons ?_ na0) na0 rfl
  refine Call_ (ld_blt I hg2 hm2 PyProof.Rows.boot_set ?_)
  refine PyProof.Rows.callWith_type1 (PyProof.Rows.args_cons (thn (ha.run pins s σ H _ I h) fun v s1 ⟨x, H1, I1, r1, q1⟩ => PyProof.Rows.args_nil ?_) na) na rfl
  obtain ⟨l, ns, rfl, hq, h64, h1k, q⟩ := q1
  cases r1
  obtain ⟨its, rv, pl, hz⟩ := I1.list hq
  have hI := rv.ints
  have hns : ns.length ≤ sizeLine := by rw [List.length_map] at hz; exact hz
  refine set_ints ns (I1.ok.hd hc) pl.isList (by simpa using hI) (by unfold scanBound; omega) fun h' tk c R k => PyProof.Rows.args_nil ?_
  have hc' := setR_count R
  refine sorted_set R (I1.ok.hd hc) (by omega) fun s' pp out cc ms kk g o hp ho hi hlt hmem hlen => ?_
  have e1 : ms = sortI (dedupI ns) := by
    have pw : ms.Pairwise (· ≤ ·) := hlt.imp fun h => Int.le_of_lt h
    have nd : ms.Nodup := hlt.imp fun h => Int.ne_of_lt h
    refine sortI_uniq pw (sortI_pw _) ((List.Perm.trans ?_ (sortI_perm _).symm))
    exact (List.perm_ext_iff_of_nodup nd (dedupI_nd ns)).mpr fun k => by
      rw [hmem k, dedupI_mem]
      simp
  subst e1
  have lo : s1.heap.objs.size ≤ pp := Nat.le_trans (Nat.le_of_lt (L2.SetR.lt R)) hp
  have hn : H1 pp = none := I1.hok.fresh lo
  have k2 : ∀ b u, s1.heap.get? b = some u → s'.heap.get? b = some u := fun b u e => kk b u (k b u e)
  have hlen2 : ((sortI (dedupI ns)).map V.int).length ≤ sizeLine := by rw [List.length_map, hlen, sizeLine_eq]; omega
  have J : Inv X pins σ (upd H1 pp (.lst ((sortI (dedupI ns)).map V.int))) { s1 with heap := s'.heap, gens := s'.gens, drawn := s'.drawn, toks := s'.toks } :=
    I1.call (ch := []) (Un.laid k2 lo hn) (I1.hok.laid k2 lo ⟨hlen2, out.toList, cc, vals_of_ints hi, by rw [Array.toArray_toList]; exact ho⟩) (by rw [g]; exact I1.bare) (fun _ z => nomatch z)
  have es : s' = { s1 with heap := s'.heap, gens := s'.gens, drawn := s'.drawn, toks := s'.toks } := by
    cases s'
    cases s1
    cases o
    rfl
  rw [es]
  exact ⟨.ref pp, _, J, rfl, q pp hn⟩
end
section
variable {X : Cx} {W : XK} {a : Expr} {fa : SE} {p p2 pos pos2 : Pos}
theorem se_srtSet (hc : X.calm = true) (hm : X.mg "sorted" = none) (hm2 : X.mg "set" = none) (ha : SEx X W a fa) (hg : Gl X "sorted" := by rfl) (hg2 : Gl X "set" := by rfl) (na : starEach [a] X.env = (false, eval a X.env) :: starEach [] X.env := by rfl)
    (na0 : starEach [.Call (.Name "set" p2) [a] [] pos2] X.env = (false, eval (.Call (.Name "set" p2) [a] [] pos2) X.env) :: starEach [] X.env := by rfl) :
    SEx X W (.Call (.Name "sorted" p) [.Call (.Name "set" p2) [a] [] pos2] [] pos) (e1 dSortSet fa) := by
  refine ⟨pe_weak (pe_srtSet hc hg hm hg2 hm2 ha.pe na na0) fun σ H Q ⟨G, ι, ρ, m, g, ev, q⟩ => ?_⟩
  have q' : PostE X W G ι H ((fa ρ m).bind fun x m => ofO ((vw m x).bind dSortSet) m) Q := q
  refine tE_mono (post_tE g ev q') fun v H1 ⟨G1, ι1, m1, x, x1, g1, ev1, r1, p1⟩ => ?_
  obtain ⟨d, e, fin⟩ := post_ofO (H := H1) p1
  cases hx : vw m1 x with
  | none => rw [hx] at e; cases e
  | some dx =>
    rw [hx] at e
    have rx := r1.view g1 hx
    cases dx with
    | lst xs =>
      obtain ⟨l, vs, rfl, h, r⟩ := rx
      have e' : ((intsD xs).bind fun ns => if (dedupI ns).length < 64 ∧ ns.length ≤ 1000 then some (D.lst ((sortI (dedupI ns)).map .int)) else none) = some d := e
      cases h1 : intsD xs with
      | none => rw [h1] at e'; cases e'
      | some ns =>
        rw [h1] at e'
        obtain ⟨h64, e2⟩ := ite_some e'
        subst e2
        exact ⟨l, ns, rfl, by rw [← intsD_rep h1 r]; exact h, h64.1, h64.2, fun pp hn => g1.layL hn (RepAll.ints _) fin⟩
    | _ => cases e
end
end DI
/-! dicts with numbers that are changed; sorted pairs: meanings. -/
namespace DI
def putI (kvs : List (Int × Int)) (k v : Int) : List (Int × Int) :=
  if (kvs.any fun kv => decide (kv.1 = k)) = true then kvs.map (fun kv => if kv.1 = k then (kv.1, v) else kv) else kvs ++ [(k, v)]
def valI (kvs : List (Int × Int)) (k : Int) : Option Int := (kvs.find? fun kv => decide (kv.1 = k)).map (·.2)
def mergeI (kvs more : List (Int × Int)) : List (Int × Int) := more.foldl (fun acc kv => putI acc kv.1 kv.2) kvs
def kvD (q : Int × Int) : D := .tup [.int q.1, .int q.2]
def leP (p q : Int × Int) : Bool := decide (p.1 < q.1 ∨ (p.1 = q.1 ∧ p.2 ≤ q.2))
/-- dict(x) of a tuple of pairs -/
def eDkOf [Nil0] (a : SE) : SE := fun ρ m => (a ρ m).bind fun x m => match (tupOf m x).bind pairsI with
  | some ps => if ps.length ≤ lineL then .ok (.obj m.length) (m ++ [.dk (mergeI [] ps)]) else .no
  | none => .no
/-- {} -/
def eDkNew : SE := fun _ m => .ok (.obj m.length) (m ++ [.dk []])
def dkAt (m : Mem) : PV → Option (Nat × List (Int × Int))
  | .obj i => match m[i]? with
    | some (.dk kvs) => some (i, kvs)
    | _ => none
  | _ => none
/-- d[k] = v -/
def sDkPut (fd fk fv : SE) : SS := fun ρ m => (fv ρ m).run fun v m => (fd ρ m).run fun d m => (fk ρ m).run fun k m => match k, v with
  | .d (.int k), .d (.int v) => match dkAt m d with
    | some (i, kvs) => if kvs.length < lineL then .nx ρ (m.set i (.dk (putI kvs k v))) else .no
    | none => .no
  | _, _ => .no
/-- sorted(d.items()) -/
def eDkSrt (fd : SE) : SE := fun ρ m => (fd ρ m).bind fun d m => match dkAt m d with
  | some (_, kvs) => if kvs.length ≤ lineL then .ok (.d (.lst ((kvs.mergeSort leP).map kvD))) m else .no
  | none => .no
end DI
namespace DI
/-! lists of tuples of numbers: sorted, sorted(set(..)) -/
def intsTs : List D → Option (List (List Int))
  | [] => some []
  | .tup ds :: r => (intsD ds).bind fun ns => (intsTs r).map (ns :: ·)
  | _ :: _ => none
def leL (a b : List Int) : Bool := decide (a ≤ b)
def dedupG : List (List Int) → List (List Int)
  | [] => []
  | x :: xs => if x ∈ dedupG xs then dedupG xs else x :: dedupG xs
def tupI (ns : List Int) : D := .tup (ns.map .int)
def dSortT : D → Option D
  | .lst xs => (intsTs xs).bind fun bs => if (bs.all fun b => !b.isEmpty) = true ∧ bs.length ≤ 1000000 then some (.lst ((bs.mergeSort leL).map tupI)) else none
  | _ => none
def dSortSetT : D → Option D
  | .lst xs => (intsTs xs).bind fun bs => if (bs.all fun b => !b.isEmpty) = true ∧ (dedupG bs).length < 63 ∧ bs.length ≤ 1000 then some (.lst (((dedupG bs).mergeSort leL).map tupI)) else none
  | _ => none
theorem dedupG_mem {x : List Int} : ∀ {l : List (List Int)}, x ∈ dedupG l ↔ x ∈ l
  | [] => by simp [dedupG]
  | y :: l => by
    unfold dedupG
    by_cases h : y ∈ dedupG l
    · rw [if_pos h, dedupG_mem, List.mem_cons]
      constructor
      · exact .inr
      · rintro (rfl | h')
        · exact dedupG_mem.mp h
        · exact h'
    · rw [if_neg h, List.mem_cons, List.mem_cons, dedupG_mem]
theorem dedupG_nd : ∀ l : List (List Int), (dedupG l).Nodup
  | [] => List.nodup_nil
  | y :: l => by
    unfold dedupG
    by_cases h : y ∈ dedupG l
    · rw [if_pos h]; exact dedupG_nd l
    · rw [if_neg h]; exact List.nodup_cons.mpr ⟨h, dedupG_nd l⟩
theorem leL_tot (a b : List Int) : leL a b = true ∨ leL b a = true := by
  unfold leL
  rw [decide_eq_true_eq, decide_eq_true_eq]
  exact List.le_total a b
theorem leL_trans {a b c : List Int} (h : leL a b = true) (k : leL b c = true) : leL a c = true := by
  unfold leL at *
  rw [decide_eq_true_eq] at *
  exact List.le_trans h k
theorem leL_anti {a b : List Int} (h : leL a b = true) (k : leL b a = true) : a = b := by
  unfold leL at *
  rw [decide_eq_true_eq] at *
  exact List.le_antisymm h k
theorem leL_pw (l : List (List Int)) : (l.mergeSort leL).Pairwise fun a b => leL a b = true :=
  List.pairwise_mergeSort (le := leL) (fun _ _ _ h k => leL_trans h k) (fun a b => by
    rw [Bool.or_eq_true]
    exact leL_tot a b) l
/-- one list of tuples in order -/
theorem leL_uniq : ∀ {a b : List (List Int)}, a.Pairwise (fun x y => leL x y = true) → b.Pairwise (fun x y => leL x y = true) → a.Perm b → a = b
  | [], b, _, _, p => List.Perm.nil_eq p
  | x :: a, [], _, _, p => absurd p.symm.nil_eq (by simp)
  | x :: a, y :: b, ha, hb, p => by
    rw [List.pairwise_cons] at ha hb
    have e : x = y := by
      have h1 : y ∈ x :: a := p.mem_iff.mpr (by simp)
      have h2 : x ∈ y :: b := p.mem_iff.mp (by simp)
      rcases List.mem_cons.mp h1 with z | z
      · exact z.symm
      · rcases List.mem_cons.mp h2 with z' | z'
        · exact z'
        · exact leL_anti (ha.1 y z) (hb.1 x z')
    subst e
    rw [leL_uniq ha.2 hb.2 (List.Perm.cons_inv p)]
theorem nodup_len {α : Type} [DecidableEq α] : ∀ {l m : List α}, l.Nodup → (∀ x ∈ l, x ∈ m) → l.length ≤ m.length
  | [], _, _, _ => Nat.zero_le _
  | x :: l, m, nd, h => by
    rw [List.nodup_cons] at nd
    have hx := h x (by simp)
    have r := nodup_len (l := l) (m := m.erase x) nd.2 fun y hy => (List.mem_erase_of_ne (fun (e : y = x) => nd.1 (by rw [← e]; exact hy))).mpr (h y (by simp [hy]))
    rw [List.length_erase_of_mem hx] at r
    have := List.length_pos_of_mem hx
    rw [List.length_cons]
    omega
end DI
namespace DI
open PySem PySem.Spec PyProof.Rows L2
/-! dicts that are changed -/
def encK (xs : List (Int × Int)) : List (Key × V) := xs.map fun q => ((.inl q.1 : Key), V.int q.2)
theorem putK_enc (k v : Int) (xs : List (Int × Int)) : putK (encK xs) (.inl k : Key) (V.int v) = encK (putI xs k v) := by
  have ea : ((encK xs).any fun kv => decide (kv.1 = (.inl k : Key))) = (xs.any fun kv => decide (kv.1 = k)) := by
    unfold encK
    rw [List.any_map]
    congr 1
    funext q
    exact decide_eq_decide.mpr ⟨fun h => Sum.inl.inj h, fun h => by show (Sum.inl q.1 : Key) = .inl k; rw [h]⟩
  unfold putK putI
  rw [ea]
  by_cases h : (xs.any fun kv => decide (kv.1 = k)) = true
  · rw [if_pos h, if_pos h]
    unfold encK
    rw [List.map_map, List.map_map]
    apply List.map_congr_left
    intro q _
    show (if (Sum.inl q.1 : Key) = .inl k then ((Sum.inl q.1 : Key), V.int v) else (.inl q.1, .int q.2)) = (Sum.inl (if q.1 = k then (q.1, v) else q).1, V.int (if q.1 = k then (q.1, v) else q).2)
    by_cases e : q.1 = k
    · rw [if_pos (by rw [e]), if_pos e]
    · rw [if_neg (fun z => e (Sum.inl.inj z)), if_neg e]
  · rw [if_neg h, if_neg h]
    unfold encK
    rw [List.map_append]
    rfl
theorem mergeK_enc : ∀ (more acc : List (Int × Int)), mergeK (encK acc) (encK more) = encK (mergeI acc more)
  | [], _ => rfl
  | p :: r, acc => by
    show mergeK (putK (encK acc) (.inl p.1) (.int p.2)) (encK r) = encK (mergeI (putI acc p.1 p.2) r)
    rw [putK_enc, mergeK_enc r]
theorem GR.allocK {K : Kx} {G H : Hp} {ι : Io} {m : Mem} (g : GR K G ι m H) {q : Addr} (hq : H q = none) (xs : List (Int × Int)) : GR K G (ι ++ [[q]]) (m ++ [.dk xs]) (upd H q (.dK (encK xs))) ∧ Ext G ι H G (ι ++ [[q]]) (upd H q (.dK (encK xs))) := by
  obtain ⟨g1, g2⟩ := g.fresh hq
  refine ⟨⟨sub_updR g.sub g1, by simp [g.len], ?_, fun i l o hl ho => ?_⟩, Sub.refl G, ⟨_, rfl, fun a ha => (show a = q by simpa using ha) ▸ hq⟩, fun a u e _ => by rw [upd_ne (ne_of_none e hq)]; exact e, fun a e => ?_, fun a u e => .inl e⟩
  · rw [List.flatten_append, List.nodup_append]
    refine ⟨g.nd, by simp, fun x hx y hy e => ?_⟩
    have : y = q := by simpa using hy
    subst this; subst e
    exact g2 hx
  · by_cases hi : i < ι.length
    · rw [List.getElem?_append_left hi] at hl
      rw [List.getElem?_append_left (by rw [← g.len]; exact hi)] at ho
      refine (g.obj i l o hl ho).mono (Sub.refl G) fun a ha => ⟨id, ?_⟩
      rw [upd_ne]
      rintro rfl
      exact g2 (mem_io hl ha)
    · have hi' : i = ι.length := by
        have h1 := (List.getElem?_eq_some_iff.mp hl).1
        simp at h1
        omega
      subst hi'
      rw [List.getElem?_append_right (Nat.le_refl _)] at hl
      rw [g.len, List.getElem?_append_right (Nat.le_refl _)] at ho
      simp at hl ho
      subst hl ho
      exact ⟨q, rfl, g1, upd_same⟩
  · by_cases h : a = q
    · subst h; exact hq
    · rw [upd_ne h] at e; exact e
theorem GR.objK {K : Kx} {G H : Hp} {ι : Io} {m : Mem} (g : GR K G ι m H) {i : Nat} {q : Addr} {l : List Addr} {xs : List (Int × Int)} (hi : ι[i]? = some (q :: l)) (hm : m[i]? = some (.dk xs)) : l = [] ∧ G q = none ∧ H q = some (.dK (encK xs)) := by
  obtain ⟨a, ea, h0, h1⟩ := g.obj i _ _ hi hm
  cases ea
  exact ⟨rfl, h0, h1⟩
theorem io_apartK {q : Addr} : ∀ (L : Io) (i j : Nat) (l l' : List Addr), L.flatten.Nodup → L[i]? = some l → L[j]? = some l' → j ≠ i → q ∈ l → q ∈ l' → False := by
  intro L
  induction L with
  | nil => intro i j l l' _ h; simp at h
  | cons x L ih =>
    intro i j l l' nd hi hj hne h1 h2
    rw [List.flatten_cons, List.nodup_append] at nd
    cases i with
    | zero =>
      cases j with
      | zero => exact hne rfl
      | succ j =>
        simp at hi hj
        subst hi
        exact nd.2.2 q h1 q (mem_io hj h2) rfl
    | succ i =>
      cases j with
      | zero =>
        simp at hi hj
        subst hj
        exact nd.2.2 q h2 q (mem_io hi h1) rfl
      | succ j =>
        simp at hi hj
        exact ih i j l l' nd.2.1 hi hj (fun e => hne (by rw [e])) h1 h2
theorem GR.writeK {K : Kx} {G H : Hp} {ι : Io} {m : Mem} (g : GR K G ι m H) {i : Nat} {q : Addr} {l : List Addr} {xs : List (Int × Int)} (hi : ι[i]? = some (q :: l)) (hm : m[i]? = some (.dk xs)) (ys : List (Int × Int)) :
    GR K G ι (m.set i (.dk ys)) (upd H q (.dK (encK ys))) ∧ Ext G ι H G ι (upd H q (.dK (encK ys))) := by
  obtain ⟨el, g0, h0⟩ := g.objK hi hm
  subst el
  have hq : q ∈ ι.flatten := mem_io hi (by simp)
  refine ⟨⟨sub_updR g.sub g0, by simp [g.len], g.nd, fun j l' o hl ho => ?_⟩, Sub.refl G, ⟨[], by simp, by simp⟩, fun x o h hn => ?_, fun x h => ?_, fun x o h => .inl h⟩
  · by_cases hj : j = i
    · subst hj
      rw [hi] at hl
      cases hl
      rw [List.getElem?_set_self (List.getElem?_eq_some_iff.mp hm).1] at ho
      cases ho
      exact ⟨q, rfl, g0, upd_same⟩
    · rw [List.getElem?_set_ne (Ne.symm hj)] at ho
      refine (g.obj j l' o hl ho).mono (Sub.refl G) fun x hx => ⟨id, ?_⟩
      rw [upd_ne]
      rintro rfl
      exact io_apartK ι i j _ l' g.nd hi hl hj (by simp) hx
  · rw [upd_ne]
    · exact h
    · rintro rfl
      exact hn hq
  · by_cases z : x = q
    · subst z; rw [upd_same] at h; cases h
    · rw [upd_ne z] at h; exact h
theorem TupN.mono {K : PySem.W.Frag} {G H : Hp} (s : Sub G H) {a : Addr} {xs : List V} (h : TupN K G a xs) : TupN K H a xs := by
  rcases h with ⟨o, h1, h2⟩ | h
  · exact .inl ⟨o, s _ _ h1, h2⟩
  · exact .inr h
theorem Paired.imp' {α β : Type} {R S : α → β → Prop} {xs : List α} {ys : List β} (h : Paired R xs ys) (f : ∀ x y, R x y → S x y) : Paired S xs ys := DI.Paired.map_in h fun x _ y r => f x y r
section
variable {X : Cx} {W : XK} {a b c e k : Expr} {fa fb fc fk fe : SE} {pos apos p : Pos} {Dn : Ends}
/-- dict(t), t a tuple of pairs of numbers -/
theorem se_dkOf [Nil0] (hK : NilA X.K) (hc : X.calm = true) (hm : X.mg "dict" = none) (ha : SEx X W a fa) (hg : Gl X "dict" := by rfl) (he : starEach (a :: []) X.env = (false, eval a X.env) :: starEach [] X.env := by rfl) : SEx X W (.Call (.Name "dict" p) [a] [] pos) (eDkOf fa) := by
  refine ⟨pe_weak (pe_callTy (call_dictT hc) hg hm (by decide +kernel) (pa_cons ha.pe pa_nil he) (by decide +kernel) (by decide +kernel) he (by rfl)) fun σ H Q ⟨G, ι, ρ, m, g, ev, q⟩ => ?_⟩
  refine ⟨G, ι, ρ, m, g, ev, ?_⟩
  unfold eDkOf at q
  cases hr : fa ρ m with
  | no => rw [hr] at q; exact q
  | ex x m1 => rw [hr] at q; exact q
  | ok x m1 =>
    rw [hr, Res.bind_ok] at q
    intro v G' ι' H' x' g' r
    have q2 : PostE X W G ι H (match (tupOf m1 x).bind pairsI with
      | some ps => if ps.length ≤ lineL then .ok (.obj m1.length) (m1 ++ [.dk (mergeI [] ps)]) else .no
      | none => .no) Q := q
    cases ht : tupOf m1 x with
    | none => rw [ht] at q2; exact q2.elim
    | some ts =>
      rw [ht, Option.bind_some] at q2
      cases hp : pairsI ts with
      | none => rw [hp] at q2; exact q2.elim
      | some prs =>
        rw [hp] at q2
        have q2 : PostE X W G ι H (if prs.length ≤ lineL then .ok (.obj m1.length) (m1 ++ [.dk (mergeI [] prs)]) else .no) Q := q2
        by_cases hl : prs.length ≤ lineL
        · rw [if_pos hl] at q2
          obtain ⟨a', vs, rfl, tn, ra⟩ := tupOf_at hK g' r ht
          obtain ⟨as, rfl, pr⟩ := pairs_rep ra hp
          refine ⟨a', as, encK prs, rfl, tn.mono g'.sub, DI.Paired.imp' pr fun _ _ h => g'.sub.sqt h, fun l hl => ?_⟩
          rw [show ([] : List (Key × V)) = encK [] from rfl, mergeK_enc]
          obtain ⟨g2, x2⟩ := g'.allocK hl (mergeI [] prs)
          exact q2 _ _ _ _ (x'.trans x2) g2 ⟨l, [], by rw [← g'.len]; simp, rfl⟩
        · rw [if_neg hl] at q2; exact q2.elim
theorem se_dkNew : SEx X W (.Dict [] [] pos) eDkNew := by
  refine ⟨pe_weak pe_dnewK fun σ H Q ⟨G, ι, ρ, m, g, ev, q⟩ => fun l hl => ?_⟩
  obtain ⟨g2, x2⟩ := g.allocK hl []
  exact q _ _ _ _ x2 g2 ⟨l, [], by rw [← g.len]; simp, rfl⟩
theorem dkAt_at {G H : Hp} {ι : Io} {m : Mem} {K : Kx} (g : GR K G ι m H) {v : V} {x : PV} (r : RepV K G ι v x) {i : Nat} {kvs : List (Int × Int)} (h : dkAt m x = some (i, kvs)) : ∃ q l, x = .obj i ∧ v = .ref q ∧ ι[i]? = some (q :: l) ∧ m[i]? = some (.dk kvs) ∧ H q = some (.dK (encK kvs)) := by
  cases x with
  | d _ => cases h
  | raw _ => cases h
  | obj j =>
    unfold dkAt at h
    dsimp only at h
    cases hm : m[j]? with
    | none => rw [hm] at h; cases h
    | some o =>
      rw [hm] at h
      cases o with
      | dk xs =>
        cases h
        obtain ⟨q, l, hi, rfl⟩ := r
        exact ⟨q, l, rfl, rfl, hi, hm, (g.objK hi hm).2.2⟩
      | _ => cases h
/-- d[k] = v -/
theorem ss_dkPut {spos : Pos} (hu0 : X.A.units + 64 < cLine) (ha : SEx X W a fa) (hk : SEx X W b fk) (he : SEx X W e fe) (hs : swapsWith e (some (.Subscript a b spos)) pos.line X.env = pure false := by rfl) : SSt X W (.Assign [.Subscript a b spos] e pos) (sDkPut fa fk fe) := by
  refine ⟨ps_weak (ps_dput (by omega) ha.pe hk.pe he.pe hs) fun D σ H ⟨G, ι, ρ, m, g, ev, p⟩ => ?_⟩
  refine tE_mono (run_e (Q := True) g ev p) fun u H1 ⟨G1, ι1, m1, y, x1, g1, ev1, r1, p1⟩ => ?_
  refine tE_mono (run_e (Q := True) g1 ev1 p1) fun w H2 ⟨G2, ι2, m2, z, x2, g2, ev2, r2, p2⟩ => ?_
  refine tE_mono (run_e (Q := True) g2 ev2 p2) fun t H3 ⟨G3, ι3, m3, q, x3, g3, ev3, r3, p3⟩ => ?_
  match q, y, r3, r1, p3 with
  | .d (.int k), .d (.int v), r3, r1, p3 =>
    have p4 : PostS X W D G3 ι3 H3 (match dkAt m3 z with
      | some (i, kvs) => if kvs.length < lineL then .nx ρ (m3.set i (.dk (putI kvs k v))) else .no
      | none => .no) := p3
    cases hz : dkAt m3 z with
    | none => rw [hz] at p4; exact p4.elim
    | some ik =>
      obtain ⟨i, kvs⟩ := ik
      rw [hz] at p4
      have p4 : PostS X W D G3 ι3 H3 (if kvs.length < lineL then .nx ρ (m3.set i (.dk (putI kvs k v))) else .no) := p4
      by_cases hl : kvs.length < lineL
      · rw [if_pos hl] at p4
        obtain ⟨q, l, rfl, rfl, hi, hm, hq⟩ := dkAt_at g3 (r2.ext x3) hz
        cases r1
        cases r3
        obtain ⟨g4, x4⟩ := g3.writeK hi hm (putI kvs k v)
        refine ⟨q, _, rfl, DPut.k (k := .inl k) hq ?_, ?_⟩
        · unfold encK; rw [List.length_map, ← lineL_eq]; exact hl
        · rw [putK_enc]
          exact p4 σ _ _ _ x4 g4 (ev3.ext x4)
      · rw [if_neg hl] at p4; exact p4.elim
  | .obj _, _, _, _, p3 => exact p3.elim
  | .raw _, _, _, _, p3 => exact p3.elim
  | .d (.int _), .obj _, _, _, p3 => exact p3.elim
  | .d (.int _), .raw _, _, _, p3 => exact p3.elim
  | .d (.int _), .d .non, _, _, p3 => exact p3.elim
  | .d (.int _), .d (.bl _), _, _, p3 => exact p3.elim
  | .d (.int _), .d (.str _), _, _, p3 => exact p3.elim
  | .d (.int _), .d (.tup _), _, _, p3 => exact p3.elim
  | .d (.int _), .d (.lst _), _, _, p3 => exact p3.elim
  | .d (.int _), .d (.dct _ _), _, _, p3 => exact p3.elim
  | .d (.int _), .d (.ins _ _ _), _, _, p3 => exact p3.elim
  | .d .non, _, _, _, p3 => exact p3.elim
  | .d (.bl _), _, _, _, p3 => exact p3.elim
  | .d (.str _), _, _, _, p3 => exact p3.elim
  | .d (.tup _), _, _, _, p3 => exact p3.elim
  | .d (.lst _), _, _, _, p3 => exact p3.elim
  | .d (.dct _ _), _, _, _, p3 => exact p3.elim
  | .d (.ins _ _ _), _, _, _, p3 => exact p3.elim
end
end DI
namespace DI
open PySem PySem.Spec PyProof.Rows L2
/-! sorted(d.items()) -/
def pvL (q : Int × Int) : List V := [.int q.1, .int q.2]
def encPD (q : Int × Int) : PyData := .tuple [.int q.1, .int q.2]
theorem encPD_alike (a b : Int × Int) : PySem.W.alike (encPD a) (encPD b) = true := by simp [encPD, PySem.W.alike, PySem.W.alikeAll]
theorem dataLe_pd : PySem.W.dataLe false encPD = leP := PySem.W.dataLe_ii (fun q : Int × Int => q.1) (fun q => q.2)
/-- a tuple of two numbers in the heap -/
def TwoAt (h : Heap) (a : Addr) (q : Int × Int) : Prop := ∃ t u, h.get? a = some { cls := .type "tuple", data := .seq #[Value.int q.1 t, .int q.2 u] }
theorem TwoAt.reads {h : Heap} {a : Addr} {q : Int × Int} (x : TwoAt h a q) : ∃ as, Reads h (.ref a) (encPD q) as := by
  obtain ⟨t, u, e⟩ := x
  exact ⟨_, .tuple e rfl rfl (.cons (.int _ _) (.cons (.int _ _) .nil))⟩
theorem zip_each {β : Type} {R : Value → β → Prop} : ∀ {vs : List Value} {bs : List β}, vs.length = bs.length → (∀ (j : Nat) v b, vs[j]? = some v → bs[j]? = some b → R v b) → PySem.W.EachIs R vs bs
  | [], [], _, _ => .nil
  | [], _ :: _, h, _ => by simp at h
  | _ :: _, [], h, _ => by simp at h
  | v :: vs, b :: bs, hl, h => .cons (h 0 v b rfl rfl) (zip_each (by simpa using hl) fun j v b h1 h2 => h (j + 1) v b (by simpa using h1) (by simpa using h2))
theorem each_at {β : Type} {R : Value → β → Prop} : ∀ {vs : List Value} {bs : List β}, PySem.W.EachIs R vs bs → ∀ (j : Nat) b, bs[j]? = some b → ∃ v, vs[j]? = some v ∧ R v b
  | _, _, .nil, _, _, h => by simp at h
  | _, _, .cons r t, 0, b, h => by simp at h; subst h; exact ⟨_, rfl, r⟩
  | _, _, .cons r t, j + 1, b, h => by
    obtain ⟨v, h1, h2⟩ := each_at t j b (by simpa using h)
    exact ⟨v, by simpa using h1, h2⟩
theorem kv_keys : ∀ {kvs : List (Int × Int)} {vs : List (Key × Value)}, KV (encK kvs) vs → vs.map (·.1) = kvs.map fun q => (Sum.inl q.1 : Key)
  | [], [], _ => rfl
  | [], _ :: _, h => nomatch h
  | _ :: _, [], h => nomatch h
  | q :: kvs, p :: vs, h => by
    cases h with
    | cons r t =>
      rw [List.map_cons, List.map_cons, kv_keys t]
      congr 1
      exact r.1.symm
theorem each_refs {as : List Addr} {h : Heap} : ∀ {out : List Value} {qs : List (Int × Int)}, PySem.W.EachIs (fun v q => ∃ b, v = .ref b ∧ b ∈ as ∧ TwoAt h b q) out qs → ∃ bs : List Addr, out = bs.map Value.ref ∧ bs.length = qs.length ∧ ∀ (j : Nat) b q, bs[j]? = some b → qs[j]? = some q → b ∈ as ∧ TwoAt h b q
  | _, _, .nil => ⟨[], rfl, rfl, fun j b q h => by simp at h⟩
  | _, _, .cons ⟨b, e, m, t⟩ r => by
    obtain ⟨bs, e1, e2, e3⟩ := each_refs r
    refine ⟨b :: bs, by rw [e, e1]; rfl, by simp [e2], fun j b' q h1 h2 => ?_⟩
    cases j with
    | zero => simp at h1 h2; subst h1 h2; exact ⟨m, t⟩
    | succ j => exact e3 j b' q (by simpa using h1) (by simpa using h2)
theorem TwoAt.inj {h : Heap} {a : Addr} {q r : Int × Int} (x : TwoAt h a q) (y : TwoAt h a r) : q = r := by
  obtain ⟨t, u, e⟩ := x
  obtain ⟨t', u', e'⟩ := y
  rw [e] at e'
  simp at e'
  obtain ⟨⟨a1, _⟩, a2, _⟩ := e'
  exact Prod.ext a1 a2
theorem nodup_of_at {α β : Type} {bs : List α} {qs : List β} (hl : bs.length = qs.length) (nd : qs.Nodup) (h : ∀ (i j : Nat) b q r, bs[i]? = some b → bs[j]? = some b → qs[i]? = some q → qs[j]? = some r → q = r) : bs.Nodup := by
  rw [List.nodup_iff_pairwise_ne, List.pairwise_iff_getElem]
  intro i j hi hj hij e
  have hi2 : i < qs.length := by omega
  have hj2 : j < qs.length := by omega
  have := h i j bs[i] qs[i] qs[j] (List.getElem?_eq_getElem hi) (by rw [List.getElem?_eq_getElem hj, e]) (List.getElem?_eq_getElem hi2) (List.getElem?_eq_getElem hj2)
  have p := List.pairwise_iff_getElem.mp (List.nodup_iff_pairwise_ne.mp nd) i j hi2 hj2 hij
  exact p this
def tSrtIt (td : TE) : TE := fun σ H Q => td σ H fun x H1 => ∃ (a : Addr) (kvs : List (Int × Int)), x = .ref a ∧ H1 a = some (.dK (encK kvs)) ∧ ∀ (l : Addr) (L : List (Addr × List V)), L.map (·.2) = (kvs.mergeSort leP).map pvL → (L.map (·.1)).Nodup → (∀ p ∈ L, H1 p.1 = none) → H1 l = none → l ∉ L.map (·.1) → Q (.ref l) (upd (layP H1 L) l (.lst (L.map fun p => .ref p.1)))
section
variable {X : Cx} {o : Expr} {p pos apos mpos : Pos} {td : TE}
theorem pe_srtIt (hc : X.calm = true) (hu0 : X.A.units + 64 < cLine) (hg : Gl X "sorted") (hm : X.mg "sorted" = none) (hd : PE X o td) (hbase : attributeBase o "items" X.env (eval o X.env) = eval o X.env := by rfl) (hline : (apos.endLine == mpos.line) = true := by rfl)
    (hse : starEach [Expr.Call (.Attribute o "items" apos) [] [] mpos] X.env = [(false, eval (Expr.Call (.Attribute o "items" apos) [] [] mpos) X.env)] := by rfl) :
    PE X (.Call (.Name "sorted" p) [.Call (.Attribute o "items" apos) [] [] mpos] [] pos) (tSrtIt td) := by
  refine ⟨fun pins s σ H Q I h => ?_⟩
  refine wpAny_Call_Name_kw (ld_blt I hg hm (u := .builtin "sorted") (by first | rfl | decide +kernel) ?_ (by first | decide +kernel | decide) (by first | decide +kernel | decide))
  rw [hse]
  refine PySem.callWith_builtin1 (wpAny_Call_method0_late hbase hline (thn (hd.run pins s σ H _ I h) fun v s1 ⟨x, H1, I1, r1, a, kvs, ex, ha, q⟩ => ?_))
  subst ex
  obtain rfl : v = Value.ref a := r1
  obtain ⟨hkl, hsys, vs, rel, dof⟩ := dk_of I1.hok ha
  have dat := dof
  obtain ⟨es, ep, hraw, hes, hent⟩ := dof.raw
  have dat' := dat
  obtain ⟨ob, es', ep', ho, ex, hdat, hko, hpr, hnd⟩ := dat'
  refine ⟨"dict", "dict.items", F.plainAttrs_dict, F.slot_dict_items, F.type_dict_items, ⟨ob, ho, ex.1⟩, fun b e => ?_, Calls.callWith_builtin rfl (PySem.evalArgs_none ?_)⟩
  · cases e
    exact ⟨ob, ho, ex.2.1⟩
  refine call_meetsIn F.slot_dict_items ⟨ob, ho, ex.1⟩ F.entry_dict_items (F.args_dict_items_1 _) (meets_dict_items (mixKind X.prog X.w) a hsys) ⟨⟨vs, dof⟩, ?_⟩
  have k1 : ∀ b u, s1.heap.get? b = some u → (s1.heap.push { cls := .type "dict_items", data := .fields #[.ref a] }).get? b = some u := fun b u e => Heap.get?_push_of_some _ e
  have hlv : vs.length = kvs.length := by
    have e1 := KV.length rel
    unfold encK at e1
    rw [List.length_map] at e1
    exact e1.symm
  have hle : kvs.length ≤ sizeLine := by unfold encK at hkl; rw [List.length_map] at hkl; exact hkl
  have hh : X.A.handled = none := I.ok.hd hc
  have hn : es.size ≤ sizeLine := by rw [hes, hlv]; exact hle
  refine PySem.Calls.call_function_entry kind_sorted plain_sorted entry_sorted (args_sorted1 _) ?_
  unfold Builtin.«sorted»
  refine wpAny_bind (m := checkCount "sorted" 1 1 _) (wpAny_pure ?_)
  refine wpAny_bind (PySem.W.dil_collect (A := X.A.in1) (es := es) (ep := ep) hh ⟨_, Heap.get?_push_size _ rfl, rfl, rfl⟩ (hraw.at fun u e => k1 _ _ e) hn fun h' tk as hk hl hG => ?_)
  refine wpAny_bind (wpAny_newList ?_ (by rw [List.length_map, hl]; exact hn))
  have hls : s1.heap.objs.size < h'.objs.size := Heap.lt_size (hk s1.heap.objs.size _ (Heap.get?_push_size _ rfl))
  have k2 : ∀ b u, s1.heap.get? b = some u → h'.get? b = some u := fun b u e => hk b u (k1 b u e)
  have ha2 : as.length = kvs.length := by rw [hl, hes, hlv]
  have two : ∀ (j : Nat) (b : Addr) (q : Int × Int), as[j]? = some b → kvs[j]? = some q → TwoAt h' b q := by
    intro j b q hb hq
    obtain ⟨hj, e⟩ := hG.pairs j b hb
    have hv : ∃ kv, vs[j]? = some kv := ⟨vs[j]'(by rw [← hes]; exact hj), List.getElem?_eq_getElem _⟩
    obtain ⟨⟨k, v⟩, hv⟩ := hv
    obtain ⟨z1, z2⟩ := hent j hj k v hv
    obtain ⟨x, y1, y2⟩ := KV.at' rel hv
    unfold encK at y1
    rw [List.getElem?_map, hq] at y1
    have y3 := Option.some.inj y1
    have ek : (Sum.inl q.1 : Key) = k := congrArg Prod.fst y3
    have ev : V.int q.2 = x := congrArg Prod.snd y3
    subst ek ev
    obtain ⟨u, hu⟩ := y2
    have hk1 : ∃ t, es[j].key = Value.int q.1 t := by
      rcases keyIs_shape (show keyIs (Sum.inl q.1) es[j].key = true from z1) with ⟨i, t, e1, e2⟩ | ⟨_, t, e1, _⟩
      · have : i = q.1 := (Sum.inl.inj e1).symm
        subst this
        exact ⟨t, e2⟩
      · cases e1
    obtain ⟨t, ht⟩ := hk1
    exact ⟨t, u, by rw [e, ht, z2, hu]⟩
  refine wpAny_bind (wpAny_holding (wpAny_mono (?_ : wpAny (model X.prog X.w) X.A.in1 (call (.builtin "list.sort") [.ref h'.objs.size]) (fun _ s' => EP X pins σ Q (.ref h'.objs.size) s') X.xe _) (fun _ s' x => wpAny_pure ⟨_, rfl, x⟩) fun _ _ e => e))
  generalize hh2 : h'.push { cls := .type "list", data := .seq (as.map Value.ref).toArray } = h2
  have hob : h2.get? h'.objs.size = some (seqObj "list" (as.map Value.ref).toArray 0) := by rw [← hh2]; exact Heap.get?_push_size _ rfl
  have ka : ∀ b u, h'.get? b = some u → h2.get? b = some u := fun b u e => by rw [← hh2]; exact Heap.get?_push_of_some _ e
  have ne0 : ∀ b u, h'.get? b = some u → b ≠ h'.objs.size := fun b u e => Nat.ne_of_lt (Heap.lt_size e)
  have two2 : ∀ (j : Nat) (v : Value) (q : Int × Int), (as.map Value.ref)[j]? = some v → kvs[j]? = some q → ∃ b, v = .ref b ∧ b ∈ as ∧ TwoAt h' b q := by
    intro j v q hv hq
    rw [List.getElem?_map] at hv
    cases hb : as[j]? with
    | none => rw [hb] at hv; cases hv
    | some b =>
      rw [hb] at hv
      cases hv
      exact ⟨b, rfl, List.mem_of_getElem? hb, two j b q hb hq⟩
  refine PySem.W.list_sort_data (β := Int × Int) (enc := encPD) (R := fun v q => ∃ b, v = .ref b ∧ b ∈ as ∧ TwoAt h' b q) (bs := kvs) hob (zip_each (by rw [List.length_map, ha2]) two2) (zip_each (by rw [List.length_map, ha2]) fun j v q hv hq => ?_) (PySem.W.AllAlike.of encPD_alike) (PySem.W.Sortable.tuples fun b => ⟨_, _, rfl⟩) hle (fun b _ => ?_) fun out ho1 ho2 => ?_
  · obtain ⟨b, rfl, _, t, u, e⟩ := two2 j v q hv hq
    exact ⟨[], .tuple (ka _ _ e) rfl rfl (.cons (.int _ _) (.cons (.int _ _) .nil)), by simp⟩
  · show X.A.units + 1 + 1 + _ < cLine
    have : (encPD b).depth ≤ 3 := by simp [encPD, PyData.depth, PyData.depthAll]
    omega
  obtain ⟨bs, eo, eb, bat⟩ := each_refs ho2
  rw [dataLe_pd] at eb bat
  have ndk : kvs.Nodup := by
    rw [kv_keys rel] at hnd
    rw [List.nodup_iff_pairwise_ne, List.pairwise_map] at hnd
    exact List.nodup_iff_pairwise_ne.mpr (hnd.imp fun h e => h (by rw [e]))
  have nds : (kvs.mergeSort leP).Nodup := (List.mergeSort_perm kvs leP).nodup_iff.mpr ndk
  have nd : bs.Nodup := nodup_of_at eb nds fun i j b q r h1 h2 h3 h4 => (bat i b q h1 h3).2.inj (bat j b r h2 h4).2
  generalize hso : kvs.mergeSort leP = so at eb bat nds q
  subst eo
  generalize hF : sortedHeap h2 h'.objs.size (as.map Value.ref) (bs.map Value.ref).toArray = F
  have kF : ∀ b u, b ≠ h'.objs.size → h2.get? b = some u → F.get? b = some u := fun b u hb e => by rw [← hF]; exact (PyProof.Rows.sortedHeap_old hb (Heap.lt_size e)).trans e
  have kH : ∀ b u, h'.get? b = some u → F.get? b = some u := fun b u e => kF b u (ne0 _ _ e) (ka _ _ e)
  have kS : ∀ b u, s1.heap.get? b = some u → F.get? b = some u := fun b u e => kH b u (k2 b u e)
  obtain ⟨eF, heF⟩ : ∃ eF, F.get? h'.objs.size = some (seqObj "list" (bs.map Value.ref).toArray eF) := by rw [← hF]; exact PyProof.Rows.sortedHeap_at (vs := as.map Value.ref) (out := (bs.map Value.ref).toArray) hob
  have I3 : Inv X pins σ H1 { s1 with heap := F, toks := tk } := I1.kept (t' := tk) kS
  have eLx : ((bs.zip (so.map pvL)).map (·.2)) = so.map pvL := List.map_snd_zip (by rw [List.length_map, eb]; exact Nat.le_refl _)
  have eLt : ((bs.zip (so.map pvL)).map (·.1)) = bs := List.map_fst_zip (by rw [List.length_map, eb]; exact Nat.le_refl _)
  have mz : ∀ q ∈ bs.zip (so.map pvL), ∃ r, q.2 = pvL r ∧ q.1 ∈ as ∧ TwoAt h' q.1 r := fun q hq => by
    obtain ⟨j, hj⟩ := List.mem_iff_getElem?.mp hq
    obtain ⟨b1, b2⟩ := List.getElem?_zip_eq_some.mp hj
    rw [List.getElem?_map] at b2
    cases hx : so[j]? with
    | none => rw [hx] at b2; cases b2
    | some x =>
      rw [hx] at b2
      obtain ⟨c1, c2⟩ := bat j q.1 x b1 hx
      exact ⟨x, (Option.some.inj b2).symm, c1, c2⟩
  have low : ∀ b ∈ as, s1.heap.objs.size ≤ b := fun b hb => by
    have := hG.above b hb
    have e2 : (s1.heap.push { cls := .type "dict_items", data := .fields #[.ref a] }).objs.size = s1.heap.objs.size + 1 := Heap.size_push _ _
    have e3 : s1.heap.objs.size + 1 < b := by rw [← e2]; exact this
    omega
  have I4 : Inv X pins σ (layP H1 (bs.zip (so.map pvL))) { s1 with heap := F, toks := tk } := takeP I1 _ H1 I3 (by rw [eLt]; exact nd) fun q hq => by
    obtain ⟨r, b3, b1, t, u, e⟩ := mz q hq
    refine ⟨low _ b1, I1.hok.fresh (low _ b1), fun H2 => ?_⟩
    refine ⟨?_, [.int r.1 t, .int r.2 u], ?_, ⟨_, kH _ _ e, rfl, 0, rfl⟩⟩
    · rw [b3, sizeLine_eq]; show 2 ≤ 16777216; decide
    · rw [b3]; exact .cons ⟨t, rfl⟩ (.cons ⟨u, rfl⟩ .nil)
  have Sn : H1 h'.objs.size = none := I1.hok.fresh (Nat.le_of_lt hls)
  have Sm : h'.objs.size ∉ bs := fun z => by
    obtain ⟨j, hj⟩ := List.mem_iff_getElem?.mp z
    have hj2 : j < so.length := by rw [← eb]; exact (List.getElem?_eq_some_iff.mp hj).1
    obtain ⟨_, t, u, e⟩ := bat j _ _ hj (List.getElem?_eq_getElem hj2)
    exact Nat.lt_irrefl _ (Heap.lt_size e)
  have fS : layP H1 (bs.zip (so.map pvL)) h'.objs.size = none := by rw [layP_ne _ _ (by rw [eLt]; exact Sm)]; exact Sn
  have lenL : (bs.zip (so.map pvL)).length = kvs.length := by rw [List.length_zip, List.length_map, eb, Nat.min_self, ← hso, List.length_mergeSort]
  have acc2 : bs.map Value.ref = (bs.zip (so.map pvL)).map fun q => Value.ref q.1 := by
    conv => lhs; rw [← eLt]
    rw [List.map_map]
    rfl
  have I5 : Inv X pins σ (upd (layP H1 (bs.zip (so.map pvL))) h'.objs.size (.lst ((bs.zip (so.map pvL)).map fun q => .ref q.1))) { s1 with heap := F, toks := tk } := by
    refine I4.take (h' := F) (t' := tk) (fun b ob _ e => e) (I1.fpOk (Nat.le_of_lt hls) fS) ⟨by rw [List.length_map, lenL]; exact hle, bs.map Value.ref, eF, ?_, heF⟩
    rw [acc2]
    exact vals_maps (fun q : Addr × List V => V.ref q.1) (fun q => Value.ref q.1) _ fun _ _ => rfl
  exact ⟨.ref h'.objs.size, _, I5, rfl, q h'.objs.size (bs.zip (so.map pvL)) eLx (by rw [eLt]; exact nd) (fun q' hq' => by
    obtain ⟨r, _, b1, _⟩ := mz q' hq'
    exact I1.hok.fresh (low _ b1)) Sn (by rw [eLt]; exact Sm)⟩
end
theorem rep_pv {K : Kx} {G : Hp} : ∀ {L : List (Addr × List V)} {so : List (Int × Int)}, L.map (·.2) = so.map pvL → (∀ p ∈ L, G p.1 = some (.tup p.2)) → RepAll K G (L.map fun p => .ref p.1) (so.map kvD)
  | [], [], _, _ => .nil
  | [], _ :: _, h, _ => by simp at h
  | _ :: _, [], h, _ => by simp at h
  | p :: L, q :: so, h, hG => by
    rw [List.map_cons, List.map_cons, List.cons.injEq] at h
    refine .cons (.tup (SqT.of (hG p (by simp))) ?_) (rep_pv h.2 fun r hr => hG r (by simp [hr]))
    rw [h.1]
    exact .cons (.int _) (.cons (.int _) .nil)
section
variable {X : Cx} {W : XK} {a : Expr} {fa : SE} {p pos apos mpos : Pos}
theorem se_dkSrt (hc : X.calm = true) (hu0 : X.A.units + 64 < cLine) (hm : X.mg "sorted" = none) (ha : SEx X W a fa) (hg : Gl X "sorted" := by rfl) (hbase : attributeBase a "items" X.env (eval a X.env) = eval a X.env := by rfl) (hline : (apos.endLine == mpos.line) = true := by rfl)
    (hse : starEach [Expr.Call (.Attribute a "items" apos) [] [] mpos] X.env = [(false, eval (Expr.Call (.Attribute a "items" apos) [] [] mpos) X.env)] := by rfl) : SEx X W (.Call (.Name "sorted" p) [.Call (.Attribute a "items" apos) [] [] mpos] [] pos) (eDkSrt fa) := by
  refine ⟨pe_weak (pe_srtIt hc hu0 hg hm ha.pe hbase hline hse) fun σ H Q ⟨G, ι, ρ, m, g, ev, q⟩ => ?_⟩
  rw [postE_G] at q
  refine tE_mono (step_e g ev q) fun v H1 ⟨G1, ι1, m1, x, x1, g1, ev1, r1, _, p1⟩ => ?_
  have p2 : PostG X (fun G ι => RepV X.kx G ι) W G1 ι1 H1 (match dkAt m1 x with
    | some (_, kvs) => if kvs.length ≤ lineL then .ok (.d (.lst ((kvs.mergeSort leP).map kvD))) m1 else .no
    | none => .no) Q := p1
  cases hz : dkAt m1 x with
  | none => rw [hz] at p2; exact p2.elim
  | some ik =>
    obtain ⟨i, kvs⟩ := ik
    rw [hz] at p2
    have p2 : PostG X (fun G ι => RepV X.kx G ι) W G1 ι1 H1 (if kvs.length ≤ lineL then .ok (.d (.lst ((kvs.mergeSort leP).map kvD))) m1 else .no) Q := p2
    by_cases hl : kvs.length ≤ lineL
    · rw [if_pos hl] at p2
      obtain ⟨q, l, rfl, rfl, hi, hm, hq⟩ := dkAt_at g1 r1 hz
      refine ⟨q, kvs, rfl, hq, fun l L e1 e2 e3 e4 e5 => ?_⟩
      obtain ⟨g2, x2⟩ := g1.layP L e2 e3
      have rr := rep_pv (K := X.kx) e1 fun q hq => layP_at L G1 e2 hq
      exact g2.layL (by rw [layP_ne L H1 e5]; exact e4) rr fun w G' H' x' g' r' => p2 w G' ι1 H' (x2.trans x') g' r'
    · rw [if_neg hl] at p2; exact p2.elim
end
end DI
namespace DI
open PySem PySem.Spec PyProof.Rows L2
/-! sorted, of tuples of numbers -/
abbrev Ti := Addr × List Int
def tiD (b : Ti) : PyData := .tuple (b.2.map .int)
def tiLe (a b : Ti) : Bool := leL a.2 b.2
theorem tiD_le : PySem.W.dataLe false tiD = tiLe := PySem.W.dataLe_rows (fun b : Ti => b.2)
theorem tiD_alike (a b : Ti) : PySem.W.alike (tiD a) (tiD b) = true := by
  show PySem.W.alikeAll (a.2.map .int) (b.2.map .int) = true
  exact PySem.W.alike_ints _ _
theorem tiD_depth (b : Ti) : (tiD b).depth ≤ 1 := by
  show PyData.depth (.tuple (b.2.map .int)) ≤ 1
  simp [PyData.depth, PySem.W.depth_ints]
theorem reads_ints {h : Heap} : ∀ {vs : List Value} {ns : List Int}, IntsAre vs ns → ∃ as, ReadsAll h vs (ns.map .int) as
  | _, _, .nil => ⟨[], .nil⟩
  | _, _, .cons n t r => by
    obtain ⟨as, x⟩ := reads_ints (h := h) r
    exact ⟨_, .cons (.int n t) x⟩
theorem reads_ti {P : Program} {w : World} {h : Heap} {b : Ti} (x : IsT P w h b.2 b.1) : ∃ as, Reads h (.ref b.1) (tiD b) as := by
  obtain ⟨o, items, n, ho, hc, hd, hi⟩ := x
  obtain ⟨as, r⟩ := reads_ints (h := h) (ints_of_items hi)
  exact ⟨as, .tuple ho hc hd r⟩
theorem each_ref : ∀ {out : List Value} {bs : List Ti}, PySem.W.EachIs (fun v b => v = Value.ref b.1) out bs → out = bs.map fun b => Value.ref b.1
  | _, _, .nil => rfl
  | _, _, .cons e r => by rw [each_ref r, e]; rfl
theorem ref_each : ∀ (bs : List Ti), PySem.W.EachIs (fun v b => v = Value.ref b.1) (bs.map fun b => Value.ref b.1) bs
  | [] => .nil
  | b :: bs => .cons rfl (ref_each bs)
theorem each_of {R : Value → Ti → Prop} : ∀ (bs : List Ti), (∀ b ∈ bs, R (.ref b.1) b) → PySem.W.EachIs R (bs.map fun b => Value.ref b.1) bs
  | [], _ => .nil
  | b :: bs, h => .cons (h b (by simp)) (each_of bs fun c hc => h c (by simp [hc]))
theorem ti_sortable {bs : List Ti} (h : ∀ b ∈ bs, b.2 ≠ []) : PySem.W.Sortable (bs.map tiD) := .inl fun d hd => by
  obtain ⟨b, hb, rfl⟩ := List.mem_map.mp hd
  obtain ⟨x, r, e⟩ := List.exists_cons_of_ne_nil (h b hb)
  refine ⟨.int x, r.map .int, ?_⟩
  show PyData.tuple (b.2.map .int) = _
  rw [e]
  rfl
def rSrtTi (K : PySem.W.Frag) : List V → Hp → VK → Prop := fun vs H Q => ∃ (a : Addr) (bs : List Ti), vs = [V.ref a] ∧ SqL K H a (bs.map fun p => V.ref p.1) ∧ (∀ p ∈ bs, SqT K H p.1 (p.2.map V.int)) ∧ (∀ p ∈ bs, p.2 ≠ []) ∧
  ∀ p, H p = none → Q (.ref p) (upd H p (.lst ((bs.mergeSort tiLe).map fun q => V.ref q.1)))
section
variable {X : Cx}
theorem cr_srtTi (hu0 : X.A.units + 64 < cLine) : CallR X (.builtin "sorted") (rSrtTi X.K) := by
  intro pins s σ H vs us Q I r h
  obtain ⟨a, bs, rfl, hs, ht, hn, q⟩ := h
  obtain ⟨its, rv, hl, hz⟩ := I.list hs
  rw [Vals.ref1 r]
  have e1 : its = bs.map fun p => Value.ref p.1 := by simpa using refs_of_vals rv
  subst e1
  have hz2 : bs.length ≤ sizeLine := by rw [List.length_map] at hz; exact hz
  refine PySem.W.sorted_data (β := Ti) (enc := tiD) (R := fun v b => v = Value.ref b.1) (bs := bs) (vs := bs.map fun p => Value.ref p.1) (by simpa using hl.isList) (ref_each bs) (each_of bs fun b hb => reads_ti (I.isT (ht b hb))) (PySem.W.AllAlike.of tiD_alike) (ti_sortable hn) hz2 (fun b _ => ?_) fun out ho1 ho2 => ?_
  · have := tiD_depth b
    omega
  rw [tiD_le] at ho2
  have eo := each_ref ho2
  subst eo
  obtain ⟨ep, he'⟩ := PyProof.Rows.sortedAll_at s.heap (bs.map fun p => Value.ref p.1) ((bs.mergeSort tiLe).map fun q => Value.ref q.1).toArray
  have hlen : ((bs.mergeSort tiLe).map fun q => V.ref q.1).length ≤ sizeLine := by rw [List.length_map, List.length_mergeSort]; exact hz2
  exact ⟨.ref _, upd H (s.heap.objs.size + 1) (.lst ((bs.mergeSort tiLe).map fun q => V.ref q.1)), I.laid (t' := s.toks) (fun _ _ => PyProof.Rows.sortedAll_old) (Nat.le_succ _) ⟨hlen, _, ep, vals_of_refs _, he'⟩, rfl, q _ (I.hok.fresh (Nat.le_succ _))⟩
/-- tuples of numbers, data in the heap -/
theorem ti_rep {K : Kx} {G : Hp} : ∀ {vs : List V} {xs : List D} {bs : List (List Int)}, RepAll K G vs xs → intsTs xs = some bs → ∃ ts : List Ti, vs = ts.map (fun p => V.ref p.1) ∧ ts.map (·.2) = bs ∧ ∀ p ∈ ts, SqT K.K G p.1 (p.2.map V.int)
  | _, _, _, .nil, h => by cases h; exact ⟨[], rfl, rfl, fun _ h => nomatch h⟩
  | _, _, _, .cons (d := d) r t, h => by
    match d, r, h with
    | .tup ds, r, h =>
      have h : ((intsD ds).bind fun ns => (intsTs _).map (ns :: ·)) = some _ := h
      cases h1 : intsD ds with
      | none => rw [h1] at h; cases h
      | some ns =>
        rw [h1, Option.bind_some] at h
        cases h2 : intsTs _ with
        | none => rw [h2] at h; cases h
        | some q =>
          rw [h2] at h
          cases h
          obtain ⟨ts, e1, e2, e3⟩ := ti_rep t h2
          cases r with
          | @tup ad xs _ hs r2 =>
            refine ⟨(ad, ns) :: ts, by rw [e1]; rfl, by rw [List.map_cons, e2], fun p hp => ?_⟩
            rcases List.mem_cons.mp hp with rfl | hp
            · rw [← intsD_rep h1 r2]; exact hs
            · exact e3 p hp
    | .non, _, h => cases h
    | .bl _, _, h => cases h
    | .int _, _, h => cases h
    | .str _, _, h => cases h
    | .lst _, _, h => cases h
    | .dct _ _, _, h => cases h
    | .ins _ _ _, _, h => cases h
theorem rep_ti {K : Kx} {G : Hp} : ∀ {ts : List Ti}, (∀ p ∈ ts, SqT K.K G p.1 (p.2.map V.int)) → RepAll K G (ts.map fun p => V.ref p.1) ((ts.map (·.2)).map tupI)
  | [], _ => .nil
  | p :: ts, h => .cons (.tup (h p (by simp)) (RepAll.ints _)) (rep_ti fun q hq => h q (by simp [hq]))
theorem ti_sorted (ts : List Ti) : (ts.mergeSort tiLe).map (·.2) = (ts.map (·.2)).mergeSort leL := PySem.W.sort_maps (r := tiLe) (s := leL) (fun p : Ti => p.2) fun _ _ _ _ => rfl
theorem b_sortT : Bi1 X dSortT (rSrtTi X.K) := by
  intro G ι m H v x d Q g rx e fin
  cases x with
  | lst xs =>
    obtain ⟨a, vs, rfl, h, r⟩ := rx
    have e' : ((intsTs xs).bind fun bs => if (bs.all fun b => !b.isEmpty) = true ∧ bs.length ≤ 1000000 then some (D.lst ((bs.mergeSort leL).map tupI)) else none) = some d := e
    cases h1 : intsTs xs with
    | none => rw [h1] at e'; cases e'
    | some bs =>
      rw [h1] at e'
      obtain ⟨hc, e2⟩ := ite_some e'
      subst e2
      obtain ⟨ts, e1, e2, e3⟩ := ti_rep r h1
      subst e1 e2
      refine ⟨a, ts, rfl, h, fun p hp => g.sub.sqt (e3 p hp), fun p hp => ?_, fun p hn => ?_⟩
      · have := List.all_eq_true.mp hc.1 p.2 (List.mem_map.mpr ⟨p, hp, rfl⟩)
        intro z
        rw [z] at this
        cases this
      · have rr := rep_ti (K := X.kx) (G := G) (ts := ts.mergeSort tiLe) fun q hq => e3 q ((List.mergeSort_perm ts tiLe).mem_iff.mp hq)
        rw [ti_sorted] at rr
        exact g.layL hn rr fin
  | _ => cases e
end
end DI
namespace DI
open PySem PySem.Spec PyProof.Rows L2
/-! sorted(set(list of tuples of numbers)) -/
section
variable {P : Program} {w : World} {A : Around} {E : Value → Shared → Prop} {s : Shared}
/-- how many tuples a set made of these can hold -/
def FewT (ts : List Ti) : Prop := ∀ L : List Ti, (∀ p ∈ L, p ∈ ts) → (L.map (·.2)).Nodup → L.length < 63
theorem loopT {I : Addr} {fp wr : List Addr} {G : Array GenState → Array GenState → Prop} {n : Nat} {Pv : Nat → Value → Prop} {St : Nat → Shared → Prop} {R : Result → Shared → Prop}
    (W : WalksS P w A.in1 I fp wr G n Pv St) (S : Addr) (nS : S ∉ fp) (ts : List Ti) (en : n = ts.length) (few : FewT ts) (val : ∀ i v, Pv i v → ∃ p, ts[i]? = some p ∧ v = .ref p.1)
    (hp0 : Heap) (tup : ∀ p ∈ ts, IsT P w hp0 p.2 p.1) (fS : hp0.get? S = none) (fW : ∀ b ∈ wr, hp0.get? b = none) (room : A.in1.units < cLine) :
    ∀ (k i : Nat) (u : Shared), n - i = k → i ≤ n → St i u → (∀ b o, hp0.get? b = some o → u.heap.get? b = some o) → (∃ L es ep t, SetTR P w u.heap S L es ep t ∧ Got ts i L) →
      (∀ u' L es ep t, Moved (S :: wr) G u u' → SetTR P w u'.heap S L es ep t → Got ts n L → (∀ b o, hp0.get? b = some o → u'.heap.get? b = some o) → R (.ok (.ret .none)) u') →
      codeAny (model P w) A (.builtin "set.update.loop" ⟨[.ref S, .ref I], []⟩) R u := by
  have nw : S ∉ wr := fun z => nS (W.sub _ z)
  have wider : ∀ b ∈ wr, b ∈ S :: wr := fun b hb => List.mem_cons_of_mem _ hb
  have carry : ∀ {u u' : Shared}, Moved wr G u u' → (∀ b o, hp0.get? b = some o → u.heap.get? b = some o) → ∀ b o, hp0.get? b = some o → u'.heap.get? b = some o := fun mv kp b o e =>
    mv.heap b o (fun hb => by have z := fW b hb; rw [z] at e; cases e) (kp b o e)
  have inTs : ∀ {i : Nat} {L : List Ti}, Got ts i L → ∀ p ∈ L, p ∈ ts := fun g p hp => List.mem_of_mem_take (g.sub p hp)
  intro k
  induction k with
  | zero =>
    intro i u ek le st kp ⟨L, es, ep, t, T, g⟩ fin
    obtain rfl : i = n := by omega
    refine codeAny_builtin F.entry_set_update_loop ?_
    rw [Around.under_plainId F.plain_set_update_loop _]
    show wpAny _ A.in1 (pyNext (.ref I) >>= _) _ _ u
    refine wpAny_bind (W.done u _ _ st fun u' mv => ?_)
    have kp' := carry mv kp
    have T' : SetTR P w u'.heap S L es ep t := T.keep (fun o e => mv.heap S o nw e) fun p hp => isT_keep (tup p (inTs g p hp)) kp'
    exact wpAny_pure (fin u' L es ep t (mv.mono wider) T' g kp')
  | succ k ih =>
    intro i u ek le st kp ⟨L, es, ep, t, T, g⟩ fin
    have lt : i < n := by omega
    refine codeAny_builtin F.entry_set_update_loop ?_
    rw [Around.under_plainId F.plain_set_update_loop _]
    show wpAny _ A.in1 (pyNext (.ref I) >>= _) _ _ u
    refine wpAny_bind (W.item i u _ _ lt st fun v u' pv st' mv => ?_)
    obtain ⟨p, ep', rfl⟩ := val i v pv
    have kp' := carry mv kp
    have T' : SetTR P w u'.heap S L es ep t := T.keep (fun o e => mv.heap S o nw e) fun q hq => isT_keep (tup q (inTs g q hq)) kp'
    have px : IsT P w u'.heap p.2 p.1 := isT_keep (tup p (List.mem_of_getElem? ep')) kp'
    have fewer : L.length < 63 := few L (inTs g) T.nd
    show wpAny _ A.in1 (holding [Value.ref p.1] (setAdd S (.ref p.1)) >>= _) _ _ u'
    refine wpAny_bind (wpAny_holding ?_)
    unfold setAdd
    refine wpAny_holding ?_
    refine wpAny_bind (wpAny_pyHash_tuple room px ?_)
    refine add_at (s := { u' with toks := u'.toks + (p.2.length + 1) }) T' px room (by omega) fun b h2 L2 es2 ep2 t2 sb T2 old new => ?_
    have g2 : Got ts (i + 1) L2 := by
      by_cases c : p.2 ∈ L.map (·.2)
      · rw [old c]; exact g.same ep' c
      · exact g.more ep' (new c)
    have kp2 : ∀ b o, hp0.get? b = some o → h2.get? b = some o := fun b o e => (sb.2 b (fun z => by rw [z, fS] at e; cases e)).trans (kp' b o e)
    refine wpAny_pure ⟨plainId_quiet F.plain_set_update_loop _, ih (i + 1) _ (by omega) lt (W.frame _ u' _ _ st' (Nat.le_add_right _ _) fun b hb o e => ?_) kp2 ⟨L2, es2, ep2, t2, T2, g2⟩ fun v' L3 es3 ep3 t3 mv3 T3 g3 kp3 => ?_⟩
    · rw [sb.2 b (fun z : b = S => nS (by rw [← z]; exact hb))]; exact e
    · refine fin v' L3 es3 ep3 t3 (Moved.trans W.gtrans ((mv.mono wider).then_heap (Nat.le_add_right _ _) fun b o hb e => ?_) mv3) T3 g3 kp3
      rw [sb.2 b (fun z : b = S => hb (by rw [z]; exact List.mem_cons_self))]; exact e
set_option maxHeartbeats 3200000 in
theorem set_ti {lp : Addr} {its : Array Value} (ts : List Ti) {Q : Value → Shared → Prop} (hh : A.handled = none) (hL : s.heap.IsList lp its) (hit : its.toList = ts.map fun p => Value.ref p.1) (tup : ∀ p ∈ ts, IsT P w s.heap p.2 p.1) (few : FewT ts) (room : A.units + 3 < cLine)
    (fin : ∀ (h' : Heap) (tk : Nat) L es ep t, SetTR P w h' s.heap.objs.size L es ep t → Got ts ts.length L → (∀ b o, s.heap.get? b = some o → h'.get? b = some o) → Q (.ref s.heap.objs.size) { s with heap := h', toks := tk }) :
    wpAny (model P w) A (call (.type "set") [.ref lp]) Q E s := by
  have sz : its.size = ts.length := by
    have e := congrArg List.length hit
    rw [Array.length_toList, List.length_map] at e
    exact e
  obtain ⟨cc, tl, hmro⟩ := F.called_set.mro
  have m1 := F.called_set.made
  have m2 := F.called_set.sub
  refine wpAny_call (codeAny_of_tree ?_)
  show wpAny _ _ (callAny (.type "set") _) _ _ _
  refine wpAny_pure ⟨Code.quiet_builtin _ (by decide +kernel), codeAny_builtin F.entry_type_call ?_⟩
  rw [Around.under_plain (weight_type_call_type "set" [.ref lp] []) rfl]
  have m3 := F.called_set.notType
  have m4 := F.called_set.canCreate
  have m5 := F.typeCall_set_1 (.ref lp)
  repeat (any_goals (first | assumption | wp_step))
  refine codeAny_mono (code_set_led1 (.ref lp) (E := E) (Q₁ := fun o u => o = .ref s.heap.objs.size ∧ u = { s with heap := s.heap.push (newS w) }) ⟨rfl, rfl⟩) fun r u hu => ?_
  cases r with
  | error e => exact hu
  | ok fl =>
    cases fl with
    | ret ob =>
      obtain ⟨rfl, rfl⟩ := hu
      have nS : (s.heap.push (newS w)).get? s.heap.objs.size = some (newS w) := Heap.get?_push_size _ rfl
      have tS : Shared.TypeIs { s with heap := s.heap.push (newS w) } (.ref s.heap.objs.size) "set" := ⟨_, nS, rfl⟩
      have i1 := F.called_set.init.lookup
      have i2 := F.called_set.init.bind (.ref s.heap.objs.size)
      repeat (any_goals (first | assumption | wp_step))
      refine codeAny_mono (codeAny_call_builtin (R := wants (fun r u₂ => r = .none ∧ ∃ h' tk L es ep t, u₂ = { s with heap := h', toks := tk } ∧ SetTR P w h' s.heap.objs.size L es ep t ∧ Got ts ts.length L ∧
          (∀ b o, s.heap.get? b = some o → h'.get? b = some o)) E) F.called_set.init.plain F.entry_set_init (check_set_init_1 tS ?_)) fun r₂ u₂ hr₂ => ?_
      · obtain ⟨ol, eol, cl, nl, dl⟩ := hL
        obtain ⟨k1, k2, k3, k4⟩ := ol
        simp only at cl dl
        subst cl; subst dl
        have el : (s.heap.push (newS w)).get? lp = some { cls := .type "list", dict := k2, data := .seq its nl, slots := k4 } := Heap.get?_push_of_some _ eol
        have b1 := F.sub_list_set
        have b2 := F.sub_list_frozenset
        have b3 : (Value.type "list" == Value.type "dict") = false := by decide
        have L1 : (s.heap.push (newS w)).IsList lp its := ⟨_, el, rfl, nl, rfl⟩
        unfold Builtin.«set.__init__» noKeywords Builtin.Frozenset.updateFrom
        generalize gPI : pyIter = PI
        wp_walk
        subst gPI
        refine wpAny_pyIter_list L1 ?_
        refine wpAny_bind (wpAny_runValue ?_)
        have lS : lp < s.heap.objs.size := Heap.lt_size eol
        have hh3 : A.in1.in1.in1.handled = none := by simp [hh]
        have zS : (s.heap.push (newS w)).objs.size = s.heap.objs.size + 1 := Heap.size_push ..
        have neI : lp ≠ (s.heap.push (newS w)).objs.size := by
          rw [zS]; exact Nat.ne_of_lt (Nat.lt_succ_of_lt lS)
        have nfp : s.heap.objs.size ∉ [(s.heap.push (newS w)).objs.size, lp] := by
          rw [zS]
          intro z
          rcases List.mem_cons.mp z with z | z
          · exact absurd z (Nat.ne_of_lt (Nat.lt_succ_self _))
          · exact absurd (List.mem_singleton.mp z) (Nat.ne_of_gt lS)
        have vals : ∀ (i : Nat) (v : Value), its[i]? = some v → ∃ p, ts[i]? = some p ∧ v = .ref p.1 := fun i v hv => by
          have q : its.toList[i]? = some v := by rw [Array.getElem?_toList]; exact hv
          rw [hit, List.getElem?_map] at q
          obtain ⟨p, hp, e⟩ := Option.map_eq_some_iff.mp q
          exact ⟨p, hp, e.symm⟩
        have gone : ∀ b, s.heap.objs.size ≤ b → s.heap.get? b = none := fun b hb => by
          cases q : s.heap.get? b with
          | none => rfl
          | some o => exact absurd (Nat.lt_of_lt_of_le (Heap.lt_size q) hb) (Nat.lt_irrefl _)
        refine loopT ((Walks.list hh3 _ lp neI its).toS) s.heap.objs.size nfp ts sz few vals s.heap tup (gone _ (Nat.le_refl _)) (fun b hb => gone b (by rw [List.mem_singleton.mp hb, zS]; exact Nat.le_succ _)) room (its.size - 0) 0 _ (by omega) (Nat.zero_le _)
          ⟨⟨_, Heap.get?_push_size _ rfl, rfl, rfl⟩, (L1.push _)⟩ (fun b o e => Heap.get?_push_of_some _ (Heap.get?_push_of_some _ e)) ?g0 ?g1
        case g0 =>
          have g : ((s.heap.push (newS w)).push { cls := .type "list_iterator", data := .fields #[.ref lp, .int 0 0] }).get? s.heap.objs.size = some (newS w) := Heap.get?_push_of_some _ nS
          exact ⟨[], #[], 0, _, setTR_fresh g, Got.zero ts⟩
        case g1 =>
          intro u' L es ep t mv T g kp
          obtain ⟨h', gg, dd, tk', oo⟩ := u'
          have eg : gg = s.gens := mv.gens
          have ed : dd = s.drawn := mv.drawn
          have eo : oo = s.os := mv.os
          subst eg; subst ed; subst eo
          show wpAny _ _ _ _ _ _
          refine wpAny_pure ?_
          show wpAny _ _ (ret Value.none) _ _ _
          rw [sz] at g
          exact wpAny_pure ⟨rfl, h', tk', L, es, ep, t, rfl, T, g, kp⟩
      · cases r₂ with
        | error e => exact hr₂
        | ok fl₂ =>
          cases fl₂ with
          | ret r =>
            obtain ⟨rfl, h', tk, L, es, ep, t, rfl, T, g, kk⟩ := hr₂
            repeat (any_goals (first | assumption | wp_step))
            exact fin _ _ _ _ _ _ T g kk
          | _ => exact hr₂.elim
    | _ => exact hu.elim
end
end DI
namespace DI
open PySem PySem.Spec PyProof.Rows L2
theorem nodup_map {α β : Type} (f : α → β) : ∀ {l : List α}, (l.map f).Nodup → l.Nodup
  | [], _ => List.nodup_nil
  | x :: l, h => by
    rw [List.map_cons, List.nodup_cons] at h
    exact List.nodup_cons.mpr ⟨fun z => h.1 (List.mem_map.mpr ⟨x, z, rfl⟩), nodup_map f h.2⟩
section
variable {P : Program} {w : World} {A : Around} {E : Value → Shared → Prop} {s : Shared}
/-- the values of a list of references -/
theorem refs_back {L : List Ti} : ∀ (vs : List Value), (∀ v ∈ vs, ∃ q ∈ L, v = Value.ref q.1) → ∃ K : List Ti, vs = K.map (fun q => Value.ref q.1) ∧ ∀ q ∈ K, q ∈ L
  | [], _ => ⟨[], rfl, fun _ h => nomatch h⟩
  | v :: vs, h => by
    obtain ⟨q, hq, e⟩ := h v (by simp)
    obtain ⟨K, e1, e2⟩ := refs_back vs fun u hu => h u (by simp [hu])
    refine ⟨q :: K, by rw [e, e1]; rfl, fun r hr => ?_⟩
    rcases List.mem_cons.mp hr with rfl | hr
    · exact hq
    · exact e2 r hr
theorem sorted_ti {a : Addr} {L : List Ti} {es : Array (Int × Value)} {ep : Nat} {t : SetTable} {Q : Value → Shared → Prop} (T : SetTR P w s.heap a L es ep t) (hh : A.handled = none) (ne : ∀ p ∈ L, p.2 ≠ []) (room : A.units + 8 < cLine)
    (hQ : ∀ s' p (c : Nat) (K : List Ti), (∀ b o, s.heap.get? b = some o → s'.heap.get? b = some o) → s'.gens = s.gens → s'.os = s.os → s.heap.objs.size ≤ p →
      s'.heap.get? p = some (seqObj "list" (K.map fun q => Value.ref q.1).toArray c) → (∀ q ∈ K, q ∈ L) → K.map (·.2) = (L.map (·.2)).mergeSort leL → Q (.ref p) s') :
    wpAny (model P w) A (call (.builtin "sorted") [.ref a]) Q E s := by
  obtain ⟨o, ho, hex, hd⟩ := T.ob
  have sz := T.size
  have few := T.few
  refine Calls.call_function_entry kind_sorted plain_sorted entry_sorted (args_sorted1 _) ?_
  unfold Builtin.«sorted»
  refine wpAny_bind (m := checkCount "sorted" 1 1 _) (wpAny_pure ?_)
  refine wpAny_bind (collect_set (A := A.in1) hh ⟨o, ho, hex.1, hd⟩ T.fits (by unfold scanBound; omega) T.tab.ris T.led fun u vs k1 hz g1 o1 pm => ?_)
  have hes : es.toList.map (·.2) = L.map fun q => Value.ref q.1 := by
    rw [T.rows]
    unfold rowsOf
    rw [List.map_map]
    rfl
  rw [hes] at pm
  obtain ⟨K, eK, sub⟩ := refs_back (L := L) vs fun v hv => by
    obtain ⟨q, hq, e⟩ := List.mem_map.mp (pm.mem_iff.mp hv)
    exact ⟨q, hq, e.symm⟩
  subst eK
  have one : ∀ q ∈ L, ∀ r ∈ L, q.1 = r.1 → q = r := fun q hq r hr e => by
    have a1 := T.tup q hq
    have a2 := T.tup r hr
    rw [e] at a1
    exact Prod.ext e (a1.inj a2)
  have nL : L.Nodup := nodup_map _ T.nd
  have nR : (L.map fun q => Value.ref q.1).Nodup := by
    rw [List.nodup_iff_pairwise_ne, List.pairwise_map]
    refine List.Pairwise.imp_of_mem (fun {q r} hq hr hne e => ?_) (List.nodup_iff_pairwise_ne.mp nL)
    injection e with e
    exact hne (one q hq r hr e)
  have nK : K.Nodup := nodup_map _ (pm.nodup_iff.mpr nR)
  have pK : K.Perm L := (List.perm_ext_iff_of_nodup nK nL).mpr fun q => ⟨sub q, fun hq => by
    have hm : Value.ref q.1 ∈ K.map (fun q => Value.ref q.1) := pm.mem_iff.mpr (List.mem_map.mpr ⟨q, hq, rfl⟩)
    obtain ⟨r, hr, e⟩ := List.mem_map.mp hm
    injection e with e
    rw [← one r (sub r hr) q hq e]
    exact hr⟩
  have lK : K.length = L.length := pK.length_eq
  refine wpAny_bind (wpAny_newList ?_ (by rw [sizeLine_eq, List.length_map]; omega))
  have hoL : (u.heap.push (seqObj "list" (K.map fun q => Value.ref q.1).toArray 0)).get? u.heap.objs.size = some (seqObj "list" (K.map fun q => Value.ref q.1).toArray 0) := Heap.get?_push_size _ rfl
  have ky : ∀ b o, s.heap.get? b = some o → (u.heap.push (seqObj "list" (K.map fun q => Value.ref q.1).toArray 0)).get? b = some o := fun b o e => Heap.get?_push_of_some _ (k1 b o e)
  refine wpAny_bind (wpAny_holding (wpAny_mono (?_ : wpAny (model P w) A.in1 (call (.builtin "list.sort") [.ref u.heap.objs.size]) (fun _ s' => Q (.ref u.heap.objs.size) s') E { u with heap := u.heap.push (seqObj "list" (K.map fun q => Value.ref q.1).toArray 0) }) (fun _ s' x => wpAny_pure ⟨_, rfl, x⟩) fun _ _ e => e))
  refine PySem.W.list_sort_data (β := Ti) (enc := tiD) (R := fun v b => v = Value.ref b.1) (bs := K) (vs := K.map fun p => Value.ref p.1) hoL (ref_each K) (each_of K fun b hb => ?_) (PySem.W.AllAlike.of tiD_alike) (ti_sortable fun b hb => ne b (sub b hb)) (by rw [sizeLine_eq]; omega) (fun b _ => ?_) fun out ho1 ho2 => ?_
  · obtain ⟨as, r⟩ := reads_ti (isT_keep (T.tup b (sub b hb)) ky)
    refine ⟨as, r, fun z => ?_⟩
    cases r with
    | tuple h1 h2 h3 h4 =>
      have fl : ∀ {ns : List Int} {vs : List Value} {as : List Addr}, ReadsAll (u.heap.push (seqObj "list" (K.map fun q => Value.ref q.1).toArray 0)) vs (ns.map .int) as → as = [] := by
        intro ns
        induction ns with
        | nil => intro vs as h; cases h; rfl
        | cons n ns ih =>
          intro vs as h
          have h : ReadsAll _ vs (PyData.int n :: ns.map .int) as := h
          cases h with
          | cons x y =>
            cases x
            rw [ih y]
            rfl
      rw [fl h4] at z
      cases z
  · have := tiD_depth b
    show A.units + 1 + 1 + _ < cLine
    omega
  rw [tiD_le] at ho2
  have eo := each_ref ho2
  subst eo
  obtain ⟨c, hc⟩ := sortedHeap_at (vs := K.map fun q => Value.ref q.1) (out := ((K.mergeSort tiLe).map fun q => Value.ref q.1).toArray) hoL
  refine hQ _ u.heap.objs.size c (K.mergeSort tiLe) (fun b x e => ?_) g1 o1 hz hc (fun q hq => sub q ((List.mergeSort_perm K tiLe).mem_iff.mp hq)) ?_
  · have q := k1 b x e
    have hlt := Heap.lt_size q
    show (sortedHeap (u.heap.push (seqObj "list" (K.map fun q => Value.ref q.1).toArray 0)) u.heap.objs.size _ _).get? b = some x
    rw [sortedHeap_old (Nat.ne_of_lt hlt) (by rw [size_push']; exact Nat.lt_succ_of_lt hlt)]
    exact Heap.get?_push_of_some _ q
  · rw [ti_sorted]
    exact leL_uniq (leL_pw _) (leL_pw _) ((List.mergeSort_perm _ _).trans ((pK.map _).trans (List.mergeSort_perm _ _).symm))
end
def tSrtSetT (K : PySem.W.Frag) (te : TE) : TE := fun σ H Q => te σ H fun x H1 => ∃ (l : Addr) (ts : List Ti), x = V.ref l ∧ SqL K H1 l (ts.map fun p => V.ref p.1) ∧ (∀ p ∈ ts, SqT K H1 p.1 (p.2.map V.int)) ∧ (∀ p ∈ ts, p.2 ≠ []) ∧ (dedupG (ts.map (·.2))).length < 63 ∧
  ∀ (p : Addr) (K' : List Ti), (∀ q ∈ K', q ∈ ts) → K'.map (·.2) = (dedupG (ts.map (·.2))).mergeSort leL → H1 p = none → Q (.ref p) (upd H1 p (.lst (K'.map fun q => V.ref q.1)))
theorem few_of {ts : List Ti} (h : (dedupG (ts.map (·.2))).length < 63) : FewT ts := fun L sub nd => by
  have s : ∀ k ∈ L.map (·.2), k ∈ dedupG (ts.map (·.2)) := fun k hk => by
    obtain ⟨p, hp, rfl⟩ := List.mem_map.mp hk
    exact dedupG_mem.mpr (List.mem_map.mpr ⟨p, sub p hp, rfl⟩)
  have := nodup_len nd s
  rw [List.length_map] at this
  omega
section
variable {X : Cx} {e : Expr} {te : TE} {p p2 pos pos2 : Pos}
theorem pe_srtSetT (hc : X.calm = true) (hu0 : X.A.units + 64 < cLine) (hg : Gl X "sorted") (hm : X.mg "sorted" = none) (hg2 : Gl X "set") (hm2 : X.mg "set" = none) (ha : PE X e te) (na : starEach [e] X.env = (false, eval e X.env) :: starEach [] X.env := by rfl)
    (na0 : starEach [.Call (.Name "set" p2) [e] [] pos2] X.env = (false, eval (.Call (.Name "set" p2) [e] [] pos2) X.env) :: starEach [] X.env := by rfl) : PE X (.Call (.Name "sorted" p) [.Call (.Name "set" p2) [e] [] pos2] [] pos) (tSrtSetT X.K te) := by
  refine ⟨fun pins s σ H Q I h => ?_⟩
  refine Call_ (ld_blt I hg hm boot_sorted ?_)
  refine PyProof.Rows.callWith_builtin1 (PyProof.Rows.args_cons ?_ na0) na0 rfl
  refine Call_ (ld_blt I hg2 hm2 PyProof.Rows.boot_set ?_)
  refine PyProof.Rows.callWith_type1 (PyProof.Rows.args_cons (thn (ha.run pins s σ H _ I h) fun v s1 ⟨x, H1, I1, r1, q1⟩ => PyProof.Rows.args_nil ?_) na) na rfl
  obtain ⟨l, ts, rfl, hq, ht, hne, h63, q⟩ := q1
  cases r1
  obtain ⟨its, rv, pl, hz⟩ := I1.list hq
  have hit : its = ts.map fun p => Value.ref p.1 := by simpa using refs_of_vals rv
  refine set_ti ts (I1.ok.hd hc) pl.isList (by simpa using hit) (fun p hp => I1.isT (ht p hp)) (few_of h63) (by omega) fun h' tk L es ep t T g k => PyProof.Rows.args_nil ?_
  have subL : ∀ p ∈ L, p ∈ ts := fun p hp => List.mem_of_mem_take (g.sub p hp)
  refine sorted_ti T (I1.ok.hd hc) (fun p hp => hne p (subL p hp)) (by omega) fun s' pp c K k3 g3 o3 hp hgt subK eK => ?_
  have eD : (L.map (·.2)).mergeSort leL = (dedupG (ts.map (·.2))).mergeSort leL := by
    refine leL_uniq (leL_pw _) (leL_pw _) ((List.mergeSort_perm _ _).trans (List.Perm.trans ?_ (List.mergeSort_perm _ _).symm))
    refine (List.perm_ext_iff_of_nodup T.nd (dedupG_nd _)).mpr fun x => ?_
    rw [dedupG_mem]
    constructor
    · intro hx
      obtain ⟨p, hp, rfl⟩ := List.mem_map.mp hx
      exact List.mem_map.mpr ⟨p, subL p hp, rfl⟩
    · intro hx
      obtain ⟨p, hp, rfl⟩ := List.mem_map.mp hx
      exact g.all p (by rw [List.take_length]; exact hp)
  have sT : s1.heap.objs.size < h'.objs.size := by
    obtain ⟨o, ho, _⟩ := T.ob
    exact Heap.lt_size ho
  have lo : s1.heap.objs.size ≤ pp := Nat.le_trans (Nat.le_of_lt sT) hp
  have hn : H1 pp = none := I1.hok.fresh lo
  have k2 : ∀ b u, s1.heap.get? b = some u → s'.heap.get? b = some u := fun b u e => k3 b u (k b u e)
  have lenK : K.length < 64 := by
    have e := congrArg List.length eK
    rw [List.length_map, List.length_mergeSort, List.length_map] at e
    have := T.few
    omega
  have hlen2 : (K.map fun q => V.ref q.1).length ≤ sizeLine := by rw [List.length_map, sizeLine_eq]; omega
  have J : Inv X pins σ (upd H1 pp (.lst (K.map fun q => V.ref q.1))) { s1 with heap := s'.heap, gens := s'.gens, drawn := s'.drawn, toks := s'.toks } :=
    I1.call (ch := []) (Un.laid k2 lo hn) (I1.hok.laid k2 lo ⟨hlen2, _, c, vals_of_refs K, hgt⟩) (by rw [g3]; exact I1.bare) (fun _ z => nomatch z)
  have es : s' = { s1 with heap := s'.heap, gens := s'.gens, drawn := s'.drawn, toks := s'.toks } := by
    cases s'
    cases s1
    cases o3
    rfl
  rw [es]
  exact ⟨.ref pp, _, J, rfl, q pp K (fun r hr => subL r (subK r hr)) (eK.trans eD) hn⟩
end
section
variable {X : Cx} {W : XK} {a : Expr} {fa : SE} {p p2 pos pos2 : Pos}
theorem se_srtSetT (hc : X.calm = true) (hu0 : X.A.units + 64 < cLine) (hm : X.mg "sorted" = none) (hm2 : X.mg "set" = none) (ha : SEx X W a fa) (hg : Gl X "sorted" := by rfl) (hg2 : Gl X "set" := by rfl) (na : starEach [a] X.env = (false, eval a X.env) :: starEach [] X.env := by rfl)
    (na0 : starEach [.Call (.Name "set" p2) [a] [] pos2] X.env = (false, eval (.Call (.Name "set" p2) [a] [] pos2) X.env) :: starEach [] X.env := by rfl) :
    SEx X W (.Call (.Name "sorted" p) [.Call (.Name "set" p2) [a] [] pos2] [] pos) (e1 dSortSetT fa) := by
  refine ⟨pe_weak (pe_srtSetT hc hu0 hg hm hg2 hm2 ha.pe na na0) fun σ H Q ⟨G, ι, ρ, m, g, ev, q⟩ => ?_⟩
  have q' : PostE X W G ι H ((fa ρ m).bind fun x m => ofO ((vw m x).bind dSortSetT) m) Q := q
  refine tE_mono (post_tE g ev q') fun v H1 ⟨G1, ι1, m1, x, x1, g1, ev1, r1, p1⟩ => ?_
  obtain ⟨d, e, fin⟩ := post_ofO (H := H1) p1
  cases hx : vw m1 x with
  | none => rw [hx] at e; cases e
  | some dx =>
    rw [hx] at e
    have rx := r1.view g1 hx
    cases dx with
    | lst xs =>
      obtain ⟨l, vs, rfl, h, r⟩ := rx
      have e' : ((intsTs xs).bind fun bs => if (bs.all fun b => !b.isEmpty) = true ∧ (dedupG bs).length < 63 ∧ bs.length ≤ 1000 then some (D.lst (((dedupG bs).mergeSort leL).map tupI)) else none) = some d := e
      cases h1 : intsTs xs with
      | none => rw [h1] at e'; cases e'
      | some bs =>
        rw [h1] at e'
        obtain ⟨hcn, e2⟩ := ite_some e'
        subst e2
        obtain ⟨ts, e1, e2, e3⟩ := ti_rep r h1
        subst e1 e2
        refine ⟨l, ts, rfl, h, fun p hp => g1.sub.sqt (e3 p hp), fun p hp => ?_, hcn.2.1, fun pp K' sub eK hn => ?_⟩
        · have := List.all_eq_true.mp hcn.1 p.2 (List.mem_map.mpr ⟨p, hp, rfl⟩)
          intro z
          rw [z] at this
          cases this
        · have rr := rep_ti (K := X.kx) (G := G1) (ts := K') fun q hq => e3 q (sub q hq)
          rw [eK] at rr
          exact g1.layL hn rr fin
    | _ => cases e
end
end DI
namespace DI
/-! what each def of the text means: printed by gen.py -/
def k_abcdefgh : List Char := "abcdefgh".toList
def k_Place : List Char := "Place".toList
def k_Number : List Char := "Number".toList
def k_Facts : List Char := "Facts".toList
def k_Lines : List Char := "Lines".toList
def k_Texts : List Char := "Texts".toList
def k_Anchor : List Char := "Anchor".toList
def k_Files : List Char := "Files".toList
def k_Remark : List Char := "Remark".toList
def k_State : List Char := "State".toList
def k_abcdefghijklmnopqrstuvwx : List Char := "abcdefghijklmnopqrstuvwxyz".toList
def k_Lines_ : List Char := "Lines+".toList
def k_nInvalidLines : List Char := "Lines+".toList
/-- the short names of what is raised -/
def nmOf (c : String) : Option (List Char) := if c = "InvalidLines" then some k_nInvalidLines else none
def s__law_deck : SS := sSeq (sIf (e2 dGe (eV 0) (e2 dPow (eC (.int 10)) (eC (.int 18)))) (sRet (eNw (nLst [e2 dSub (eV 0) (e2 dPow (eC (.int 10)) (eC (.int 18))), e2 dMod (e1 dInt (eV 0)) (eC (.int 2147483579)), eV 1]))) (sNil)) (sRet (eNw (nLst [eC (.int 0), e2 dMod (e1 dInt (eV 0)) (eC (.int 2147483579)), eV 1])))
def F__law_deck : Fn := mkFn 2 (s__law_deck)
def s__law_pick : SS := sSeq (sIf (e2 dGt (e2 dIx (eV 0) (eC (.int 0))) (eC (.int 1))) (sSeq (sAsg (tN 2) (e2 dMod (e1 dInt (e2 dIx (eV 0) (eC (.int 0)))) (eV 1))) (sSeq (sSetI (eV 0) (eC (.int 0)) (e2 dDiv (e2 dIx (eV 0) (eC (.int 0))) (eV 1))) (sRet (eV 2)))) (sNil)) (sSeq (sSetI (eV 0) (eC (.int 2)) (e2 dAdd (e2 dIx (eV 0) (eC (.int 2))) (eC (.int 1)))) (sSeq (sAsg (tN 3) (e2 dMod (e1 dInt (e2 dPow (e1 dInt (e2 dAdd (e2 dIx (eV 0) (eC (.int 1))) (e2 dMulD (eC (.int 15485867)) (e2 dIx (eV 0) (eC (.int 2)))))) (eC (.int 5)))) (eC (.int 2147483647)))) (sSeq (sAsg (tN 2) (e2 dDiv (e2 dMod (e1 dInt (e2 dPow (e1 dInt (e2 dAdd (eV 3) (e2 dMulD (eC (.int 7919)) (e2 dIx (eV 0) (eC (.int 2)))))) (eC (.int 3)))) (eC (.int 2147483629))) (eC (.int 32)))) (sRet (e2 dMod (e1 dInt (eV 2)) (eV 1))))))
def F__law_pick : Fn := mkFn 4 (s__law_pick)
def s__law_facts : SS := sSeq (sAsg (tN 3) (eNw (nLst []))) (sSeq (sFor (tN 4) (iR1 (e1 dLen (eV 1))) (sIf (e2 dEq (eCall F__law_pick [eV 0, eC (.int 5)]) (eC (.int 0))) (sApp (eV 3) (eTup [eV 4, e2 dSub (eCall F__law_pick [eV 0, e2 dAdd (e1 dLen (eV 2)) (eC (.int 1))]) (eC (.int 1))])) (sNil))) (sFz 3 (sRet (eIf (e2 dEq (eCall F__law_pick [eV 0, eC (.int 2)]) (eC (.int 0))) (eTupOf (eV 3)) (eTupO [])))))
def F__law_facts : Fn := mkFn 5 (s__law_facts)
def s__law_pairings : SS := sSeq (sAsg (tN 2) (eFz (nLst [eTup []]))) (sSeq (sFor (tN 3) (iR1 (eV 0)) (sSeq (sAsg (tN 4) (eFz (nLst []))) (sSeq (sFor (tN 5) (iV (eV 2)) (sSeq (sAsg (tN 6) (e2 dAdd (e1 dMaxT (e2 dAdd (eTup [e1 dNeg (eC (.int 1))]) (eV 5))) (eC (.int 1)))) (sAsg (tN 4) (e2 dAdd (eV 4) (eFz (nLc [7] (iV (e2 dAdd (eFz (nLst [e1 dNeg (eC (.int 1))])) (eFz (nRg2 (eV 6) (eV 1))))) (tN 7) (tsY) (e2 dAdd (eV 5) (eTup [eV 7])))))))) (sAsg (tN 2) (eV 4))))) (sRet (eV 2)))
def F__law_pairings : Fn := mkFn 8 (s__law_pairings)
def s__law_price : SS := sSeq (sAsg (tN 3) (eFz (nLc [5] (iV (eV 2)) (tN 5) (e2 dGe (eV 5) (eC (.int 0))) (eV 5)))) (sSeq (sAsg (tN 4) (eFz (nLc [6, 5] (iEnum (eV 2)) (tT [6, 5]) (eAnd (e2 dGe (eV 5) (eC (.int 0))) (e2 dNe (e2 dIx (eV 0) (eV 6)) (e2 dIx (eV 1) (eV 5)))) (eV 6)))) (sRet (e2 dAdd (e2 dSub (e2 dAdd (e1 dLen (eV 0)) (e1 dLen (eV 1))) (e2 dMulD (eC (.int 2)) (e1 dLen (eV 3)))) (e1 dLen (eV 4)))))
def F__law_price : Fn := mkFn 7 (s__law_price)
def s__law_known [Nil0] : SS := sSeq (sAsg (tN 3) (eNw (nLst []))) (sSeq (sFor (tN 4) (iV (eCall F__law_pairings [e1 dLen (eV 0), e1 dLen (eV 1)])) (sIf (e2 dEq (eFz (nLc [5, 6] (iV (eTD (eV 2))) (tT [5, 6]) (e2 dNe (e2 dIx (eV 4) (eV 5)) (eV 6)) (eC (.int 1)))) (eFz (nLst []))) (sApp (eV 3) (eTup [eCall F__law_price [eV 0, eV 1, eV 4], eV 4])) (sNil))) (sFz 3 (sRet (eV 3))))
def F__law_known [Nil0] : Fn := mkFn 7 (s__law_known)
def s__law_text : SS := sSeq (sAsg (tN 2) (e2 dIx (eFz (nLst [eC (.str ['a', 'b']), eC (.str ['a', 'b', 'c']), eC (.str k_abcdefgh), eC (.str ['a'])])) (eCall F__law_pick [eV 0, eC (.int 4)]))) (sSeq (sAsg (tN 3) (eCall F__law_pick [eV 0, e2 dAdd (eV 1) (eC (.int 1))])) (sRet (e2s dJoin (eC (.str [])) (eFz (nLc [4] (iR1 (eV 3)) (tN 4) (tsY) (e2 dIx (eV 2) (eCall F__law_pick [eV 0, e1 dLen (eV 2)])))))))
def F__law_text : Fn := mkFn 5 (s__law_text)
def s__law_name_of (c : String) (a0 : Nat) : SS := sSeq (sAsg (tN 1) (eFz (nLst [eIsE a0 (c == "InvalidText"), eIsE a0 (c == "InvalidRow"), eIsE a0 (c == "InvalidLine")]))) (sSeq (sAsg (tN 1) (e2 dAdd (eV 1) (eFz (nLst [eIsE a0 (c == "InvalidPlace"), eIsE a0 (c == "InvalidNumber"), eIsE a0 (c == "InvalidFacts")])))) (sSeq (sAsg (tN 1) (e2 dAdd (eV 1) (eFz (nLst [eIsE a0 (c == "InvalidLines"), eIsE a0 (c == "InvalidTexts"), eIsE a0 (c == "InvalidRule")])))) (sSeq (sAsg (tN 1) (e2 dAdd (eV 1) (eFz (nLst [eIsE a0 (c == "InvalidAnchor"), eIsE a0 (c == "InvalidSeen"), eIsE a0 (c == "InvalidName")])))) (sSeq (sAsg (tN 1) (e2 dAdd (eV 1) (eFz (nLst [eIsE a0 (c == "InvalidFiles"), eIsE a0 (c == "NoFile"), eIsE a0 (c == "NoRemark")])))) (sSeq (sAsg (tN 1) (e2 dAdd (eV 1) (eFz (nLst [eIsE a0 (c == "WrongState"), eIsE a0 (c == "NothingToUndo"), eIsE a0 (c == "TooMany")])))) (sSeq (sAsg (tN 1) (e2 dAdd (eV 1) (eFz (nLst [eIsE a0 (c == "InvalidForm"), eIsE a0 (c == "InvalidWay")])))) (sSeq (sAsg (tN 2) (eFz (nLst [eC (.str ['T', 'e', 'x', 't']), eC (.str ['R', 'o', 'w']), eC (.str ['L', 'i', 'n', 'e']), eC (.str k_Place), eC (.str k_Number), eC (.str k_Facts), eC (.str k_Lines), eC (.str k_Texts), eC (.str ['R', 'u', 'l', 'e']), eC (.str k_Anchor), eC (.str ['S', 'e', 'e', 'n']), eC (.str ['N', 'a', 'm', 'e'])]))) (sSeq (sAsg (tN 2) (e2 dAdd (eV 2) (eFz (nLst [eC (.str k_Files), eC (.str ['F', 'i', 'l', 'e']), eC (.str k_Remark), eC (.str k_State), eC (.str ['U', 'n', 'd', 'o']), eC (.str ['M', 'a', 'n', 'y']), eC (.str ['F', 'o', 'r', 'm']), eC (.str ['W', 'a', 'y'])])))) (sSeq (sAsg (tN 3) (eFz (nLc [4, 5] (iZipLL (eV 2) (eV 1)) (tT [4, 5]) (eV 5) (eV 4)))) (sRet (e2 dAdd (e2s dJoin (eC (.str [])) (eV 3)) (eIf (eIsE a0 true) (eC (.str ['+'])) (eC (.str []))))))))))))))
def F__law_name_of (c : String) (a0 : Nat) : Fn := mkFn 6 (s__law_name_of c a0)
def s_is_text_of : SS := sRet (eAnd (e1 (dIsiP "str") (eV 0)) (eAnd (e2 dLe (e1 dLen (eV 0)) (eC (.int 24))) (e1 dAll (eFz (nLc [1] (iV (eV 0)) (tN 1) (tsY) (e2 dIn (eV 1) (eC (.str k_abcdefghijklmnopqrstuvwx))))))))
def F_is_text_of : Fn := mkFn 2 (s_is_text_of)
def s_need_text : SS := sIf (eNot (eCall F_is_text_of [eV 0])) (sNo) (sNil)
def F_need_text : Fn := mkFn 1 (s_need_text)
def s_need_pair : SS := sSeq (sExpr (eCall F_need_text [eV 0])) (sExpr (eCall F_need_text [eV 1]))
def F_need_pair : Fn := mkFn 2 (s_need_pair)
def s_is_from : SS := sRet (eAnd (e1 (dIsiP "int") (eV 0)) (eAnd (eNot (e1 (dIsiP "bool") (eV 0))) (eCh dLe dLe (eV 1) (eV 0) (eV 2))))
def F_is_from : Fn := mkFn 3 (s_is_from)
def s_need_number : SS := sIf (eNot (eCall F_is_from [eV 0, eV 1, eV 2])) (sNo) (sNil)
def F_need_number : Fn := mkFn 3 (s_need_number)
def s_need_facts [Nil0] : SS := sSeq (sIf (eOr (eNot (e1 (dIsiP "tuple") (eTD (eV 2)))) (eNot (e1 dAll (eFz (nLc [5] (iV (eTD (eV 2))) (tN 5) (tsY) (eAnd (e1 (dIsiP "tuple") (eV 5)) (e2 dEq (e1 dLen (eV 5)) (eC (.int 2))))))))) (sNo) (sNil)) (sSeq (sFor (tT [3, 4]) (iV (eTD (eV 2))) (sIf (eOr (eNot (eCall F_is_from [eV 3, eC (.int 0), e2 dSub (e1 dLen (eV 0)) (eC (.int 1))])) (eNot (eCall F_is_from [eV 4, e1 dNeg (eC (.int 1)), e2 dSub (e1 dLen (eV 1)) (eC (.int 1))]))) (sNo) (sNil))) (sIf (e1 dAny (eFz (nLc [5, 6] (iZip (eTD (eV 2)) (eSl dSl (eTD (eV 2)) (oS (eC (.int 1))) oN)) (tT [5, 6]) (tsY) (e2 dGe (e2 dIx (eV 5) (eC (.int 0))) (e2 dIx (eV 6) (eC (.int 0))))))) (sNo) (sNil)))
def F_need_facts [Nil0] : Fn := mkFn 7 (s_need_facts)
def s_least_of : SS := sSeq (sAsg (tN 1) (eFz (nLc [2] (iV (eV 0)) (tN 2) (e1 dNotN (eV 2)) (eV 2)))) (sRet (eIf (e2 dNe (eV 1) (eFz (nLst []))) (e1 dMin (eV 1)) (eC .non)))
def F_least_of : Fn := mkFn 3 (s_least_of)
def s_sum_of : SS := sRet (eIf (e1 dIsN (eV 0)) (eC .non) (e2 dAdd (eV 0) (eV 1)))
def F_sum_of : Fn := mkFn 2 (s_sum_of)
def s_Steps_goes : SS := sRet (eIf (e2 dEq (eGet (eAttr "Steps" "told" (eV 0)) (eV 1) (e1 dNeg (eC (.int 1)))) (e1 dNeg (eC (.int 1)))) (eC (.int 1)) (eC .non))
def F_Steps_goes : Fn := mkFn 2 (s_Steps_goes)
def s_Steps_stays : SS := sSeq (sIf (e2 dNe (eGet (eAttr "Steps" "told" (eV 0)) (eV 1) (eV 2)) (eV 2)) (sRet (eC .non)) (sNil)) (sRet (e1 dInt (e2 dNe (e2 dIx (eAttr "Steps" "one" (eV 0)) (eV 1)) (e2 dIx (eAttr "Steps" "other" (eV 0)) (eV 2)))))
def F_Steps_stays : Fn := mkFn 3 (s_Steps_stays)
def s_ahead_of : SS := sSeq (sPar [1, 2] [e1 dLen (eAttr "Steps" "one" (eV 0)), e1 dLen (eAttr "Steps" "other" (eV 0))]) (sSeq (sTab 3 [4] (iR1 (e2 dAdd (eV 1) (eC (.int 1)))) (tN 4) (nMul (nLst [eCall F_sum_of [eC .non, eC (.int 0)]]) (e2 dAdd (eV 2) (eC (.int 1))))) (sSeq (sFor (tN 4) (iR1 (e2 dAdd (eV 1) (eC (.int 1)))) (sFor (tN 5) (iR1 (e2 dAdd (eV 2) (eC (.int 1)))) (sSeq (sAsg (tN 6) (eNw (nIf (eAnd (e2 dEq (eV 4) (eC (.int 0))) (e2 dEq (eV 5) (eC (.int 0)))) (nLst [eCall F_sum_of [eC (.int 0), eC (.int 0)]]) (nLst [])))) (sSeq (sIf (eAnd (e2 dGt (eV 4) (eC (.int 0))) (e1 dNotN (eMethD "Steps" "goes" F_Steps_goes (eV 0) [e2 dSub (eV 4) (eC (.int 1))]))) (sApp (eV 6) (eCall F_sum_of [eIx2 (eV 3) (e2 dSub (eV 4) (eC (.int 1))) (eV 5), eC (.int 1)])) (sNil)) (sSeq (sIf (e2 dGt (eV 5) (eC (.int 0))) (sApp (eV 6) (eCall F_sum_of [eIx2 (eV 3) (eV 4) (e2 dSub (eV 5) (eC (.int 1))), eC (.int 1)])) (sNil)) (sSeq (sIf (eAnd (e2 dGt (eV 4) (eC (.int 0))) (eAnd (e2 dGt (eV 5) (eC (.int 0))) (e1 dNotN (eMethD "Steps" "stays" F_Steps_stays (eV 0) [e2 dSub (eV 4) (eC (.int 1)), e2 dSub (eV 5) (eC (.int 1))])))) (sApp (eV 6) (eCall F_sum_of [eIx2 (eV 3) (e2 dSub (eV 4) (eC (.int 1))) (e2 dSub (eV 5) (eC (.int 1))), eMethD "Steps" "stays" F_Steps_stays (eV 0) [e2 dSub (eV 4) (eC (.int 1)), e2 dSub (eV 5) (eC (.int 1))]])) (sNil)) (sFz 6 (sSet2 (eV 3) (eV 4) (eV 5) (eCall F_least_of [eV 6]))))))))) (sFz2 3 (sRet (eV 3)))))
def F_ahead_of : Fn := mkFn 7 (s_ahead_of)
def s_behind_of : SS := sSeq (sPar [1, 2] [e1 dLen (eAttr "Steps" "one" (eV 0)), e1 dLen (eAttr "Steps" "other" (eV 0))]) (sSeq (sTab 3 [4] (iR1 (e2 dAdd (eV 1) (eC (.int 1)))) (tN 4) (nMul (nLst [eCall F_sum_of [eC .non, eC (.int 0)]]) (e2 dAdd (eV 2) (eC (.int 1))))) (sSeq (sFor (tN 4) (iRngDn (eV 1) (e1 dNeg (eC (.int 1))) (e1 dNeg (eC (.int 1)))) (sFor (tN 5) (iRngDn (eV 2) (e1 dNeg (eC (.int 1))) (e1 dNeg (eC (.int 1)))) (sSeq (sAsg (tN 6) (eNw (nIf (eAnd (e2 dEq (eV 4) (eV 1)) (e2 dEq (eV 5) (eV 2))) (nLst [eCall F_sum_of [eC (.int 0), eC (.int 0)]]) (nLst [])))) (sSeq (sIf (eAnd (e2 dLt (eV 4) (eV 1)) (e1 dNotN (eMethD "Steps" "goes" F_Steps_goes (eV 0) [eV 4]))) (sApp (eV 6) (eCall F_sum_of [eIx2 (eV 3) (e2 dAdd (eV 4) (eC (.int 1))) (eV 5), eC (.int 1)])) (sNil)) (sSeq (sIf (e2 dLt (eV 5) (eV 2)) (sApp (eV 6) (eCall F_sum_of [eIx2 (eV 3) (eV 4) (e2 dAdd (eV 5) (eC (.int 1))), eC (.int 1)])) (sNil)) (sSeq (sIf (eAnd (e2 dLt (eV 4) (eV 1)) (eAnd (e2 dLt (eV 5) (eV 2)) (e1 dNotN (eMethD "Steps" "stays" F_Steps_stays (eV 0) [eV 4, eV 5])))) (sApp (eV 6) (eCall F_sum_of [eIx2 (eV 3) (e2 dAdd (eV 4) (eC (.int 1))) (e2 dAdd (eV 5) (eC (.int 1))), eMethD "Steps" "stays" F_Steps_stays (eV 0) [eV 4, eV 5]])) (sNil)) (sFz 6 (sSet2 (eV 3) (eV 4) (eV 5) (eCall F_least_of [eV 6]))))))))) (sFz2 3 (sRet (eV 3)))))
def F_behind_of : Fn := mkFn 7 (s_behind_of)
def s_joined : SS := sRet (eIf (eOr (e1 dIsN (eV 0)) (eOr (e1 dIsN (eV 1)) (e1 dIsN (eV 2)))) (eC .non) (e2 dAdd (e2 dAdd (eV 0) (eV 1)) (eV 2)))
def F_joined : Fn := mkFn 3 (s_joined)
def s_costs_with [Nil0] : SS := sSeq (sAsg (tN 4) (eSteps [eV 0, eV 1, eV 3])) (sSeq (sPar [5, 6] [eCall F_ahead_of [eV 4], eCall F_behind_of [eV 4]]) (sSeq (sAsg (tN 7) (eFz (nRg1 (e1 dLen (eV 1))))) (sSeq (sAsg (tN 8) (eFz (nLc [10] (iV (e2 dAdd (eV 7) (eFz (nLst [e1 dLen (eV 1)])))) (tN 10) (tsY) (eCall F_joined [e2 dIx (e2 dIx (eV 5) (eV 2)) (eV 10), eMethD "Steps" "goes" F_Steps_goes (eV 4) [eV 2], e2 dIx (e2 dIx (eV 6) (e2 dAdd (eV 2) (eC (.int 1)))) (eV 10)])))) (sSeq (sAsg (tN 9) (eFz (nLc [10] (iV (eV 7)) (tN 10) (tsY) (eCall F_joined [e2 dIx (e2 dIx (eV 5) (eV 2)) (eV 10), eMethD "Steps" "stays" F_Steps_stays (eV 4) [eV 2, eV 10], e2 dIx (e2 dIx (eV 6) (e2 dAdd (eV 2) (eC (.int 1)))) (e2 dAdd (eV 10) (eC (.int 1)))])))) (sRet (eTup [eCall F_least_of [eV 8], e1 dTupOf (eV 9)]))))))
def F_costs_with [Nil0] : Fn := mkFn 11 (s_costs_with)
def s_fates_with [Nil0] : SS := sSeq (sAsg (tT [5, 6]) (eCall F_costs_with [eV 0, eV 1, eV 2, eV 4])) (sSeq (sAsg (tN 7) (e2 dAdd (eFz (nLst [eTup [e1 dNeg (eC (.int 1)), eV 5]])) (eFz (nEnum (eV 6))))) (sRet (eFz (nLc [8, 9] (iV (eV 7)) (tT [8, 9]) (eAnd (e1 dNotN (eV 9)) (e2 dLe (eV 9) (eV 3))) (eV 8)))))
def F_fates_with [Nil0] : Fn := mkFn 10 (s_fates_with)
def s_more_facts [Nil0] : SS := sRet (eTupOf (e1 dSortT (e2 dAdd (eFz (nLc [3] (iV (eTD (eV 0))) (tN 3) (e2 dNe (e2 dIx (eV 3) (eC (.int 0))) (eV 1)) (eV 3))) (eFz (nLst [eTup [eV 1, eV 2]])))))
def F_more_facts [Nil0] : Fn := mkFn 4 (s_more_facts)
def s_joint_fates [Nil0] (Fr : Fn) : SS := sSeq (sIf (e2 dEq (eV 2) (eTup [])) (sRet (eFz (nLst [eTup []]))) (sNil)) (sSeq (sAsg (tN 5) (eNw (nLst []))) (sSeq (sFor (tN 6) (iV (eCall F_fates_with [eV 0, eV 1, e2 dIx (eV 2) (eC (.int 0)), eV 3, eV 4])) (sSeq (sAsg (tN 7) (eCall Fr [eV 0, eV 1, eSl dSl (eV 2) (oS (eC (.int 1))) oN, eV 3, eCall F_more_facts [eV 4, e2 dIx (eV 2) (eC (.int 0)), eV 6]])) (sExt (eV 5) (nLc [8] (iV (eV 7)) (tN 8) (tsY) (e2 dAdd (eTup [eV 6]) (eV 8)))))) (sFz 5 (sRet (eV 5)))))
def R_joint_fates [Nil0] : Nat → Fn
  | 0 => fun _ _ => .no
  | r + 1 => mkFn 9 (s_joint_fates (R_joint_fates r))
def F_joint_fates [Nil0] : Fn := R_joint_fates 4
def s_together [Nil0] : SS := sSeq (sExpr (eCall F_need_pair [eV 0, eV 1])) (sSeq (sIf (eOr (eNot (e1 (dIsiP "tuple") (eV 2))) (eNot (eCh dLe dLe (eC (.int 1)) (e1 dLen (eV 2)) (eC (.int 3))))) (sRaise ⟨"InvalidLines", none⟩) (sNil)) (sSeq (sIf (eNot (e1 dAll (eFz (nLc [5] (iV (eV 2)) (tN 5) (tsY) (eCall F_is_from [eV 5, eC (.int 0), e2 dSub (e1 dLen (eV 0)) (eC (.int 1))]))))) (sRaise ⟨"InvalidLines", none⟩) (sNil)) (sSeq (sIf (e1 dAny (eFz (nLc [5, 6] (iZip (eV 2) (eSl dSl (eV 2) (oS (eC (.int 1))) oN)) (tT [5, 6]) (tsY) (e2 dGe (eV 5) (eV 6))))) (sRaise ⟨"InvalidLines", none⟩) (sNil)) (sSeq (sExpr (eCall F_need_number [eV 3, eC (.int 0), eC (.int 48)])) (sSeq (sExpr (eCall F_need_facts [eV 0, eV 1, eV 4])) (sRet (eCall F_joint_fates [eV 0, eV 1, eV 2, eV 3, eV 4])))))))
def F_together [Nil0] : Fn := mkFn 7 (s_together)
def s__law_sort : SS := sSeq (sIf (e1 (dIsiP "bool") (eV 0)) (sRet (eC (.int 1))) (sNil)) (sSeq (sIf (e1 (dIsiP "int") (eV 0)) (sRet (eC (.int 2))) (sNil)) (sSeq (sIf (e1 (dIsiP "str") (eV 0)) (sRet (eC (.int 3))) (sNil)) (sSeq (sIf (e1 (dIsiP "list") (eV 0)) (sRet (eC (.int 4))) (sNil)) (sRet (eIf (e1 (dIsiP "tuple") (eV 0)) (eC (.int 5)) (eC (.int 6)))))))
def F__law_sort : Fn := mkFn 1 (s__law_sort)
def s__law_same (Fr : Fn) : SS := sSeq (sIf (e2 dNe (eCall F__law_sort [eV 0]) (eCall F__law_sort [eV 1])) (sRet (eC (.bl false))) (sNil)) (sSeq (sIf (eAnd (e2 dGt (eCall F__law_sort [eV 0]) (eC (.int 3))) (e2 dLt (eCall F__law_sort [eV 0]) (eC (.int 6)))) (sSeq (sIf (e2 dNe (e1 dLen (eV 0)) (e1 dLen (eV 1))) (sRet (eC (.bl false))) (sNil)) (sRet (e2 dEq (eFz (nLc [2, 3] (iEnum (eV 0)) (tT [2, 3]) (eNot (eCall Fr [eV 3, e2 dIx (eV 1) (eV 2)])) (eV 2))) (eFz (nLst []))))) (sNil)) (sRet (e2 dEq (eV 0) (eV 1))))
def R__law_same : Nat → Fn
  | 0 => fun _ _ => .no
  | r + 1 => mkFn 4 (s__law_same (R__law_same r))
def F__law_same : Fn := R__law_same 4
def s_law [Nil0] (T0 : Nat) : SS := sSeq (sFor (tN 1) (iV (eSl dSl (e2 dAdd (eFz (nLst [eC (.int 0)])) (eV 0)) oN (oS (eC (.int 6))))) (sSeq (sAsg (tN 2) (eCall F__law_deck [eV 1, eC (.int 7)])) (sSeq (sPar [3, 4] [eCall F__law_text [eV 2, eC (.int 4)], eCall F__law_text [eV 2, eC (.int 4)]]) (sSeq (sAsg (tN 5) (eCall F__law_facts [eV 2, eV 3, eV 4])) (sSeq (sAsg (tN 6) (eCall F__law_known [eV 3, eV 4, eV 5])) (sFor (tN 7) (iR1 (eC (.int 4))) (sSeq (sAsg (tN 8) (eSl dSl (eFz (nLc [12] (iR1 (e1 dLen (eV 3))) (tN 12) (e2 dEq (eCall F__law_pick [eV 2, eC (.int 2)]) (eC (.int 0))) (eV 12))) oN (oS (eC (.int 3))))) (sSeq (sAsg (tN 9) (e2 dIx (eFz (nLst [eCall F__law_pick [eV 2, eC (.int 6)], eCall F__law_pick [eV 2, eC (.int 9)], eC (.int 48)])) (eCall F__law_pick [eV 2, eC (.int 3)]))) (sIf (e2 dNe (eV 8) (eFz (nLst []))) (sSeq (sAsg (tN 10) (e1 dSortSetT (eFz (nLc [13, 14] (iV (eV 6)) (tT [13, 14]) (e2 dLe (eV 13) (eV 9)) (e1 dTupOf (eFz (nLc [12] (iV (eV 8)) (tN 12) (tsY) (e2 dIx (eV 14) (eV 12))))))))) (sIf (eNot (eCall F__law_same [eCall F_together ([eV 3, eV 4, e1 dTupOf (eV 8), eV 9] ++ [eV 5]), eV 10])) (sRet (eC (.bl false))) (sNil))) (sNil)))))))))) (sSeq (sFor (tN 11) (iV (eTup [eC .non, eTup [], eFz (nLst [eC (.int 0)]), eTup [eC (.int 0), eC (.int 0)], eTup [eC (.int 1), eC (.int 0)], eTup [eC (.int 0), eC (.int 4)], eTup [e1 dNeg (eC (.int 1))], eTup [eC (.int 0), eC (.int 1), eC (.int 2), eC (.int 3)], eTup [eC (.bl true)], eC (.int 0)])) (sIf (e2 dNe (eTry T0 "law.<locals>.<lambda>" nmOf (eCall F_together ([eC (.str ['a', 'b', 'c', 'd']), eC (.str ['b']), eV 11, eC .non] ++ [eDf "together"]))) (eC (.str k_Lines_))) (sRet (eC (.bl false))) (sNil))) (sRet (eAnd (e2 dEq (eCall F_together ([eC (.str ['a', 'b']), eC (.str ['b']), eTup [eC (.int 0), eC (.int 1)], eC (.int 2)] ++ [eDf "together"])) (eFz (nLst [eTup [e1 dNeg (eC (.int 1)), eC (.int 0)], eTup [eC (.int 0), e1 dNeg (eC (.int 1))]]))) (e2 dEq (eCall F_together ([eC (.str ['a', 'b']), eC (.str ['b', 'a']), eTup [eC (.int 0), eC (.int 1)], eC (.int 1)] ++ [eDf "together"])) (eFz (nLst []))))))
def F_law [Nil0] (T0 : Nat) : Fn := mkFn 15 (s_law T0)
theorem mean_InvalidLines : ∀ a m, mkFn 6 (s__law_name_of "InvalidLines" a) [.raw a] m = .ok (.d (.str k_nInvalidLines)) m := by
  intro a m
  simp [mkFn, s__law_name_of, sSeq, sAsg, sRet, eFz, nLst, eArgs, eIsE, e2, tN, Res.run, dAdd, vw, eV, eC, nLc, iZipLL, lcL, tT, setAll, wipeE, lineL, e2s, eIf, tst, fnR, Res.bind, dJoin, strsD, joinC, ofO, k_nInvalidLines, k_Lines]
end DI
namespace DI
open PySem PySem.Spec PyProof.Rows L2
def top (i : Nat) : Stmt := PySem.Challenge.pw_anchorholds_k07_lines_together.main.body.getD i (.Pass ⟨0, 0, 0, 0⟩)
def mth (i j : Nat) : Stmt := match top i with
  | .ClassDef (body := b) .. => b.getD j (.Pass ⟨0, 0, 0, 0⟩)
  | _ => .Pass ⟨0, 0, 0, 0⟩
/-- the defaults of this text -/
def adrI (A0 : Addr) (s : String) : Nat := A0
def isI (A0 : Addr) (b : Nat) : Bool := b == A0
theorem adrI_ok (A0 : Addr) (s : String) : isI A0 (adrI A0 s) = true := by
  unfold isI adrI
  repeat' split
  all_goals simp
abbrev nilI (A0 : Addr) : Nil0 := ⟨adrI A0, isI A0, adrI_ok A0⟩
theorem nilI_0 {A0 : Addr} : (nilI A0).adr "together" = A0 := by
  show adrI A0 "together" = A0
  simp [adrI]
theorem nilI_ok {A0 : Addr} {K : PySem.W.Frag} (h0 : NilK K A0) : @NilA (nilI A0) K := by
  intro b hb
  have hb : isI A0 b = true := hb
  simp only [isI, Bool.or_eq_true, beq_iff_eq] at hb
  subst hb; assumption
structure Txt [Nil0] (K : Kx) : Prop where
  nil : NilA K.K
  at_one : AttF K "Steps" "one"
  at_other : AttF K "Steps" "other"
  at_told : AttF K "Steps" "told"
  z_all : K.mg "all" = none
  z_any : K.mg "any" = none
  z_bool : K.mg "bool" = none
  z_dict : K.mg "dict" = none
  z_enumerate : K.mg "enumerate" = none
  z_int : K.mg "int" = none
  z_isinstance : K.mg "isinstance" = none
  z_len : K.mg "len" = none
  z_list : K.mg "list" = none
  z_max : K.mg "max" = none
  z_min : K.mg "min" = none
  z_range : K.mg "range" = none
  z_set : K.mg "set" = none
  z_sorted : K.mg "sorted" = none
  z_str : K.mg "str" = none
  z_tuple : K.mg "tuple" = none
  z_zip : K.mg "zip" = none
  c_MOST_COST : GlobC K "MOST_COST" (.int 48)
  c_MOST_LINES : GlobC K "MOST_LINES" (.int 24)
  c_SIGNS : GlobC K "SIGNS" (.str k_abcdefghijklmnopqrstuvwx)
  x_InvalidLines : ∃ C, ExcF K "InvalidLines" C
section
variable {P : Program} {w : World} {K : Kx} {base : Heap} [Nil0]
theorem ok__law_deck {fa : Addr} {fd : FuncData} (F : L2.Fun K.K "_law_deck" "_law_deck" (top 46) fa fd) (T : Txt K)  : FnOk P w K.K K.mg base (L2N.CX P w) 1 fa fd ["cell", "turn"] (spF K 2 F__law_deck) := by
  have S : FnScope ["cell", "turn"] ["cell", "turn"] (defScope (top 46)) := ⟨rfl, rfl, rfl, by decide +kernel, rfl, by decide +kernel, by decide +kernel⟩
  refine fn_ok (N := ["cell", "turn"]) (ps := ["cell", "turn"]) (n := 2) (k := 0) (s := s__law_deck) F S rfl fun X W cdv A outer sh H hX cx hp => ?_
  subst hX
  exact (ss_cons (ss_if (st_cmp (sc_op op_ge ds_ge (se_var 0) (se_bin op_pow ds_pow se_int se_int))) (ss_one (ss_ret (NEx.nw (ne_lst (sa_cons (se_bin op_sub ds_sub (se_var 0) (se_bin op_pow ds_pow se_int se_int)) (sa_cons (se_bin op_mod ds_mod (se_bt call_int1 b_int T.z_int (se_var 0)) se_int) (sa_cons (se_var 1) sa_nil))))))) ss_nil)
    (ss_one (ss_ret (NEx.nw (ne_lst (sa_cons se_int (sa_cons (se_bin op_mod ds_mod (se_bt call_int1 b_int T.z_int (se_var 0)) se_int) (sa_cons (se_var 1) sa_nil))))))))
theorem ok__law_pick {fa : Addr} {fd : FuncData} (F : L2.Fun K.K "_law_pick" "_law_pick" (top 47) fa fd) (T : Txt K)  : FnOk P w K.K K.mg base (L2N.CX P w) 1 fa fd ["deck", "limit"] (spF K 2 F__law_pick) := by
  have S : FnScope ["deck", "limit", "got", "number"] ["deck", "limit"] (defScope (top 47)) := ⟨rfl, rfl, rfl, by decide +kernel, rfl, by decide +kernel, by decide +kernel⟩
  refine fn_ok (N := ["deck", "limit", "got", "number"]) (ps := ["deck", "limit"]) (n := 2) (k := 0) (s := s__law_pick) F S rfl fun X W cdv A outer sh H hX cx hp => ?_
  subst hX
  exact (ss_cons (ss_if (st_cmp (sc_op op_gt ds_gt (se_ix (se_var 0) se_int) se_int)) (ss_cons (ss_asg (tg_name 2 cx.nd) (se_bin op_mod ds_mod (se_bt call_int1 b_int T.z_int (se_ix (se_var 0) se_int)) (se_var 1)))
    (ss_cons (ss_setI (se_var 0) se_int (se_bin op_fdiv ds_div (se_ix (se_var 0) se_int) (se_var 1)))
    (ss_one (ss_ret (se_var 2))))) ss_nil)
    (ss_cons (ss_setI (se_var 0) se_int (se_bin op_addD ds_add (se_ix (se_var 0) se_int) se_int))
    (ss_cons (ss_asg (tg_name 3 cx.nd) (se_bin op_mod ds_mod (se_bt call_int1 b_int T.z_int (se_bin op_pow ds_pow (se_bt call_int1 b_int T.z_int (se_bin op_addD ds_add (se_ix (se_var 0) se_int) (se_bin op_mulD ds_mulD se_int (se_ix (se_var 0) se_int)))) se_int)) se_int))
    (ss_cons (ss_asg (tg_name 2 cx.nd) (se_bin op_fdiv ds_div (se_bin op_mod ds_mod (se_bt call_int1 b_int T.z_int (se_bin op_pow ds_pow (se_bt call_int1 b_int T.z_int (se_bin op_addD ds_add (se_var 3) (se_bin op_mulD ds_mulD se_int (se_ix (se_var 0) se_int)))) se_int)) se_int) se_int))
    (ss_one (ss_ret (se_bin op_mod ds_mod (se_bt call_int1 b_int T.z_int (se_var 2)) (se_var 1))))))))
theorem ok__law_facts {fa : Addr} {fd : FuncData} (F : L2.Fun K.K "_law_facts" "_law_facts" (top 56) fa fd) (T : Txt K) (H__law_pick : FnS P w K base 1 "_law_pick" 2 F__law_pick) : FnOk P w K.K K.mg base (L2N.CX P w) 2 fa fd ["deck", "one", "other"] (spF K 3 F__law_facts) := by
  have S : FnScope ["deck", "one", "other", "got", "line"] ["deck", "one", "other"] (defScope (top 56)) := ⟨rfl, rfl, rfl, by decide +kernel, rfl, by decide +kernel, by decide +kernel⟩
  refine fn_ok (N := ["deck", "one", "other", "got", "line"]) (ps := ["deck", "one", "other"]) (n := 3) (k := 1) (s := s__law_facts) F S rfl fun X W cdv A outer sh H hX cx hp => ?_
  subst hX
  exact (ss_cons (ss_asg (tg_name 3 cx.nd) (NEx.nw (ne_lst sa_nil)))
    (ss_cons (ss_for hp cx.calm (si_range1 T.z_range (se_bf call_len b_len T.z_len (se_var 1))) (tg_name 4 cx.nd) (ss_one (ss_if (st_cmp (sc_op (op_eqD cx.rm.units) ds_eq (se_call H__law_pick cx.tk cx.rm (sa_cons (se_var 0) (sa_cons se_int sa_nil))) se_int)) (ss_one (ss_app (se_var 3) (se_tup (sa_cons (se_var 4) (sa_cons (se_bin op_sub ds_sub (se_call H__law_pick cx.tk cx.rm (sa_cons (se_var 0) (sa_cons (se_bin op_addD ds_add (se_bf call_len b_len T.z_len (se_var 2)) se_int) sa_nil))) se_int) sa_nil))))) ss_nil)))
    (ss_fz 3 (ss_one (ss_ret (se_if (st_cmp (sc_op (op_eqD cx.rm.units) ds_eq (se_call H__law_pick cx.tk cx.rm (sa_cons (se_var 0) (sa_cons se_int sa_nil))) se_int)) (se_tupOf T.z_tuple (se_var 3)) (se_tupO sa_nil)))))))
theorem ok__law_pairings {fa : Addr} {fd : FuncData} (F : L2.Fun K.K "_law_pairings" "_law_pairings" (top 53) fa fd) (T : Txt K)  : FnOk P w K.K K.mg base (L2N.CX P w) 1 fa fd ["many", "long"] (spF K 2 F__law_pairings) := by
  have S : FnScope ["many", "long", "got", "line", "more", "ends", "low", "end"] ["many", "long"] (defScope (top 53)) := ⟨rfl, rfl, rfl, by decide +kernel, rfl, by decide +kernel, by decide +kernel⟩
  refine fn_ok (N := ["many", "long", "got", "line", "more", "ends", "low", "end"]) (ps := ["many", "long"]) (n := 2) (k := 0) (s := s__law_pairings) F S rfl fun X W cdv A outer sh H hX cx hp => ?_
  subst hX
  exact (ss_cons (ss_asg (tg_name 2 cx.nd) (NEx.fz (ne_lst (sa_cons (se_tup sa_nil) sa_nil))))
    (ss_cons (ss_for hp cx.calm (si_range1 T.z_range (se_var 0)) (tg_name 3 cx.nd) (ss_cons (ss_asg (tg_name 4 cx.nd) (NEx.fz (ne_lst sa_nil)))
    (ss_cons (ss_for hp cx.calm (si_val (se_var 2)) (tg_name 5 cx.nd) (ss_cons (ss_asg (tg_name 6 cx.nd) (se_bin op_addD ds_add (se_bf (cr_maxT cx.calm) b_maxT T.z_max (se_bin op_addD ds_add (se_tup (sa_cons (se_un un_neg ds_neg se_int) sa_nil)) (se_var 5))) se_int))
    (ss_one (ss_asg (tg_name 4 cx.nd) (se_bin op_addD ds_add (se_var 4) (NEx.fz (ne_lcE (own := [("end", 7)]) cx.calm cx.nd (si_val (se_bin op_addD ds_add (NEx.fz (ne_lst (sa_cons (se_un un_neg ds_neg se_int) sa_nil))) (NEx.fz (ne_rg2 cx.calm T.z_list T.z_range (se_var 6) (se_var 1))))) (blkOk_by (by kernel_rfl)) (fun s1 H1 C1 cl1 fp1 => (tg_name 7 (CxOk.blk cx s1 H1 _ _ fp1).nd)) (fun s1 H1 C1 cl1 fp1 => sts_nil) (fun s1 H1 C1 cl1 fp1 => (se_bin op_addD ds_add (se_var 5) (se_tup (sa_cons (se_var 7) sa_nil)))))))))))
    (ss_one (ss_asg (tg_name 2 cx.nd) (se_var 4))))))
    (ss_one (ss_ret (se_var 2)))))
theorem ok__law_price {fa : Addr} {fd : FuncData} (F : L2.Fun K.K "_law_price" "_law_price" (top 54) fa fd) (T : Txt K)  : FnOk P w K.K K.mg base (L2N.CX P w) 1 fa fd ["one", "other", "ends"] (spF K 3 F__law_price) := by
  have S : FnScope ["one", "other", "ends", "stay", "changed", "end", "line"] ["one", "other", "ends"] (defScope (top 54)) := ⟨rfl, rfl, rfl, by decide +kernel, rfl, by decide +kernel, by decide +kernel⟩
  refine fn_ok (N := ["one", "other", "ends", "stay", "changed", "end", "line"]) (ps := ["one", "other", "ends"]) (n := 3) (k := 0) (s := s__law_price) F S rfl fun X W cdv A outer sh H hX cx hp => ?_
  subst hX
  exact (ss_cons (by first
      | exact ss_asgLc (i := 3) (own := [("end", 5)]) cx.calm cx.nd (si_val (se_var 2)) (blkOk_by (by kernel_rfl)) (fun s2 H2 C2 cl2 fp2 => (tg_name 5 (CxOk.blk cx s2 H2 _ _ fp2).nd)) (fun s2 H2 C2 cl2 fp2 => (sts_one (st_cmp (sc_op op_ge ds_ge (se_var 5) se_int)))) (fun s2 H2 C2 cl2 fp2 => (se_var 5)) (sw_true rfl rfl rfl (by decide +kernel))
      | exact ss_asg (tg_name 3 cx.nd) (NEx.fz (ne_lcE (own := [("end", 5)]) cx.calm cx.nd (si_val (se_var 2)) (blkOk_by (by kernel_rfl)) (fun s1 H1 C1 cl1 fp1 => (tg_name 5 (CxOk.blk cx s1 H1 _ _ fp1).nd)) (fun s1 H1 C1 cl1 fp1 => (sts_one (st_cmp (sc_op op_ge ds_ge (se_var 5) se_int)))) (fun s1 H1 C1 cl1 fp1 => (se_var 5)))))
    (ss_cons (by first
      | exact ss_asgLc (i := 4) (own := [("line", 6), ("end", 5)]) cx.calm cx.nd (si_enum T.z_enumerate (se_var 2)) (blkOk_by (by kernel_rfl)) (fun s4 H4 C4 cl4 fp4 => (tg_tup (CxOk.blk cx s4 H4 _ _ fp4).calm (tgs_cons 6 (CxOk.blk cx s4 H4 _ _ fp4).nd (tgs_cons 5 (CxOk.blk cx s4 H4 _ _ fp4).nd tgs_nil)))) (fun s4 H4 C4 cl4 fp4 => (sts_one (SW.st (sw_and (st_cmp (sc_op op_ge ds_ge (se_var 5) se_int)) (sw_and1 (st_cmp (sc_op (op_neD (CxOk.blk cx s4 H4 _ _ fp4).rm.units) ds_ne (se_ix (se_var 0) (se_var 6)) (se_ix (se_var 1) (se_var 5))))))))) (fun s4 H4 C4 cl4 fp4 => (se_var 6)) (sw_true rfl rfl rfl (by decide +kernel))
      | exact ss_asg (tg_name 4 cx.nd) (NEx.fz (ne_lcE (own := [("line", 6), ("end", 5)]) cx.calm cx.nd (si_enum T.z_enumerate (se_var 2)) (blkOk_by (by kernel_rfl)) (fun s3 H3 C3 cl3 fp3 => (tg_tup (CxOk.blk cx s3 H3 _ _ fp3).calm (tgs_cons 6 (CxOk.blk cx s3 H3 _ _ fp3).nd (tgs_cons 5 (CxOk.blk cx s3 H3 _ _ fp3).nd tgs_nil)))) (fun s3 H3 C3 cl3 fp3 => (sts_one (SW.st (sw_and (st_cmp (sc_op op_ge ds_ge (se_var 5) se_int)) (sw_and1 (st_cmp (sc_op (op_neD (CxOk.blk cx s3 H3 _ _ fp3).rm.units) ds_ne (se_ix (se_var 0) (se_var 6)) (se_ix (se_var 1) (se_var 5))))))))) (fun s3 H3 C3 cl3 fp3 => (se_var 6)))))
    (ss_one (ss_ret (se_bin op_addD ds_add (se_bin op_sub ds_sub (se_bin op_addD ds_add (se_bf call_len b_len T.z_len (se_var 0)) (se_bf call_len b_len T.z_len (se_var 1))) (se_bin op_mulD ds_mulD se_int (se_bf call_len b_len T.z_len (se_var 3)))) (se_bf call_len b_len T.z_len (se_var 4)))))))
theorem ok__law_known {fa : Addr} {fd : FuncData} (F : L2.Fun K.K "_law_known" "_law_known" (top 55) fa fd) (T : Txt K) (H__law_pairings : FnS P w K base 1 "_law_pairings" 2 F__law_pairings) (H__law_price : FnS P w K base 1 "_law_price" 3 F__law_price) : FnOk P w K.K K.mg base (L2N.CX P w) 2 fa fd ["one", "other", "hints"] (spF K 3 F__law_known) := by
  have S : FnScope ["one", "other", "hints", "got", "ends", "line", "end"] ["one", "other", "hints"] (defScope (top 55)) := ⟨rfl, rfl, rfl, by decide +kernel, rfl, by decide +kernel, by decide +kernel⟩
  refine fn_ok (N := ["one", "other", "hints", "got", "ends", "line", "end"]) (ps := ["one", "other", "hints"]) (n := 3) (k := 1) (s := s__law_known) F S rfl fun X W cdv A outer sh H hX cx hp => ?_
  subst hX
  exact (ss_cons (ss_asg (tg_name 3 cx.nd) (NEx.nw (ne_lst sa_nil)))
    (ss_cons (ss_for hp cx.calm (si_val (se_call H__law_pairings cx.tk cx.rm (sa_cons (se_bf call_len b_len T.z_len (se_var 0)) (sa_cons (se_bf call_len b_len T.z_len (se_var 1)) sa_nil)))) (tg_name 4 cx.nd) (ss_one (ss_if (st_cmp (sc_op (op_eqD cx.rm.units) ds_eq (NEx.fz (ne_lcE (own := [("line", 5), ("end", 6)]) cx.calm cx.nd (si_val (se_td T.nil (se_var 2))) (blkOk_by (by kernel_rfl)) (fun s1 H1 C1 cl1 fp1 => (tg_tup (CxOk.blk cx s1 H1 _ _ fp1).calm (tgs_cons 5 (CxOk.blk cx s1 H1 _ _ fp1).nd (tgs_cons 6 (CxOk.blk cx s1 H1 _ _ fp1).nd tgs_nil)))) (fun s1 H1 C1 cl1 fp1 => (sts_one (st_cmp (sc_op (op_neD (CxOk.blk cx s1 H1 _ _ fp1).rm.units) ds_ne (se_ix (se_var 4) (se_var 5)) (se_var 6))))) (fun s1 H1 C1 cl1 fp1 => se_int))) (NEx.fz (ne_lst sa_nil)))) (ss_one (ss_app (se_var 3) (se_tup (sa_cons (se_call H__law_price cx.tk cx.rm (sa_cons (se_var 0) (sa_cons (se_var 1) (sa_cons (se_var 4) sa_nil)))) (sa_cons (se_var 4) sa_nil))))) ss_nil)))
    (ss_fz 3 (ss_one (ss_ret (se_var 3))))))
theorem ok__law_text {fa : Addr} {fd : FuncData} (F : L2.Fun K.K "_law_text" "_law_text" (top 52) fa fd) (T : Txt K) (H__law_pick : FnS P w K base 1 "_law_pick" 2 F__law_pick) : FnOk P w K.K K.mg base (L2N.CX P w) 2 fa fd ["deck", "most"] (spF K 2 F__law_text) := by
  have S : FnScope ["deck", "most", "signs", "many", "turn"] ["deck", "most"] (defScope (top 52)) := ⟨rfl, rfl, rfl, by decide +kernel, rfl, by decide +kernel, by decide +kernel⟩
  refine fn_ok (N := ["deck", "most", "signs", "many", "turn"]) (ps := ["deck", "most"]) (n := 2) (k := 1) (s := s__law_text) F S rfl fun X W cdv A outer sh H hX cx hp => ?_
  subst hX
  exact (ss_cons (ss_asg (tg_name 2 cx.nd) (se_ix (NEx.fz (ne_lst (sa_cons (se_str ['a', 'b']) (sa_cons (se_str ['a', 'b', 'c']) (sa_cons (se_str k_abcdefgh) (sa_cons (se_str ['a']) sa_nil)))))) (se_call H__law_pick cx.tk cx.rm (sa_cons (se_var 0) (sa_cons se_int sa_nil)))))
    (ss_cons (ss_asg (tg_name 3 cx.nd) (se_call H__law_pick cx.tk cx.rm (sa_cons (se_var 0) (sa_cons (se_bin op_addD ds_add (se_var 1) se_int) sa_nil))))
    (ss_one (ss_ret (se_join (se_str []) (NEx.fz (ne_lcE (own := [("turn", 4)]) cx.calm cx.nd (si_range1 T.z_range (se_var 3)) (blkOk_by (by kernel_rfl)) (fun s1 H1 C1 cl1 fp1 => (tg_name 4 (CxOk.blk cx s1 H1 _ _ fp1).nd)) (fun s1 H1 C1 cl1 fp1 => sts_nil) (fun s1 H1 C1 cl1 fp1 => (se_ix (se_var 2) (se_call H__law_pick (CxOk.blk cx s1 H1 _ _ fp1).tk (CxOk.blk cx s1 H1 _ _ fp1).rm (sa_cons (se_var 0) (sa_cons (se_bf call_len b_len T.z_len (se_var 2)) sa_nil))))))))))))
structure NmF (K : Kx) (D : Addr) (c : String) : Prop where
  ex : L2.ExcC K.K D
  i_InvalidText : IsF K D "InvalidText" (c == "InvalidText")
  i_InvalidRow : IsF K D "InvalidRow" (c == "InvalidRow")
  i_InvalidLine : IsF K D "InvalidLine" (c == "InvalidLine")
  i_InvalidPlace : IsF K D "InvalidPlace" (c == "InvalidPlace")
  i_InvalidNumber : IsF K D "InvalidNumber" (c == "InvalidNumber")
  i_InvalidFacts : IsF K D "InvalidFacts" (c == "InvalidFacts")
  i_InvalidLines : IsF K D "InvalidLines" (c == "InvalidLines")
  i_InvalidTexts : IsF K D "InvalidTexts" (c == "InvalidTexts")
  i_InvalidRule : IsF K D "InvalidRule" (c == "InvalidRule")
  i_InvalidAnchor : IsF K D "InvalidAnchor" (c == "InvalidAnchor")
  i_InvalidSeen : IsF K D "InvalidSeen" (c == "InvalidSeen")
  i_InvalidName : IsF K D "InvalidName" (c == "InvalidName")
  i_InvalidFiles : IsF K D "InvalidFiles" (c == "InvalidFiles")
  i_NoFile : IsF K D "NoFile" (c == "NoFile")
  i_NoRemark : IsF K D "NoRemark" (c == "NoRemark")
  i_WrongState : IsF K D "WrongState" (c == "WrongState")
  i_NothingToUndo : IsF K D "NothingToUndo" (c == "NothingToUndo")
  i_TooMany : IsF K D "TooMany" (c == "TooMany")
  i_InvalidForm : IsF K D "InvalidForm" (c == "InvalidForm")
  i_InvalidWay : IsF K D "InvalidWay" (c == "InvalidWay")
  i_ValueError : IsF K D "ValueError" true
theorem ok__law_name_of (c : String) (str : List Char) {fa D : Addr} {fd : FuncData} (F : L2.Fun K.K "_law_name_of" "_law_name_of" (top 50) fa fd) (T : Txt K) (NF : NmF K D c) (hm : K.mg "_law_name_of" = some (.ref fa)) (hk : PySem.W.keepIn K.K (.ref fa) = true) (hb : Binds K.K fd ["e"] []) (hD : K.mg (Str.ofString c) = some (.ref D))
    (mean : ∀ a m, mkFn 6 (s__law_name_of c a) [.raw a] m = .ok (.d (.str str)) m) : NmS P w K base 1 "_law_name_of" c str := by
  have S : FnScope ["e", "matching", "words", "got", "word", "good"] ["e"] (defScope (top 50)) := ⟨rfl, rfl, rfl, by decide +kernel, rfl, by decide +kernel, by decide +kernel⟩
  refine nm_ok (s := s__law_name_of c) F S rfl hm hk hb hD (fun X W cdv A outer sh H p hX cx => ?_) mean
  subst hX
  exact (ss_cons (ss_asg (tg_name 1 cx.nd) (NEx.fz (ne_lst (sa_cons (se_isE cx.hk NF.ex cx.hz T.z_isinstance NF.i_InvalidText) (sa_cons (se_isE cx.hk NF.ex cx.hz T.z_isinstance NF.i_InvalidRow) (sa_cons (se_isE cx.hk NF.ex cx.hz T.z_isinstance NF.i_InvalidLine) sa_nil))) (hl := Nat.le_of_ble_eq_true rfl))))
    (ss_cons (ss_asg (tg_name 1 cx.nd) (se_bin op_addD ds_add (se_var 1) (NEx.fz (ne_lst (sa_cons (se_isE cx.hk NF.ex cx.hz T.z_isinstance NF.i_InvalidPlace) (sa_cons (se_isE cx.hk NF.ex cx.hz T.z_isinstance NF.i_InvalidNumber) (sa_cons (se_isE cx.hk NF.ex cx.hz T.z_isinstance NF.i_InvalidFacts) sa_nil))) (hl := Nat.le_of_ble_eq_true rfl)))))
    (ss_cons (ss_asg (tg_name 1 cx.nd) (se_bin op_addD ds_add (se_var 1) (NEx.fz (ne_lst (sa_cons (se_isE cx.hk NF.ex cx.hz T.z_isinstance NF.i_InvalidLines) (sa_cons (se_isE cx.hk NF.ex cx.hz T.z_isinstance NF.i_InvalidTexts) (sa_cons (se_isE cx.hk NF.ex cx.hz T.z_isinstance NF.i_InvalidRule) sa_nil))) (hl := Nat.le_of_ble_eq_true rfl)))))
    (ss_cons (ss_asg (tg_name 1 cx.nd) (se_bin op_addD ds_add (se_var 1) (NEx.fz (ne_lst (sa_cons (se_isE cx.hk NF.ex cx.hz T.z_isinstance NF.i_InvalidAnchor) (sa_cons (se_isE cx.hk NF.ex cx.hz T.z_isinstance NF.i_InvalidSeen) (sa_cons (se_isE cx.hk NF.ex cx.hz T.z_isinstance NF.i_InvalidName) sa_nil))) (hl := Nat.le_of_ble_eq_true rfl)))))
    (ss_cons (ss_asg (tg_name 1 cx.nd) (se_bin op_addD ds_add (se_var 1) (NEx.fz (ne_lst (sa_cons (se_isE cx.hk NF.ex cx.hz T.z_isinstance NF.i_InvalidFiles) (sa_cons (se_isE cx.hk NF.ex cx.hz T.z_isinstance NF.i_NoFile) (sa_cons (se_isE cx.hk NF.ex cx.hz T.z_isinstance NF.i_NoRemark) sa_nil))) (hl := Nat.le_of_ble_eq_true rfl)))))
    (ss_cons (ss_asg (tg_name 1 cx.nd) (se_bin op_addD ds_add (se_var 1) (NEx.fz (ne_lst (sa_cons (se_isE cx.hk NF.ex cx.hz T.z_isinstance NF.i_WrongState) (sa_cons (se_isE cx.hk NF.ex cx.hz T.z_isinstance NF.i_NothingToUndo) (sa_cons (se_isE cx.hk NF.ex cx.hz T.z_isinstance NF.i_TooMany) sa_nil))) (hl := Nat.le_of_ble_eq_true rfl)))))
    (ss_cons (ss_asg (tg_name 1 cx.nd) (se_bin op_addD ds_add (se_var 1) (NEx.fz (ne_lst (sa_cons (se_isE cx.hk NF.ex cx.hz T.z_isinstance NF.i_InvalidForm) (sa_cons (se_isE cx.hk NF.ex cx.hz T.z_isinstance NF.i_InvalidWay) sa_nil)) (hl := Nat.le_of_ble_eq_true rfl)))))
    (ss_cons (ss_asg (tg_name 2 cx.nd) (NEx.fz (ne_lst (sa_cons (se_str ['T', 'e', 'x', 't']) (sa_cons (se_str ['R', 'o', 'w']) (sa_cons (se_str ['L', 'i', 'n', 'e']) (sa_cons (se_str k_Place) (sa_cons (se_str k_Number) (sa_cons (se_str k_Facts) (sa_cons (se_str k_Lines) (sa_cons (se_str k_Texts) (sa_cons (se_str ['R', 'u', 'l', 'e']) (sa_cons (se_str k_Anchor) (sa_cons (se_str ['S', 'e', 'e', 'n']) (sa_cons (se_str ['N', 'a', 'm', 'e']) sa_nil)))))))))))) (hl := Nat.le_of_ble_eq_true rfl))))
    (ss_cons (ss_asg (tg_name 2 cx.nd) (se_bin op_addD ds_add (se_var 2) (NEx.fz (ne_lst (sa_cons (se_str k_Files) (sa_cons (se_str ['F', 'i', 'l', 'e']) (sa_cons (se_str k_Remark) (sa_cons (se_str k_State) (sa_cons (se_str ['U', 'n', 'd', 'o']) (sa_cons (se_str ['M', 'a', 'n', 'y']) (sa_cons (se_str ['F', 'o', 'r', 'm']) (sa_cons (se_str ['W', 'a', 'y']) sa_nil)))))))) (hl := Nat.le_of_ble_eq_true rfl)))))
    (ss_cons (ss_asgLcH (i := 3) (own := [("word", 4), ("good", 5)]) cx.hk cx.nd T.z_zip (se_var 2) (se_var 1) (blkOk_by (by kernel_rfl)) (fun _ _ _ _ _ z => tg_tupH z (tgs_cons 4 cx.nd (tgs_cons 5 cx.nd tgs_nil))) (fun _ _ _ _ _ => (sts_one (st_val (se_var 5)))) (fun _ _ _ _ _ => (se_var 4)) (sw_true rfl rfl rfl (by decide +kernel)))
    (ss_one (ss_ret (se_bin op_addD ds_add (se_join (se_str []) (se_var 3)) (se_if (st_val (se_isE cx.hk NF.ex cx.hz T.z_isinstance NF.i_ValueError)) (se_str ['+']) (se_str [])))))))))))))))
theorem ok_is_text_of {fa : Addr} {fd : FuncData} (F : L2.Fun K.K "is_text_of" "is_text_of" (top 27) fa fd) (T : Txt K)  : FnOk P w K.K K.mg base (L2N.CX P w) 1 fa fd ["value"] (spF K 1 F_is_text_of) := by
  have S : FnScope ["value", "sign"] ["value"] (defScope (top 27)) := ⟨rfl, rfl, rfl, by decide +kernel, rfl, by decide +kernel, by decide +kernel⟩
  refine fn_ok (N := ["value", "sign"]) (ps := ["value"]) (n := 1) (k := 0) (s := s_is_text_of) F S rfl fun X W cdv A outer sh H hX cx hp => ?_
  subst hX
  exact (ss_one (ss_ret (se_and (se_isiP T.z_isinstance T.z_str (se_var 0)) (se_and (se_cmp (sc_op op_le ds_le (se_bf call_len b_len T.z_len (se_var 0)) (se_globE T.c_MOST_LINES))) (se_one (se_bf (cr_all cx.calm) b_all T.z_all (NEx.fz (ne_lcE (own := [("sign", 1)]) cx.calm cx.nd (si_val (se_var 0)) (blkOk_by (by kernel_rfl)) (fun s1 H1 C1 cl1 fp1 => (tg_name 1 (CxOk.blk cx s1 H1 _ _ fp1).nd)) (fun s1 H1 C1 cl1 fp1 => sts_nil) (fun s1 H1 C1 cl1 fp1 => (se_cmp (sc_op op_inD ds_in (se_var 1) (se_globE T.c_SIGNS))))))))))))
theorem ok_need_text {fa : Addr} {fd : FuncData} (F : L2.Fun K.K "need_text" "need_text" (top 28) fa fd) (T : Txt K) (H_is_text_of : FnS P w K base 1 "is_text_of" 1 F_is_text_of) : FnOk P w K.K K.mg base (L2N.CX P w) 2 fa fd ["value"] (spF K 1 F_need_text) := by
  have S : FnScope ["value"] ["value"] (defScope (top 28)) := ⟨rfl, rfl, rfl, by decide +kernel, rfl, by decide +kernel, by decide +kernel⟩
  refine fn_ok (N := ["value"]) (ps := ["value"]) (n := 1) (k := 1) (s := s_need_text) F S rfl fun X W cdv A outer sh H hX cx hp => ?_
  subst hX
  exact (ss_one (ss_if (st_not (st_val (se_call H_is_text_of cx.tk cx.rm (sa_cons (se_var 0) sa_nil)))) (ss_one ss_no) ss_nil))
theorem ok_need_pair {fa : Addr} {fd : FuncData} (F : L2.Fun K.K "need_pair" "need_pair" (top 32) fa fd) (T : Txt K) (H_need_text : FnS P w K base 2 "need_text" 1 F_need_text) : FnOk P w K.K K.mg base (L2N.CX P w) 3 fa fd ["one", "other"] (spF K 2 F_need_pair) := by
  have S : FnScope ["one", "other"] ["one", "other"] (defScope (top 32)) := ⟨rfl, rfl, rfl, by decide +kernel, rfl, by decide +kernel, by decide +kernel⟩
  refine fn_ok (N := ["one", "other"]) (ps := ["one", "other"]) (n := 2) (k := 2) (s := s_need_pair) F S rfl fun X W cdv A outer sh H hX cx hp => ?_
  subst hX
  exact (ss_cons (ss_expr (se_call H_need_text cx.tk cx.rm (sa_cons (se_var 0) sa_nil)))
    (ss_one (ss_expr (se_call H_need_text cx.tk cx.rm (sa_cons (se_var 1) sa_nil)))))
theorem ok_is_from {fa : Addr} {fd : FuncData} (F : L2.Fun K.K "is_from" "is_from" (top 26) fa fd) (T : Txt K)  : FnOk P w K.K K.mg base (L2N.CX P w) 1 fa fd ["value", "low", "high"] (spF K 3 F_is_from) := by
  have S : FnScope ["value", "low", "high"] ["value", "low", "high"] (defScope (top 26)) := ⟨rfl, rfl, rfl, by decide +kernel, rfl, by decide +kernel, by decide +kernel⟩
  refine fn_ok (N := ["value", "low", "high"]) (ps := ["value", "low", "high"]) (n := 3) (k := 0) (s := s_is_from) F S rfl fun X W cdv A outer sh H hX cx hp => ?_
  subst hX
  exact (ss_one (ss_ret (se_and (se_isiP T.z_isinstance T.z_int (se_var 0)) (se_and (se_not (se_isiP T.z_isinstance T.z_bool (se_var 0))) (se_one (se_chain op_le ds_le op_le ds_le (se_var 1) (se_var 0) (se_var 2)))))))
theorem ok_need_number {fa : Addr} {fd : FuncData} (F : L2.Fun K.K "need_number" "need_number" (top 29) fa fd) (T : Txt K) (H_is_from : FnS P w K base 1 "is_from" 3 F_is_from) : FnOk P w K.K K.mg base (L2N.CX P w) 2 fa fd ["value", "low", "high"] (spF K 3 F_need_number) := by
  have S : FnScope ["value", "low", "high"] ["value", "low", "high"] (defScope (top 29)) := ⟨rfl, rfl, rfl, by decide +kernel, rfl, by decide +kernel, by decide +kernel⟩
  refine fn_ok (N := ["value", "low", "high"]) (ps := ["value", "low", "high"]) (n := 3) (k := 1) (s := s_need_number) F S rfl fun X W cdv A outer sh H hX cx hp => ?_
  subst hX
  exact (ss_one (ss_if (st_not (st_val (se_call H_is_from cx.tk cx.rm (sa_cons (se_var 0) (sa_cons (se_var 1) (sa_cons (se_var 2) sa_nil)))))) (ss_one ss_no) ss_nil))
theorem ok_need_facts {fa : Addr} {fd : FuncData} (F : L2.Fun K.K "need_facts" "need_facts" (top 31) fa fd) (T : Txt K) (H_is_from : FnS P w K base 1 "is_from" 3 F_is_from) : FnOk P w K.K K.mg base (L2N.CX P w) 2 fa fd ["one", "other", "facts"] (spF K 3 F_need_facts) := by
  have S : FnScope ["one", "other", "facts", "line", "fate", "fact", "later"] ["one", "other", "facts"] (defScope (top 31)) := ⟨rfl, rfl, rfl, by decide +kernel, rfl, by decide +kernel, by decide +kernel⟩
  refine fn_ok (N := ["one", "other", "facts", "line", "fate", "fact", "later"]) (ps := ["one", "other", "facts"]) (n := 3) (k := 1) (s := s_need_facts) F S rfl fun X W cdv A outer sh H hX cx hp => ?_
  subst hX
  exact (ss_cons (ss_if (SW.st (sw_or (st_not (st_val (se_isiP T.z_isinstance T.z_tuple (se_td T.nil (se_var 2))))) (sw_or1 (st_not (st_val (se_bf (cr_all cx.calm) b_all T.z_all (NEx.fz (ne_lcE (own := [("fact", 5)]) cx.calm cx.nd (si_val (se_td T.nil (se_var 2))) (blkOk_by (by kernel_rfl)) (fun s1 H1 C1 cl1 fp1 => (tg_name 5 (CxOk.blk cx s1 H1 _ _ fp1).nd)) (fun s1 H1 C1 cl1 fp1 => sts_nil) (fun s1 H1 C1 cl1 fp1 => (se_and (se_isiP T.z_isinstance T.z_tuple (se_var 5)) (se_one (se_cmp (sc_op (op_eqD (CxOk.blk cx s1 H1 _ _ fp1).rm.units) ds_eq (se_bf call_len b_len T.z_len (se_var 5)) se_int))))))))))))) (ss_one ss_no) ss_nil)
    (ss_cons (ss_for hp cx.calm (si_val (se_td T.nil (se_var 2))) (tg_tup cx.calm (tgs_cons 3 cx.nd (tgs_cons 4 cx.nd tgs_nil))) (ss_one (ss_if (SW.st (sw_or (st_not (st_val (se_call H_is_from cx.tk cx.rm (sa_cons (se_var 3) (sa_cons se_int (sa_cons (se_bin op_sub ds_sub (se_bf call_len b_len T.z_len (se_var 0)) se_int) sa_nil)))))) (sw_or1 (st_not (st_val (se_call H_is_from cx.tk cx.rm (sa_cons (se_var 4) (sa_cons (se_un un_neg ds_neg se_int) (sa_cons (se_bin op_sub ds_sub (se_bf call_len b_len T.z_len (se_var 1)) se_int) sa_nil))))))))) (ss_one ss_no) ss_nil)))
    (ss_one (ss_if (st_val (se_bf (cr_any cx.calm) b_any T.z_any (NEx.fz (ne_lcE (own := [("fact", 5), ("later", 6)]) cx.calm cx.nd (si_zip T.z_zip (se_td T.nil (se_var 2)) (se_slice (se_td T.nil (se_var 2)) (so_some se_int) so_none)) (blkOk_by (by kernel_rfl)) (fun s2 H2 C2 cl2 fp2 => (tg_tup (CxOk.blk cx s2 H2 _ _ fp2).calm (tgs_cons 5 (CxOk.blk cx s2 H2 _ _ fp2).nd (tgs_cons 6 (CxOk.blk cx s2 H2 _ _ fp2).nd tgs_nil)))) (fun s2 H2 C2 cl2 fp2 => sts_nil) (fun s2 H2 C2 cl2 fp2 => (se_cmp (sc_op op_ge ds_ge (se_ix (se_var 5) se_int) (se_ix (se_var 6) se_int)))))))) (ss_one ss_no) ss_nil))))
theorem ok_least_of {fa : Addr} {fd : FuncData} (F : L2.Fun K.K "least_of" "least_of" (top 34) fa fd) (T : Txt K)  : FnOk P w K.K K.mg base (L2N.CX P w) 1 fa fd ["costs"] (spF K 1 F_least_of) := by
  have S : FnScope ["costs", "known", "cost"] ["costs"] (defScope (top 34)) := ⟨rfl, rfl, rfl, by decide +kernel, rfl, by decide +kernel, by decide +kernel⟩
  refine fn_ok (N := ["costs", "known", "cost"]) (ps := ["costs"]) (n := 1) (k := 0) (s := s_least_of) F S rfl fun X W cdv A outer sh H hX cx hp => ?_
  subst hX
  exact (ss_cons (by first
      | exact ss_asgLc (i := 1) (own := [("cost", 2)]) cx.calm cx.nd (si_val (se_var 0)) (blkOk_by (by kernel_rfl)) (fun s2 H2 C2 cl2 fp2 => (tg_name 2 (CxOk.blk cx s2 H2 _ _ fp2).nd)) (fun s2 H2 C2 cl2 fp2 => (sts_one (st_cmp (sc_notN (se_var 2))))) (fun s2 H2 C2 cl2 fp2 => (se_var 2)) (sw_true rfl rfl rfl (by decide +kernel))
      | exact ss_asg (tg_name 1 cx.nd) (NEx.fz (ne_lcE (own := [("cost", 2)]) cx.calm cx.nd (si_val (se_var 0)) (blkOk_by (by kernel_rfl)) (fun s1 H1 C1 cl1 fp1 => (tg_name 2 (CxOk.blk cx s1 H1 _ _ fp1).nd)) (fun s1 H1 C1 cl1 fp1 => (sts_one (st_cmp (sc_notN (se_var 2))))) (fun s1 H1 C1 cl1 fp1 => (se_var 2)))))
    (ss_one (ss_ret (se_if (st_cmp (sc_op (op_neD cx.rm.units) ds_ne (se_var 1) (NEx.fz (ne_lst sa_nil)))) (se_bf (cr_min cx.calm) b_min T.z_min (se_var 1)) se_non))))
theorem ok_sum_of {fa : Addr} {fd : FuncData} (F : L2.Fun K.K "sum_of" "sum_of" (top 33) fa fd) (T : Txt K)  : FnOk P w K.K K.mg base (L2N.CX P w) 1 fa fd ["cost", "more"] (spF K 2 F_sum_of) := by
  have S : FnScope ["cost", "more"] ["cost", "more"] (defScope (top 33)) := ⟨rfl, rfl, rfl, by decide +kernel, rfl, by decide +kernel, by decide +kernel⟩
  refine fn_ok (N := ["cost", "more"]) (ps := ["cost", "more"]) (n := 2) (k := 0) (s := s_sum_of) F S rfl fun X W cdv A outer sh H hX cx hp => ?_
  subst hX
  exact (ss_one (ss_ret (se_if (st_cmp (sc_isN (se_var 0))) se_non (se_bin op_addD ds_add (se_var 0) (se_var 1)))))
theorem ok_Steps_goes {fa : Addr} {fd : FuncData} (F : L2.Fun K.K "goes" "Steps.goes" (mth 35 2) fa fd) (T : Txt K)  : FnOk P w K.K K.mg base (L2N.CX P w) 1 fa fd ["self", "line"] (spF K 2 F_Steps_goes) := by
  have S : FnScope ["self", "line"] ["self", "line"] (defScope (mth 35 2)) := ⟨rfl, rfl, rfl, by decide +kernel, rfl, by decide +kernel, by decide +kernel⟩
  refine fn_ok (N := ["self", "line"]) (ps := ["self", "line"]) (n := 2) (k := 0) (s := s_Steps_goes) F S rfl fun X W cdv A outer sh H hX cx hp => ?_
  subst hX
  exact (ss_one (ss_ret (se_if (st_cmp (sc_op (op_eqD cx.rm.units) ds_eq (se_get cx.rm.units (se_attr "Steps" "told" T.at_told (se_var 0)) (se_var 1) (se_un un_neg ds_neg se_int)) (se_un un_neg ds_neg se_int))) se_int se_non)))
theorem ok_Steps_stays {fa : Addr} {fd : FuncData} (F : L2.Fun K.K "stays" "Steps.stays" (mth 35 1) fa fd) (T : Txt K)  : FnOk P w K.K K.mg base (L2N.CX P w) 1 fa fd ["self", "line", "place"] (spF K 3 F_Steps_stays) := by
  have S : FnScope ["self", "line", "place"] ["self", "line", "place"] (defScope (mth 35 1)) := ⟨rfl, rfl, rfl, by decide +kernel, rfl, by decide +kernel, by decide +kernel⟩
  refine fn_ok (N := ["self", "line", "place"]) (ps := ["self", "line", "place"]) (n := 3) (k := 0) (s := s_Steps_stays) F S rfl fun X W cdv A outer sh H hX cx hp => ?_
  subst hX
  exact (ss_cons (ss_if (st_cmp (sc_op (op_neD cx.rm.units) ds_ne (se_get cx.rm.units (se_attr "Steps" "told" T.at_told (se_var 0)) (se_var 1) (se_var 2)) (se_var 2))) (ss_one (ss_ret se_non)) ss_nil)
    (ss_one (ss_ret (se_bt call_int1 b_int T.z_int (se_cmp (sc_op (op_neD cx.rm.units) ds_ne (se_ix (se_attr "Steps" "one" T.at_one (se_var 0)) (se_var 1)) (se_ix (se_attr "Steps" "other" T.at_other (se_var 0)) (se_var 2))))))))
theorem ok_ahead_of {fa : Addr} {fd : FuncData} (F : L2.Fun K.K "ahead_of" "ahead_of" (top 36) fa fd) (T : Txt K) (H_sum_of : FnS P w K base 1 "sum_of" 2 F_sum_of) (H_Steps_goes : MethS P w K base 1 "Steps" "goes" 2 F_Steps_goes) (H_Steps_stays : MethS P w K base 1 "Steps" "stays" 3 F_Steps_stays) (H_least_of : FnS P w K base 1 "least_of" 1 F_least_of) : FnOk P w K.K K.mg base (L2N.CX P w) 2 fa fd ["steps"] (spF K 1 F_ahead_of) := by
  have S : FnScope ["steps", "many", "long", "table", "line", "place", "some"] ["steps"] (defScope (top 36)) := ⟨rfl, rfl, rfl, by decide +kernel, rfl, by decide +kernel, by decide +kernel⟩
  refine fn_ok (N := ["steps", "many", "long", "table", "line", "place", "some"]) (ps := ["steps"]) (n := 1) (k := 1) (s := s_ahead_of) F S rfl fun X W cdv A outer sh H hX cx hp => ?_
  subst hX
  exact (ss_cons (by first
      | exact ss_par2 1 2 cx.calm cx.nd (sa_cons (se_bf call_len b_len T.z_len (se_attr "Steps" "one" T.at_one (se_var 0))) (sa_cons (se_bf call_len b_len T.z_len (se_attr "Steps" "other" T.at_other (se_var 0))) sa_nil)) (by rfl)
      | exact ss_parT (hw := by first | rfl | kernel_rfl) cx.calm (sa_cons (se_bf call_len b_len T.z_len (se_attr "Steps" "one" T.at_one (se_var 0))) (sa_cons (se_bf call_len b_len T.z_len (se_attr "Steps" "other" T.at_other (se_var 0))) sa_nil)) (tp_cons 1 cx.nd (tp_cons 2 cx.nd tp_nil)))
    (ss_cons (ss_tab (i := 3) (own := [("line", 4)]) cx.calm cx.nd (si_range1 T.z_range (se_bin op_addD ds_add (se_var 1) se_int)) (blkOk_by (by kernel_rfl)) (fun s1 H1 C1 cl1 fp1 => (tg_name 4 (CxOk.blk cx s1 H1 _ _ fp1).nd)) (fun s1 H1 C1 cl1 fp1 => (ne_mul (ne_lst (sa_cons (se_call H_sum_of (CxOk.blk cx s1 H1 _ _ fp1).tk (CxOk.blk cx s1 H1 _ _ fp1).rm (sa_cons se_non (sa_cons se_int sa_nil))) sa_nil)) (se_bin op_addD ds_add (se_var 2) se_int))) (sw_true rfl rfl rfl (by decide +kernel)))
    (ss_cons (ss_for hp cx.calm (si_range1 T.z_range (se_bin op_addD ds_add (se_var 1) se_int)) (tg_name 4 cx.nd) (ss_one (ss_for hp cx.calm (si_range1 T.z_range (se_bin op_addD ds_add (se_var 2) se_int)) (tg_name 5 cx.nd) (ss_cons (ss_asg (tg_name 6 cx.nd) (NEx.nw (ne_if (SW.st (sw_and (st_cmp (sc_op (op_eqD cx.rm.units) ds_eq (se_var 4) se_int)) (sw_and1 (st_cmp (sc_op (op_eqD cx.rm.units) ds_eq (se_var 5) se_int))))) (ne_lst (sa_cons (se_call H_sum_of cx.tk cx.rm (sa_cons se_int (sa_cons se_int sa_nil))) sa_nil)) (ne_lst sa_nil))))
    (ss_cons (ss_if (SW.st (sw_and (st_cmp (sc_op op_gt ds_gt (se_var 4) se_int)) (sw_and1 (st_cmp (sc_notN (se_meth H_Steps_goes cx.tk cx.rm (se_var 0) (sa_cons (se_bin op_sub ds_sub (se_var 4) se_int) sa_nil))))))) (ss_one (ss_app (se_var 6) (se_call H_sum_of cx.tk cx.rm (sa_cons (se_ix2 (se_var 3) (se_bin op_sub ds_sub (se_var 4) se_int) (se_var 5)) (sa_cons se_int sa_nil))))) ss_nil)
    (ss_cons (ss_if (st_cmp (sc_op op_gt ds_gt (se_var 5) se_int)) (ss_one (ss_app (se_var 6) (se_call H_sum_of cx.tk cx.rm (sa_cons (se_ix2 (se_var 3) (se_var 4) (se_bin op_sub ds_sub (se_var 5) se_int)) (sa_cons se_int sa_nil))))) ss_nil)
    (ss_cons (ss_if (SW.st (sw_and (st_cmp (sc_op op_gt ds_gt (se_var 4) se_int)) (sw_and (st_cmp (sc_op op_gt ds_gt (se_var 5) se_int)) (sw_and1 (st_cmp (sc_notN (se_meth H_Steps_stays cx.tk cx.rm (se_var 0) (sa_cons (se_bin op_sub ds_sub (se_var 4) se_int) (sa_cons (se_bin op_sub ds_sub (se_var 5) se_int) sa_nil))))))))) (ss_one (ss_app (se_var 6) (se_call H_sum_of cx.tk cx.rm (sa_cons (se_ix2 (se_var 3) (se_bin op_sub ds_sub (se_var 4) se_int) (se_bin op_sub ds_sub (se_var 5) se_int)) (sa_cons (se_meth H_Steps_stays cx.tk cx.rm (se_var 0) (sa_cons (se_bin op_sub ds_sub (se_var 4) se_int) (sa_cons (se_bin op_sub ds_sub (se_var 5) se_int) sa_nil))) sa_nil))))) ss_nil)
    (ss_fz 6 (ss_one (ss_set2 (se_var 3) (se_var 4) (se_var 5) (se_call H_least_of cx.tk cx.rm (sa_cons (se_var 6) sa_nil))))))))))))
    (ss_fz2 3 (ss_one (ss_ret (se_var 3)))))))
theorem ok_behind_of {fa : Addr} {fd : FuncData} (F : L2.Fun K.K "behind_of" "behind_of" (top 37) fa fd) (T : Txt K) (H_sum_of : FnS P w K base 1 "sum_of" 2 F_sum_of) (H_Steps_goes : MethS P w K base 1 "Steps" "goes" 2 F_Steps_goes) (H_Steps_stays : MethS P w K base 1 "Steps" "stays" 3 F_Steps_stays) (H_least_of : FnS P w K base 1 "least_of" 1 F_least_of) : FnOk P w K.K K.mg base (L2N.CX P w) 2 fa fd ["steps"] (spF K 1 F_behind_of) := by
  have S : FnScope ["steps", "many", "long", "table", "line", "place", "some"] ["steps"] (defScope (top 37)) := ⟨rfl, rfl, rfl, by decide +kernel, rfl, by decide +kernel, by decide +kernel⟩
  refine fn_ok (N := ["steps", "many", "long", "table", "line", "place", "some"]) (ps := ["steps"]) (n := 1) (k := 1) (s := s_behind_of) F S rfl fun X W cdv A outer sh H hX cx hp => ?_
  subst hX
  exact (ss_cons (by first
      | exact ss_par2 1 2 cx.calm cx.nd (sa_cons (se_bf call_len b_len T.z_len (se_attr "Steps" "one" T.at_one (se_var 0))) (sa_cons (se_bf call_len b_len T.z_len (se_attr "Steps" "other" T.at_other (se_var 0))) sa_nil)) (by rfl)
      | exact ss_parT (hw := by first | rfl | kernel_rfl) cx.calm (sa_cons (se_bf call_len b_len T.z_len (se_attr "Steps" "one" T.at_one (se_var 0))) (sa_cons (se_bf call_len b_len T.z_len (se_attr "Steps" "other" T.at_other (se_var 0))) sa_nil)) (tp_cons 1 cx.nd (tp_cons 2 cx.nd tp_nil)))
    (ss_cons (ss_tab (i := 3) (own := [("line", 4)]) cx.calm cx.nd (si_range1 T.z_range (se_bin op_addD ds_add (se_var 1) se_int)) (blkOk_by (by kernel_rfl)) (fun s1 H1 C1 cl1 fp1 => (tg_name 4 (CxOk.blk cx s1 H1 _ _ fp1).nd)) (fun s1 H1 C1 cl1 fp1 => (ne_mul (ne_lst (sa_cons (se_call H_sum_of (CxOk.blk cx s1 H1 _ _ fp1).tk (CxOk.blk cx s1 H1 _ _ fp1).rm (sa_cons se_non (sa_cons se_int sa_nil))) sa_nil)) (se_bin op_addD ds_add (se_var 2) se_int))) (sw_true rfl rfl rfl (by decide +kernel)))
    (ss_cons (ss_for hp cx.calm (si_rangeDn T.z_range (se_var 1) (se_un un_neg ds_neg se_int) (se_un un_neg ds_neg se_int)) (tg_name 4 cx.nd) (ss_one (ss_for hp cx.calm (si_rangeDn T.z_range (se_var 2) (se_un un_neg ds_neg se_int) (se_un un_neg ds_neg se_int)) (tg_name 5 cx.nd) (ss_cons (ss_asg (tg_name 6 cx.nd) (NEx.nw (ne_if (SW.st (sw_and (st_cmp (sc_op (op_eqD cx.rm.units) ds_eq (se_var 4) (se_var 1))) (sw_and1 (st_cmp (sc_op (op_eqD cx.rm.units) ds_eq (se_var 5) (se_var 2)))))) (ne_lst (sa_cons (se_call H_sum_of cx.tk cx.rm (sa_cons se_int (sa_cons se_int sa_nil))) sa_nil)) (ne_lst sa_nil))))
    (ss_cons (ss_if (SW.st (sw_and (st_cmp (sc_op op_lt ds_lt (se_var 4) (se_var 1))) (sw_and1 (st_cmp (sc_notN (se_meth H_Steps_goes cx.tk cx.rm (se_var 0) (sa_cons (se_var 4) sa_nil))))))) (ss_one (ss_app (se_var 6) (se_call H_sum_of cx.tk cx.rm (sa_cons (se_ix2 (se_var 3) (se_bin op_addD ds_add (se_var 4) se_int) (se_var 5)) (sa_cons se_int sa_nil))))) ss_nil)
    (ss_cons (ss_if (st_cmp (sc_op op_lt ds_lt (se_var 5) (se_var 2))) (ss_one (ss_app (se_var 6) (se_call H_sum_of cx.tk cx.rm (sa_cons (se_ix2 (se_var 3) (se_var 4) (se_bin op_addD ds_add (se_var 5) se_int)) (sa_cons se_int sa_nil))))) ss_nil)
    (ss_cons (ss_if (SW.st (sw_and (st_cmp (sc_op op_lt ds_lt (se_var 4) (se_var 1))) (sw_and (st_cmp (sc_op op_lt ds_lt (se_var 5) (se_var 2))) (sw_and1 (st_cmp (sc_notN (se_meth H_Steps_stays cx.tk cx.rm (se_var 0) (sa_cons (se_var 4) (sa_cons (se_var 5) sa_nil))))))))) (ss_one (ss_app (se_var 6) (se_call H_sum_of cx.tk cx.rm (sa_cons (se_ix2 (se_var 3) (se_bin op_addD ds_add (se_var 4) se_int) (se_bin op_addD ds_add (se_var 5) se_int)) (sa_cons (se_meth H_Steps_stays cx.tk cx.rm (se_var 0) (sa_cons (se_var 4) (sa_cons (se_var 5) sa_nil))) sa_nil))))) ss_nil)
    (ss_fz 6 (ss_one (ss_set2 (se_var 3) (se_var 4) (se_var 5) (se_call H_least_of cx.tk cx.rm (sa_cons (se_var 6) sa_nil))))))))))))
    (ss_fz2 3 (ss_one (ss_ret (se_var 3)))))))
theorem ok_joined {fa : Addr} {fd : FuncData} (F : L2.Fun K.K "joined" "joined" (top 38) fa fd) (T : Txt K)  : FnOk P w K.K K.mg base (L2N.CX P w) 1 fa fd ["before", "between", "after"] (spF K 3 F_joined) := by
  have S : FnScope ["before", "between", "after"] ["before", "between", "after"] (defScope (top 38)) := ⟨rfl, rfl, rfl, by decide +kernel, rfl, by decide +kernel, by decide +kernel⟩
  refine fn_ok (N := ["before", "between", "after"]) (ps := ["before", "between", "after"]) (n := 3) (k := 0) (s := s_joined) F S rfl fun X W cdv A outer sh H hX cx hp => ?_
  subst hX
  exact (ss_one (ss_ret (se_if (SW.st (sw_or (st_cmp (sc_isN (se_var 0))) (sw_or (st_cmp (sc_isN (se_var 1))) (sw_or1 (st_cmp (sc_isN (se_var 2))))))) se_non (se_bin op_addD ds_add (se_bin op_addD ds_add (se_var 0) (se_var 1)) (se_var 2)))))
theorem ok_costs_with {fa : Addr} {fd : FuncData} (F : L2.Fun K.K "costs_with" "costs_with" (top 39) fa fd) (T : Txt K) (H_Steps : StepsS P w K base 1) (H_ahead_of : FnS P w K base 2 "ahead_of" 1 F_ahead_of) (H_behind_of : FnS P w K base 2 "behind_of" 1 F_behind_of) (H_Steps_goes : MethS P w K base 2 "Steps" "goes" 2 F_Steps_goes) (H_joined : FnS P w K base 2 "joined" 3 F_joined) (H_Steps_stays : MethS P w K base 2 "Steps" "stays" 3 F_Steps_stays) (H_least_of : FnS P w K base 2 "least_of" 1 F_least_of) : FnOk P w K.K K.mg base (L2N.CX P w) 3 fa fd ["one", "other", "line", "facts"] (spF K 4 F_costs_with) := by
  have S : FnScope ["one", "other", "line", "facts", "steps", "front", "rest", "spots", "lost", "kept", "spot"] ["one", "other", "line", "facts"] (defScope (top 39)) := ⟨rfl, rfl, rfl, by decide +kernel, rfl, by decide +kernel, by decide +kernel⟩
  refine fn_ok (N := ["one", "other", "line", "facts", "steps", "front", "rest", "spots", "lost", "kept", "spot"]) (ps := ["one", "other", "line", "facts"]) (n := 4) (k := 2) (s := s_costs_with) F S rfl fun X W cdv A outer sh H hX cx hp => ?_
  subst hX
  exact (ss_cons (ss_asg (tg_name 4 cx.nd) (se_steps H_Steps T.nil cx.tk cx.rm (sa_cons (se_var 0) (sa_cons (se_var 1) (sa_cons (se_var 3) sa_nil)))))
    (ss_cons (by first
      | exact ss_par2 5 6 cx.calm cx.nd (sa_cons (se_call H_ahead_of cx.tk cx.rm (sa_cons (se_var 4) sa_nil)) (sa_cons (se_call H_behind_of cx.tk cx.rm (sa_cons (se_var 4) sa_nil)) sa_nil)) (by rfl)
      | exact ss_parT (hw := by first | rfl | kernel_rfl) cx.calm (sa_cons (se_call H_ahead_of cx.tk cx.rm (sa_cons (se_var 4) sa_nil)) (sa_cons (se_call H_behind_of cx.tk cx.rm (sa_cons (se_var 4) sa_nil)) sa_nil)) (tp_cons 5 cx.nd (tp_cons 6 cx.nd tp_nil)))
    (ss_cons (ss_asg (tg_name 7 cx.nd) (NEx.fz (ne_rg1 cx.calm T.z_list T.z_range (se_bf call_len b_len T.z_len (se_var 1)))))
    (ss_cons (by first
      | exact ss_asgLc (i := 8) (own := [("spot", 10)]) cx.calm cx.nd (si_val (se_bin op_addD ds_add (se_var 7) (NEx.fz (ne_lst (sa_cons (se_bf call_len b_len T.z_len (se_var 1)) sa_nil))))) (blkOk_by (by kernel_rfl)) (fun s2 H2 C2 cl2 fp2 => (tg_name 10 (CxOk.blk cx s2 H2 _ _ fp2).nd)) (fun s2 H2 C2 cl2 fp2 => sts_nil) (fun s2 H2 C2 cl2 fp2 => (se_call H_joined (CxOk.blk cx s2 H2 _ _ fp2).tk (CxOk.blk cx s2 H2 _ _ fp2).rm (sa_cons (se_ix (se_ix (se_var 5) (se_var 2)) (se_var 10)) (sa_cons (se_meth H_Steps_goes (CxOk.blk cx s2 H2 _ _ fp2).tk (CxOk.blk cx s2 H2 _ _ fp2).rm (se_var 4) (sa_cons (se_var 2) sa_nil)) (sa_cons (se_ix (se_ix (se_var 6) (se_bin op_addD ds_add (se_var 2) se_int)) (se_var 10)) sa_nil))))) (sw_true rfl rfl rfl (by decide +kernel))
      | exact ss_asg (tg_name 8 cx.nd) (NEx.fz (ne_lcE (own := [("spot", 10)]) cx.calm cx.nd (si_val (se_bin op_addD ds_add (se_var 7) (NEx.fz (ne_lst (sa_cons (se_bf call_len b_len T.z_len (se_var 1)) sa_nil))))) (blkOk_by (by kernel_rfl)) (fun s1 H1 C1 cl1 fp1 => (tg_name 10 (CxOk.blk cx s1 H1 _ _ fp1).nd)) (fun s1 H1 C1 cl1 fp1 => sts_nil) (fun s1 H1 C1 cl1 fp1 => (se_call H_joined (CxOk.blk cx s1 H1 _ _ fp1).tk (CxOk.blk cx s1 H1 _ _ fp1).rm (sa_cons (se_ix (se_ix (se_var 5) (se_var 2)) (se_var 10)) (sa_cons (se_meth H_Steps_goes (CxOk.blk cx s1 H1 _ _ fp1).tk (CxOk.blk cx s1 H1 _ _ fp1).rm (se_var 4) (sa_cons (se_var 2) sa_nil)) (sa_cons (se_ix (se_ix (se_var 6) (se_bin op_addD ds_add (se_var 2) se_int)) (se_var 10)) sa_nil))))))))
    (ss_cons (by first
      | exact ss_asgLc (i := 9) (own := [("spot", 10)]) cx.calm cx.nd (si_val (se_var 7)) (blkOk_by (by kernel_rfl)) (fun s4 H4 C4 cl4 fp4 => (tg_name 10 (CxOk.blk cx s4 H4 _ _ fp4).nd)) (fun s4 H4 C4 cl4 fp4 => sts_nil) (fun s4 H4 C4 cl4 fp4 => (se_call H_joined (CxOk.blk cx s4 H4 _ _ fp4).tk (CxOk.blk cx s4 H4 _ _ fp4).rm (sa_cons (se_ix (se_ix (se_var 5) (se_var 2)) (se_var 10)) (sa_cons (se_meth H_Steps_stays (CxOk.blk cx s4 H4 _ _ fp4).tk (CxOk.blk cx s4 H4 _ _ fp4).rm (se_var 4) (sa_cons (se_var 2) (sa_cons (se_var 10) sa_nil))) (sa_cons (se_ix (se_ix (se_var 6) (se_bin op_addD ds_add (se_var 2) se_int)) (se_bin op_addD ds_add (se_var 10) se_int)) sa_nil))))) (sw_true rfl rfl rfl (by decide +kernel))
      | exact ss_asg (tg_name 9 cx.nd) (NEx.fz (ne_lcE (own := [("spot", 10)]) cx.calm cx.nd (si_val (se_var 7)) (blkOk_by (by kernel_rfl)) (fun s3 H3 C3 cl3 fp3 => (tg_name 10 (CxOk.blk cx s3 H3 _ _ fp3).nd)) (fun s3 H3 C3 cl3 fp3 => sts_nil) (fun s3 H3 C3 cl3 fp3 => (se_call H_joined (CxOk.blk cx s3 H3 _ _ fp3).tk (CxOk.blk cx s3 H3 _ _ fp3).rm (sa_cons (se_ix (se_ix (se_var 5) (se_var 2)) (se_var 10)) (sa_cons (se_meth H_Steps_stays (CxOk.blk cx s3 H3 _ _ fp3).tk (CxOk.blk cx s3 H3 _ _ fp3).rm (se_var 4) (sa_cons (se_var 2) (sa_cons (se_var 10) sa_nil))) (sa_cons (se_ix (se_ix (se_var 6) (se_bin op_addD ds_add (se_var 2) se_int)) (se_bin op_addD ds_add (se_var 10) se_int)) sa_nil))))))))
    (ss_one (ss_ret (se_tup (sa_cons (se_call H_least_of cx.tk cx.rm (sa_cons (se_var 8) sa_nil)) (sa_cons (se_bt call_tuple_of b_tup T.z_tuple (se_var 9)) sa_nil))))))))))
theorem ok_fates_with {fa : Addr} {fd : FuncData} (F : L2.Fun K.K "fates_with" "fates_with" (top 40) fa fd) (T : Txt K) (H_costs_with : FnS P w K base 3 "costs_with" 4 F_costs_with) : FnOk P w K.K K.mg base (L2N.CX P w) 4 fa fd ["one", "other", "line", "most", "facts"] (spF K 5 F_fates_with) := by
  have S : FnScope ["one", "other", "line", "most", "facts", "gone", "places", "some", "fate", "price"] ["one", "other", "line", "most", "facts"] (defScope (top 40)) := ⟨rfl, rfl, rfl, by decide +kernel, rfl, by decide +kernel, by decide +kernel⟩
  refine fn_ok (N := ["one", "other", "line", "most", "facts", "gone", "places", "some", "fate", "price"]) (ps := ["one", "other", "line", "most", "facts"]) (n := 5) (k := 3) (s := s_fates_with) F S rfl fun X W cdv A outer sh H hX cx hp => ?_
  subst hX
  exact (ss_cons (ss_asg (tg_tup cx.calm (tgs_cons 5 cx.nd (tgs_cons 6 cx.nd tgs_nil))) (se_call H_costs_with cx.tk cx.rm (sa_cons (se_var 0) (sa_cons (se_var 1) (sa_cons (se_var 2) (sa_cons (se_var 4) sa_nil))))))
    (ss_cons (ss_asg (tg_name 7 cx.nd) (se_bin op_addD ds_add (NEx.fz (ne_lst (sa_cons (se_tup (sa_cons (se_un un_neg ds_neg se_int) (sa_cons (se_var 5) sa_nil))) sa_nil))) (NEx.fz (ne_enum cx.calm T.z_list T.z_enumerate (se_var 6)))))
    (ss_one (ss_ret (NEx.fz (ne_lcE (own := [("fate", 8), ("price", 9)]) cx.calm cx.nd (si_val (se_var 7)) (blkOk_by (by kernel_rfl)) (fun s1 H1 C1 cl1 fp1 => (tg_tup (CxOk.blk cx s1 H1 _ _ fp1).calm (tgs_cons 8 (CxOk.blk cx s1 H1 _ _ fp1).nd (tgs_cons 9 (CxOk.blk cx s1 H1 _ _ fp1).nd tgs_nil)))) (fun s1 H1 C1 cl1 fp1 => (sts_one (SW.st (sw_and (st_cmp (sc_notN (se_var 9))) (sw_and1 (st_cmp (sc_op op_le ds_le (se_var 9) (se_var 3)))))))) (fun s1 H1 C1 cl1 fp1 => (se_var 8))))))))
theorem ok_more_facts {fa : Addr} {fd : FuncData} (F : L2.Fun K.K "more_facts" "more_facts" (top 42) fa fd) (T : Txt K)  : FnOk P w K.K K.mg base (L2N.CX P w) 1 fa fd ["facts", "line", "fate"] (spF K 3 F_more_facts) := by
  have S : FnScope ["facts", "line", "fate", "fact"] ["facts", "line", "fate"] (defScope (top 42)) := ⟨rfl, rfl, rfl, by decide +kernel, rfl, by decide +kernel, by decide +kernel⟩
  refine fn_ok (N := ["facts", "line", "fate", "fact"]) (ps := ["facts", "line", "fate"]) (n := 3) (k := 0) (s := s_more_facts) F S rfl fun X W cdv A outer sh H hX cx hp => ?_
  subst hX
  exact (ss_one (ss_ret (se_tupOf T.z_tuple (se_bf (cr_srtTi cx.rm.units) b_sortT T.z_sorted (se_bin op_addD ds_add (NEx.fz (ne_lcE (own := [("fact", 3)]) cx.calm cx.nd (si_val (se_td T.nil (se_var 0))) (blkOk_by (by kernel_rfl)) (fun s1 H1 C1 cl1 fp1 => (tg_name 3 (CxOk.blk cx s1 H1 _ _ fp1).nd)) (fun s1 H1 C1 cl1 fp1 => (sts_one (st_cmp (sc_op (op_neD (CxOk.blk cx s1 H1 _ _ fp1).rm.units) ds_ne (se_ix (se_var 3) se_int) (se_var 1))))) (fun s1 H1 C1 cl1 fp1 => (se_var 3)))) (NEx.fz (ne_lst (sa_cons (se_tup (sa_cons (se_var 1) (sa_cons (se_var 2) sa_nil))) sa_nil))))))))
theorem ok_joint_fates {k : Nat} {Fr : Fn} {fa : Addr} {fd : FuncData} (F : L2.Fun K.K "joint_fates" "joint_fates" (top 43) fa fd) (T : Txt K) (H_fates_with : FnS P w K base k "fates_with" 5 F_fates_with) (H_more_facts : FnS P w K base k "more_facts" 3 F_more_facts) (H_joint_fates : FnS P w K base k "joint_fates" 5 Fr) : FnOk P w K.K K.mg base (L2N.CX P w) (k + 1) fa fd ["one", "other", "lines", "most", "facts"] (spF K 5 (mkFn 9 (s_joint_fates Fr))) := by
  have S : FnScope ["one", "other", "lines", "most", "facts", "found", "fate", "rest", "more"] ["one", "other", "lines", "most", "facts"] (defScope (top 43)) := ⟨rfl, rfl, rfl, by decide +kernel, rfl, by decide +kernel, by decide +kernel⟩
  refine fn_ok (N := ["one", "other", "lines", "most", "facts", "found", "fate", "rest", "more"]) (ps := ["one", "other", "lines", "most", "facts"]) (n := 5) (k := k) (s := s_joint_fates Fr) F S rfl fun X W cdv A outer sh H hX cx hp => ?_
  subst hX
  exact (ss_cons (ss_if (st_cmp (sc_op (op_eqD cx.rm.units) ds_eq (se_var 2) (se_tup sa_nil))) (ss_one (ss_ret (NEx.fz (ne_lst (sa_cons (se_tup sa_nil) sa_nil))))) ss_nil)
    (ss_cons (ss_asg (tg_name 5 cx.nd) (NEx.nw (ne_lst sa_nil)))
    (ss_cons (ss_for hp cx.calm (si_val (se_call H_fates_with cx.tk cx.rm (sa_cons (se_var 0) (sa_cons (se_var 1) (sa_cons (se_ix (se_var 2) se_int) (sa_cons (se_var 3) (sa_cons (se_var 4) sa_nil))))))) (tg_name 6 cx.nd) (ss_cons (ss_asg (tg_name 7 cx.nd) (se_call H_joint_fates cx.tk cx.rm (sa_cons (se_var 0) (sa_cons (se_var 1) (sa_cons (se_slice (se_var 2) (so_some se_int) so_none) (sa_cons (se_var 3) (sa_cons (se_call H_more_facts cx.tk cx.rm (sa_cons (se_var 4) (sa_cons (se_ix (se_var 2) se_int) (sa_cons (se_var 6) sa_nil)))) sa_nil)))))))
    (ss_one (ss_ext (se_var 5) (ne_lcE (own := [("more", 8)]) cx.calm cx.nd (si_val (se_var 7)) (blkOk_by (by kernel_rfl)) (fun s1 H1 C1 cl1 fp1 => (tg_name 8 (CxOk.blk cx s1 H1 _ _ fp1).nd)) (fun s1 H1 C1 cl1 fp1 => sts_nil) (fun s1 H1 C1 cl1 fp1 => (se_bin op_addD ds_add (se_tup (sa_cons (se_var 6) sa_nil)) (se_var 8))))))))
    (ss_fz 5 (ss_one (ss_ret (se_var 5)))))))
theorem ok_together {fa : Addr} {fd : FuncData} (F : L2.Fun K.K "together" "together" (top 44) fa fd) (T : Txt K) (H_need_pair : FnS P w K base 8 "need_pair" 2 F_need_pair) (H_is_from : FnS P w K base 8 "is_from" 3 F_is_from) (H_need_number : FnS P w K base 8 "need_number" 3 F_need_number) (H_need_facts : FnS P w K base 8 "need_facts" 3 F_need_facts) (H_joint_fates : FnS P w K base 8 "joint_fates" 5 F_joint_fates) : FnOk P w K.K K.mg base (L2N.CX P w) 9 fa fd ["one", "other", "lines", "most", "facts"] (spF K 5 F_together) := by
  have S : FnScope ["one", "other", "lines", "most", "facts", "line", "later"] ["one", "other", "lines", "most", "facts"] (defScope (top 44)) := ⟨rfl, rfl, rfl, by decide +kernel, rfl, by decide +kernel, by decide +kernel⟩
  refine fn_ok (N := ["one", "other", "lines", "most", "facts", "line", "later"]) (ps := ["one", "other", "lines", "most", "facts"]) (n := 5) (k := 8) (s := s_together) F S rfl fun X W cdv A outer sh H hX cx hp => ?_
  subst hX
  exact (ss_cons (ss_expr (se_call H_need_pair cx.tk cx.rm (sa_cons (se_var 0) (sa_cons (se_var 1) sa_nil))))
    (ss_cons (ss_if (SW.st (sw_or (st_not (st_val (se_isiP T.z_isinstance T.z_tuple (se_var 2)))) (sw_or1 (st_not (st_chain op_le ds_le op_le ds_le se_int (se_bf call_len b_len T.z_len (se_var 2)) se_int))))) (ss_one (T.x_InvalidLines.elim fun _ E => ss_raise "InvalidLines" E cx.calm cx.tk)) ss_nil)
    (ss_cons (ss_if (st_not (st_val (se_bf (cr_all cx.calm) b_all T.z_all (NEx.fz (ne_lcE (own := [("line", 5)]) cx.calm cx.nd (si_val (se_var 2)) (blkOk_by (by kernel_rfl)) (fun s1 H1 C1 cl1 fp1 => (tg_name 5 (CxOk.blk cx s1 H1 _ _ fp1).nd)) (fun s1 H1 C1 cl1 fp1 => sts_nil) (fun s1 H1 C1 cl1 fp1 => (se_call H_is_from (CxOk.blk cx s1 H1 _ _ fp1).tk (CxOk.blk cx s1 H1 _ _ fp1).rm (sa_cons (se_var 5) (sa_cons se_int (sa_cons (se_bin op_sub ds_sub (se_bf call_len b_len T.z_len (se_var 0)) se_int) sa_nil)))))))))) (ss_one (T.x_InvalidLines.elim fun _ E => ss_raise "InvalidLines" E cx.calm cx.tk)) ss_nil)
    (ss_cons (ss_if (st_val (se_bf (cr_any cx.calm) b_any T.z_any (NEx.fz (ne_lcE (own := [("line", 5), ("later", 6)]) cx.calm cx.nd (si_zip T.z_zip (se_var 2) (se_slice (se_var 2) (so_some se_int) so_none)) (blkOk_by (by kernel_rfl)) (fun s2 H2 C2 cl2 fp2 => (tg_tup (CxOk.blk cx s2 H2 _ _ fp2).calm (tgs_cons 5 (CxOk.blk cx s2 H2 _ _ fp2).nd (tgs_cons 6 (CxOk.blk cx s2 H2 _ _ fp2).nd tgs_nil)))) (fun s2 H2 C2 cl2 fp2 => sts_nil) (fun s2 H2 C2 cl2 fp2 => (se_cmp (sc_op op_ge ds_ge (se_var 5) (se_var 6)))))))) (ss_one (T.x_InvalidLines.elim fun _ E => ss_raise "InvalidLines" E cx.calm cx.tk)) ss_nil)
    (ss_cons (ss_expr (se_call H_need_number cx.tk cx.rm (sa_cons (se_var 3) (sa_cons se_int (sa_cons (se_globE T.c_MOST_COST) sa_nil)))))
    (ss_cons (ss_expr (se_call H_need_facts cx.tk cx.rm (sa_cons (se_var 0) (sa_cons (se_var 1) (sa_cons (se_var 4) sa_nil)))))
    (ss_one (ss_ret (se_call H_joint_fates cx.tk cx.rm (sa_cons (se_var 0) (sa_cons (se_var 1) (sa_cons (se_var 2) (sa_cons (se_var 3) (sa_cons (se_var 4) sa_nil))))))))))))))
theorem ok__law_sort {fa : Addr} {fd : FuncData} (F : L2.Fun K.K "_law_sort" "_law_sort" (top 48) fa fd) (T : Txt K)  : FnOk P w K.K K.mg base (L2N.CX P w) 1 fa fd ["thing"] (spF K 1 F__law_sort) := by
  have S : FnScope ["thing"] ["thing"] (defScope (top 48)) := ⟨rfl, rfl, rfl, by decide +kernel, rfl, by decide +kernel, by decide +kernel⟩
  refine fn_ok (N := ["thing"]) (ps := ["thing"]) (n := 1) (k := 0) (s := s__law_sort) F S rfl fun X W cdv A outer sh H hX cx hp => ?_
  subst hX
  exact (ss_cons (ss_if (st_val (se_isiP T.z_isinstance T.z_bool (se_var 0))) (ss_one (ss_ret se_int)) ss_nil)
    (ss_cons (ss_if (st_val (se_isiP T.z_isinstance T.z_int (se_var 0))) (ss_one (ss_ret se_int)) ss_nil)
    (ss_cons (ss_if (st_val (se_isiP T.z_isinstance T.z_str (se_var 0))) (ss_one (ss_ret se_int)) ss_nil)
    (ss_cons (ss_if (st_val (se_isiP T.z_isinstance T.z_list (se_var 0))) (ss_one (ss_ret se_int)) ss_nil)
    (ss_one (ss_ret (se_if (st_val (se_isiP T.z_isinstance T.z_tuple (se_var 0))) se_int se_int)))))))
theorem ok__law_same {k : Nat} {Fr : Fn} {fa : Addr} {fd : FuncData} (F : L2.Fun K.K "_law_same" "_law_same" (top 49) fa fd) (T : Txt K) (H__law_sort : FnS P w K base k "_law_sort" 1 F__law_sort) (H__law_same : FnS P w K base k "_law_same" 2 Fr) : FnOk P w K.K K.mg base (L2N.CX P w) (k + 1) fa fd ["told", "due"] (spF K 2 (mkFn 4 (s__law_same Fr))) := by
  have S : FnScope ["told", "due", "k", "part"] ["told", "due"] (defScope (top 49)) := ⟨rfl, rfl, rfl, by decide +kernel, rfl, by decide +kernel, by decide +kernel⟩
  refine fn_ok (N := ["told", "due", "k", "part"]) (ps := ["told", "due"]) (n := 2) (k := k) (s := s__law_same Fr) F S rfl fun X W cdv A outer sh H hX cx hp => ?_
  subst hX
  exact (ss_cons (ss_if (st_cmp (sc_op (op_neD cx.rm.units) ds_ne (se_call H__law_sort cx.tk cx.rm (sa_cons (se_var 0) sa_nil)) (se_call H__law_sort cx.tk cx.rm (sa_cons (se_var 1) sa_nil)))) (ss_one (ss_ret se_bl)) ss_nil)
    (ss_cons (ss_if (SW.st (sw_and (st_cmp (sc_op op_gt ds_gt (se_call H__law_sort cx.tk cx.rm (sa_cons (se_var 0) sa_nil)) se_int)) (sw_and1 (st_cmp (sc_op op_lt ds_lt (se_call H__law_sort cx.tk cx.rm (sa_cons (se_var 0) sa_nil)) se_int))))) (ss_cons (ss_if (st_cmp (sc_op (op_neD cx.rm.units) ds_ne (se_bf call_len b_len T.z_len (se_var 0)) (se_bf call_len b_len T.z_len (se_var 1)))) (ss_one (ss_ret se_bl)) ss_nil)
    (ss_one (ss_ret (se_cmp (sc_op (op_eqD cx.rm.units) ds_eq (NEx.fz (ne_lcE (own := [("k", 2), ("part", 3)]) cx.calm cx.nd (si_enum T.z_enumerate (se_var 0)) (blkOk_by (by kernel_rfl)) (fun s1 H1 C1 cl1 fp1 => (tg_tup (CxOk.blk cx s1 H1 _ _ fp1).calm (tgs_cons 2 (CxOk.blk cx s1 H1 _ _ fp1).nd (tgs_cons 3 (CxOk.blk cx s1 H1 _ _ fp1).nd tgs_nil)))) (fun s1 H1 C1 cl1 fp1 => (sts_one (st_not (st_val (se_call H__law_same (CxOk.blk cx s1 H1 _ _ fp1).tk (CxOk.blk cx s1 H1 _ _ fp1).rm (sa_cons (se_var 3) (sa_cons (se_ix (se_var 1) (se_var 2)) sa_nil))))))) (fun s1 H1 C1 cl1 fp1 => (se_var 2)))) (NEx.fz (ne_lst sa_nil))))))) ss_nil)
    (ss_one (ss_ret (se_cmp (sc_op (op_eqD cx.rm.units) ds_eq (se_var 0) (se_var 1)))))))
theorem ok_law {fa cA T0 : Addr} {oc kV doc pm ct : Value} {od an : Option Addr} {osl : Array (Option Value)} (lk : K.K.lookup fa = some ⟨oc, od, .func (PySem.W.fnOf "law" "law" (defArgs (top 57)) (defBody (top 57)) (defScope (top 57)) .none kV doc pm an (.ref cA) ct), osl⟩) (hcd : PySem.W.codeIn K.K (.ref cA) "law" = true) (T : Txt K) (TR : TryS P w K base 9 nmOf) (TB : LamX.TabB base K.mg cA T0) (H__law_deck : FnS P w K base 1 "_law_deck" 2 F__law_deck) (H__law_text : FnS P w K base 2 "_law_text" 2 F__law_text) (H__law_facts : FnS P w K base 2 "_law_facts" 3 F__law_facts) (H__law_known : FnS P w K base 2 "_law_known" 3 F__law_known) (H__law_pick : FnS P w K base 1 "_law_pick" 2 F__law_pick) (H_together : FnK P w K base 9 "together" 4 F_together (Nil0.adr "together")) (H__law_same : FnS P w K base 5 "_law_same" 2 F__law_same) : FnOk P w K.K K.mg base (L2N.CX P w) 12 fa (PySem.W.fnOf "law" "law" (defArgs (top 57)) (defBody (top 57)) (defScope (top 57)) .none kV doc pm an (.ref cA) ct) ["script"] (spF K 1 (F_law T0)) := by
  have S : FnScope ["script", "cell", "deck", "one", "other", "hints", "known", "turn", "some", "most", "due", "odd", "line", "price", "own"] ["script"] (defScope (top 57)) := ⟨rfl, rfl, rfl, by decide +kernel, rfl, by decide +kernel, by decide +kernel⟩
  refine fn_okT (N := ["script", "cell", "deck", "one", "other", "hints", "known", "turn", "some", "most", "due", "odd", "line", "price", "own"]) (ps := ["script"]) (n := 1) (k := 11) (s := s_law T0) lk hcd S rfl fun X W A outer sh H hX cx hp => ?_
  subst hX
  exact (ss_cons (ss_for hp cx.calm (si_val (se_slice (se_bin op_addD ds_add (NEx.fz (ne_lst (sa_cons se_int sa_nil) (hl := Nat.le_of_ble_eq_true rfl))) (se_var 0)) so_none (so_some se_int))) (tg_name 1 cx.nd) (ss_cons (ss_asg (tg_name 2 cx.nd) (se_call (H__law_deck.mono (by decide)) cx.tk cx.rm (sa_cons (se_var 1) (sa_cons se_int sa_nil))))
    (ss_cons (by first
      | exact ss_par2 3 4 cx.calm cx.nd (sa_cons (se_call (H__law_text.mono (by decide)) cx.tk cx.rm (sa_cons (se_var 2) (sa_cons se_int sa_nil))) (sa_cons (se_call (H__law_text.mono (by decide)) cx.tk cx.rm (sa_cons (se_var 2) (sa_cons se_int sa_nil))) sa_nil)) (by rfl)
      | exact ss_parT (hw := by first | rfl | kernel_rfl) cx.calm (sa_cons (se_call (H__law_text.mono (by decide)) cx.tk cx.rm (sa_cons (se_var 2) (sa_cons se_int sa_nil))) (sa_cons (se_call (H__law_text.mono (by decide)) cx.tk cx.rm (sa_cons (se_var 2) (sa_cons se_int sa_nil))) sa_nil)) (tp_cons 3 cx.nd (tp_cons 4 cx.nd tp_nil)))
    (ss_cons (ss_asg (tg_name 5 cx.nd) (se_call (H__law_facts.mono (by decide)) cx.tk cx.rm (sa_cons (se_var 2) (sa_cons (se_var 3) (sa_cons (se_var 4) sa_nil)))))
    (ss_cons (ss_asg (tg_name 6 cx.nd) (se_call (H__law_known.mono (by decide)) cx.tk cx.rm (sa_cons (se_var 3) (sa_cons (se_var 4) (sa_cons (se_var 5) sa_nil)))))
    (ss_one (ss_for hp cx.calm (si_range1 T.z_range se_int) (tg_name 7 cx.nd) (ss_cons (ss_asg (tg_name 8 cx.nd) (se_slice (NEx.fz (ne_lcE (own := [("line", 12)]) cx.calm cx.nd (si_range1 T.z_range (se_bf call_len b_len T.z_len (se_var 3))) (blkOk_by (by kernel_rfl)) (fun s1 H1 C1 cl1 fp1 => (tg_name 12 (CxOk.blk cx s1 H1 _ _ fp1).nd)) (fun s1 H1 C1 cl1 fp1 => (sts_one (st_cmp (sc_op (op_eqD (CxOk.blk cx s1 H1 _ _ fp1).rm.units) ds_eq (se_call (H__law_pick.mono (by decide)) (CxOk.blk cx s1 H1 _ _ fp1).tk (CxOk.blk cx s1 H1 _ _ fp1).rm (sa_cons (se_var 2) (sa_cons se_int sa_nil))) se_int)))) (fun s1 H1 C1 cl1 fp1 => (se_var 12)))) so_none (so_some se_int)))
    (ss_cons (ss_asg (tg_name 9 cx.nd) (se_ix (NEx.fz (ne_lst (sa_cons (se_call (H__law_pick.mono (by decide)) cx.tk cx.rm (sa_cons (se_var 2) (sa_cons se_int sa_nil))) (sa_cons (se_call (H__law_pick.mono (by decide)) cx.tk cx.rm (sa_cons (se_var 2) (sa_cons se_int sa_nil))) (sa_cons se_int sa_nil))) (hl := Nat.le_of_ble_eq_true rfl))) (se_call (H__law_pick.mono (by decide)) cx.tk cx.rm (sa_cons (se_var 2) (sa_cons se_int sa_nil)))))
    (ss_one (ss_if (st_cmp (sc_op (op_neD cx.rm.units) ds_ne (se_var 8) (NEx.fz (ne_lst sa_nil (hl := Nat.le_of_ble_eq_true rfl))))) (ss_cons (ss_asg (tg_name 10 cx.nd) (se_srtSetT cx.calm cx.rm.units T.z_sorted T.z_set (NEx.fz (ne_lcE (own := [("price", 13), ("own", 14)]) cx.calm cx.nd (si_val (se_var 6)) (blkOk_by (by kernel_rfl)) (fun s2 H2 C2 cl2 fp2 => (tg_tup (CxOk.blk cx s2 H2 _ _ fp2).calm (tgs_cons 13 (CxOk.blk cx s2 H2 _ _ fp2).nd (tgs_cons 14 (CxOk.blk cx s2 H2 _ _ fp2).nd tgs_nil)))) (fun s2 H2 C2 cl2 fp2 => (sts_one (st_cmp (sc_op op_le ds_le (se_var 13) (se_var 9))))) (fun s2 H2 C2 cl2 fp2 => (se_bt call_tuple_of b_tup T.z_tuple (NEx.fz (ne_lcE (own := [("line", 12)]) (CxOk.blk cx s2 H2 _ _ fp2).calm (CxOk.blk cx s2 H2 _ _ fp2).nd (si_val (se_var 8)) (blkOk_by (by kernel_rfl)) (fun s3 H3 C3 cl3 fp3 => (tg_name 12 (CxOk.blk (CxOk.blk cx s2 H2 _ _ fp2) s3 H3 _ _ fp3).nd)) (fun s3 H3 C3 cl3 fp3 => sts_nil) (fun s3 H3 C3 cl3 fp3 => (se_ix (se_var 14) (se_var 12)))))))))))
    (ss_one (ss_if (st_not (st_val (se_call (H__law_same.mono (by decide)) cx.tk cx.rm (sa_cons (se_callK (H_together.mono (by decide)) cx.tk cx.rm (sa_cons (se_var 3) (sa_cons (se_var 4) (sa_cons (se_bt call_tuple_of b_tup T.z_tuple (se_var 8)) (sa_cons (se_var 9) sa_nil)))) (se_var 5)) (sa_cons (se_var 10) sa_nil))))) (ss_one (ss_ret se_bl)) ss_nil))) ss_nil)))))))))))
    (ss_cons (ss_for hp cx.calm (si_val (se_tup (sa_cons se_non (sa_cons (se_tup sa_nil (hl := Nat.le_of_ble_eq_true rfl)) (sa_cons (NEx.fz (ne_lst (sa_cons se_int sa_nil) (hl := Nat.le_of_ble_eq_true rfl))) (sa_cons (se_tup (sa_cons se_int (sa_cons se_int sa_nil)) (hl := Nat.le_of_ble_eq_true rfl)) (sa_cons (se_tup (sa_cons se_int (sa_cons se_int sa_nil)) (hl := Nat.le_of_ble_eq_true rfl)) (sa_cons (se_tup (sa_cons se_int (sa_cons se_int sa_nil)) (hl := Nat.le_of_ble_eq_true rfl)) (sa_cons (se_tup (sa_cons (se_un un_neg ds_neg se_int) sa_nil) (hl := Nat.le_of_ble_eq_true rfl)) (sa_cons (se_tup (sa_cons se_int (sa_cons se_int (sa_cons se_int (sa_cons se_int sa_nil)))) (hl := Nat.le_of_ble_eq_true rfl)) (sa_cons (se_tup (sa_cons se_bl sa_nil) (hl := Nat.le_of_ble_eq_true rfl)) (sa_cons se_int sa_nil)))))))))) (hl := Nat.le_of_ble_eq_true rfl))) (tg_name 11 cx.nd) (ss_one (ss_if (st_cmp (sc_op (op_neD cx.rm.units) ds_ne (se_tryC TR (cx.rm.mono (by decide)) cx.nd TB (fun Y4 E4 hY4 cy4 => by
      obtain ⟨_, _, _, _, _, _, rfl⟩ := hY4
      exact (se_callD (xn := "together") (H_together.mono (by decide)) cy4.tk cy4.rm (sa_cons (se_str ['a', 'b', 'c', 'd']) (sa_cons (se_str ['b']) (sa_cons (se_var 11) (sa_cons se_non sa_nil))))))) (se_str k_Lines_))) (ss_one (ss_ret se_bl)) ss_nil)))
    (ss_one (ss_ret (se_and (se_cmp (sc_op (op_eqD cx.rm.units) ds_eq (se_callD (xn := "together") (H_together.mono (by decide)) cx.tk cx.rm (sa_cons (se_str ['a', 'b']) (sa_cons (se_str ['b']) (sa_cons (se_tup (sa_cons se_int (sa_cons se_int sa_nil)) (hl := Nat.le_of_ble_eq_true rfl)) (sa_cons se_int sa_nil))))) (NEx.fz (ne_lst (sa_cons (se_tup (sa_cons (se_un un_neg ds_neg se_int) (sa_cons se_int sa_nil)) (hl := Nat.le_of_ble_eq_true rfl)) (sa_cons (se_tup (sa_cons se_int (sa_cons (se_un un_neg ds_neg se_int) sa_nil)) (hl := Nat.le_of_ble_eq_true rfl)) sa_nil)) (hl := Nat.le_of_ble_eq_true rfl))))) (se_one (se_cmp (sc_op (op_eqD cx.rm.units) ds_eq (se_callD (xn := "together") (H_together.mono (by decide)) cx.tk cx.rm (sa_cons (se_str ['a', 'b']) (sa_cons (se_str ['b', 'a']) (sa_cons (se_tup (sa_cons se_int (sa_cons se_int sa_nil)) (hl := Nat.le_of_ble_eq_true rfl)) (sa_cons se_int sa_nil))))) (NEx.fz (ne_lst sa_nil (hl := Nat.le_of_ble_eq_true rfl)))))))))))
end
/-! what the head has written -/
theorem all_mk {l : PySem.W.OpenLaw} {T0 cA : Addr} {w : World} {K : PySem.W.Frag} {h : Heap} {mg : Str → Option Value} {fa f0 f1 f2 f3 f4 f5 f6 f7 f8 f9 f10 f11 f12 f13 f14 f15 f16 f17 f18 f19 f20 f21 f22 f23 f24 f25 f26 f27 f28 f29 f30 : Addr} {kD0 A0 g_Steps : Addr} (X : K.In h) (G : h.Ns mainGlobals mg) (hfa : mg "law" = some (.ref fa))
    {od0 an0 od1 an1 od2 an2 od3 an3 od4 an4 od5 an5 od6 an6 od7 an7 od8 an8 od9 an9 od10 an10 od11 an11 od12 an12 od13 an13 od14 an14 od15 an15 od16 an16 od17 an17 od18 an18 od19 an19 od20 an20 od21 an21 od22 an22 od23 an23 od24 an24 od25 an25 od26 an26 od27 an27 od28 an28 od29 an29 od30 an30 : Option Addr} {sl0 sl1 sl2 sl3 sl4 sl5 sl6 sl7 sl8 sl9 sl10 sl11 sl12 sl13 sl14 sl15 sl16 sl17 sl18 sl19 sl20 sl21 sl22 sl23 sl24 sl25 sl26 sl27 sl28 sl29 sl30 : Array (Option Value)} {oc0 kV0 dc0 pm0 cd0 ct0 oc1 kV1 dc1 pm1 cd1 ct1 oc2 kV2 dc2 pm2 cd2 ct2 oc3 kV3 dc3 pm3 cd3 ct3 oc4 kV4 dc4 pm4 cd4 ct4 oc5 kV5 dc5 pm5 cd5 ct5 oc6 kV6 dc6 pm6 cd6 ct6 oc7 kV7 dc7 pm7 cd7 ct7 oc8 kV8 dc8 pm8 cd8 ct8 oc9 kV9 dc9 pm9 cd9 ct9 oc10 kV10 dc10 pm10 cd10 ct10 oc11 kV11 dc11 pm11 cd11 ct11 oc12 kV12 dc12 pm12 cd12 ct12 oc13 kV13 dc13 pm13 cd13 ct13 oc14 kV14 dc14 pm14 cd14 ct14 oc15 kV15 dc15 pm15 cd15 ct15 oc16 kV16 dc16 pm16 cd16 ct16 oc17 kV17 dc17 pm17 cd17 ct17 oc18 kV18 dc18 pm18 cd18 ct18 oc19 kV19 dc19 pm19 cd19 ct19 oc20 kV20 dc20 pm20 cd20 ct20 oc21 kV21 dc21 pm21 cd21 ct21 oc22 kV22 dc22 pm22 cd22 ct22 oc23 kV23 dc23 pm23 cd23 ct23 oc24 kV24 dc24 pm24 cd24 ct24 oc25 kV25 dc25 pm25 cd25 ct25 oc26 kV26 dc26 pm26 cd26 ct26 oc27  dc27 pm27 cd27 ct27 oc28 kV28 dc28 pm28 cd28 ct28 oc29 kV29 dc29 pm29 cd29 ct29 oc30 kV30 dc30 pm30 ct30 : Value}
    (a0 : PySem.W.nsIn K mainGlobals "_law_deck" = some (some (.ref f0))) (l0 : K.lookup f0 = some ⟨oc0, od0, .func (PySem.W.fnOf "_law_deck" "_law_deck" (defArgs (top 46)) (defBody (top 46)) (defScope (top 46)) .none kV0 dc0 pm0 an0 cd0 ct0), sl0⟩) (q0 : PySem.W.codeIn K cd0 "_law_deck" = true) (k0 : PySem.W.keepIn K (.ref f0) = true)
    (a1 : PySem.W.nsIn K mainGlobals "_law_pick" = some (some (.ref f1))) (l1 : K.lookup f1 = some ⟨oc1, od1, .func (PySem.W.fnOf "_law_pick" "_law_pick" (defArgs (top 47)) (defBody (top 47)) (defScope (top 47)) .none kV1 dc1 pm1 an1 cd1 ct1), sl1⟩) (q1 : PySem.W.codeIn K cd1 "_law_pick" = true) (k1 : PySem.W.keepIn K (.ref f1) = true)
    (a2 : PySem.W.nsIn K mainGlobals "_law_facts" = some (some (.ref f2))) (l2 : K.lookup f2 = some ⟨oc2, od2, .func (PySem.W.fnOf "_law_facts" "_law_facts" (defArgs (top 56)) (defBody (top 56)) (defScope (top 56)) .none kV2 dc2 pm2 an2 cd2 ct2), sl2⟩) (q2 : PySem.W.codeIn K cd2 "_law_facts" = true) (k2 : PySem.W.keepIn K (.ref f2) = true)
    (a3 : PySem.W.nsIn K mainGlobals "_law_pairings" = some (some (.ref f3))) (l3 : K.lookup f3 = some ⟨oc3, od3, .func (PySem.W.fnOf "_law_pairings" "_law_pairings" (defArgs (top 53)) (defBody (top 53)) (defScope (top 53)) .none kV3 dc3 pm3 an3 cd3 ct3), sl3⟩) (q3 : PySem.W.codeIn K cd3 "_law_pairings" = true) (k3 : PySem.W.keepIn K (.ref f3) = true)
    (a4 : PySem.W.nsIn K mainGlobals "_law_price" = some (some (.ref f4))) (l4 : K.lookup f4 = some ⟨oc4, od4, .func (PySem.W.fnOf "_law_price" "_law_price" (defArgs (top 54)) (defBody (top 54)) (defScope (top 54)) .none kV4 dc4 pm4 an4 cd4 ct4), sl4⟩) (q4 : PySem.W.codeIn K cd4 "_law_price" = true) (k4 : PySem.W.keepIn K (.ref f4) = true)
    (a5 : PySem.W.nsIn K mainGlobals "_law_known" = some (some (.ref f5))) (l5 : K.lookup f5 = some ⟨oc5, od5, .func (PySem.W.fnOf "_law_known" "_law_known" (defArgs (top 55)) (defBody (top 55)) (defScope (top 55)) .none kV5 dc5 pm5 an5 cd5 ct5), sl5⟩) (q5 : PySem.W.codeIn K cd5 "_law_known" = true) (k5 : PySem.W.keepIn K (.ref f5) = true)
    (a6 : PySem.W.nsIn K mainGlobals "_law_text" = some (some (.ref f6))) (l6 : K.lookup f6 = some ⟨oc6, od6, .func (PySem.W.fnOf "_law_text" "_law_text" (defArgs (top 52)) (defBody (top 52)) (defScope (top 52)) .none kV6 dc6 pm6 an6 cd6 ct6), sl6⟩) (q6 : PySem.W.codeIn K cd6 "_law_text" = true) (k6 : PySem.W.keepIn K (.ref f6) = true)
    (a7 : PySem.W.nsIn K mainGlobals "_law_name_of" = some (some (.ref f7))) (l7 : K.lookup f7 = some ⟨oc7, od7, .func (PySem.W.fnOf "_law_name_of" "_law_name_of" (defArgs (top 50)) (defBody (top 50)) (defScope (top 50)) .none kV7 dc7 pm7 an7 cd7 ct7), sl7⟩) (q7 : PySem.W.codeIn K cd7 "_law_name_of" = true) (k7 : PySem.W.keepIn K (.ref f7) = true)
    (a8 : PySem.W.nsIn K mainGlobals "_law_try" = some (some (.ref f8))) (l8 : K.lookup f8 = some ⟨oc8, od8, .func (PySem.W.fnOf "_law_try" "_law_try" (defArgs (top 51)) (defBody (top 51)) (defScope (top 51)) .none kV8 dc8 pm8 an8 cd8 ct8), sl8⟩) (q8 : PySem.W.codeIn K cd8 "_law_try" = true) (k8 : PySem.W.keepIn K (.ref f8) = true)
    (a9 : PySem.W.nsIn K mainGlobals "is_text_of" = some (some (.ref f9))) (l9 : K.lookup f9 = some ⟨oc9, od9, .func (PySem.W.fnOf "is_text_of" "is_text_of" (defArgs (top 27)) (defBody (top 27)) (defScope (top 27)) .none kV9 dc9 pm9 an9 cd9 ct9), sl9⟩) (q9 : PySem.W.codeIn K cd9 "is_text_of" = true) (k9 : PySem.W.keepIn K (.ref f9) = true)
    (a10 : PySem.W.nsIn K mainGlobals "need_text" = some (some (.ref f10))) (l10 : K.lookup f10 = some ⟨oc10, od10, .func (PySem.W.fnOf "need_text" "need_text" (defArgs (top 28)) (defBody (top 28)) (defScope (top 28)) .none kV10 dc10 pm10 an10 cd10 ct10), sl10⟩) (q10 : PySem.W.codeIn K cd10 "need_text" = true) (k10 : PySem.W.keepIn K (.ref f10) = true)
    (a11 : PySem.W.nsIn K mainGlobals "need_pair" = some (some (.ref f11))) (l11 : K.lookup f11 = some ⟨oc11, od11, .func (PySem.W.fnOf "need_pair" "need_pair" (defArgs (top 32)) (defBody (top 32)) (defScope (top 32)) .none kV11 dc11 pm11 an11 cd11 ct11), sl11⟩) (q11 : PySem.W.codeIn K cd11 "need_pair" = true) (k11 : PySem.W.keepIn K (.ref f11) = true)
    (a12 : PySem.W.nsIn K mainGlobals "is_from" = some (some (.ref f12))) (l12 : K.lookup f12 = some ⟨oc12, od12, .func (PySem.W.fnOf "is_from" "is_from" (defArgs (top 26)) (defBody (top 26)) (defScope (top 26)) .none kV12 dc12 pm12 an12 cd12 ct12), sl12⟩) (q12 : PySem.W.codeIn K cd12 "is_from" = true) (k12 : PySem.W.keepIn K (.ref f12) = true)
    (a13 : PySem.W.nsIn K mainGlobals "need_number" = some (some (.ref f13))) (l13 : K.lookup f13 = some ⟨oc13, od13, .func (PySem.W.fnOf "need_number" "need_number" (defArgs (top 29)) (defBody (top 29)) (defScope (top 29)) .none kV13 dc13 pm13 an13 cd13 ct13), sl13⟩) (q13 : PySem.W.codeIn K cd13 "need_number" = true) (k13 : PySem.W.keepIn K (.ref f13) = true)
    (a14 : PySem.W.nsIn K mainGlobals "need_facts" = some (some (.ref f14))) (l14 : K.lookup f14 = some ⟨oc14, od14, .func (PySem.W.fnOf "need_facts" "need_facts" (defArgs (top 31)) (defBody (top 31)) (defScope (top 31)) .none kV14 dc14 pm14 an14 cd14 ct14), sl14⟩) (q14 : PySem.W.codeIn K cd14 "need_facts" = true) (k14 : PySem.W.keepIn K (.ref f14) = true)
    (a15 : PySem.W.findIn K (.ref g_Steps) "__init__" = some (some (.ref f15))) (j15 : PySem.W.isFn K (.ref f15) = true) (l15 : K.lookup f15 = some ⟨oc15, od15, .func (PySem.W.fnOf "__init__" "Steps.__init__" (defArgs (mth 35 0)) (defBody (mth 35 0)) (defScope (mth 35 0)) .none kV15 dc15 pm15 an15 cd15 ct15), sl15⟩) (q15 : PySem.W.codeIn K cd15 "Steps.__init__" = true) (k15 : PySem.W.keepIn K (.ref f15) = true)
    (a16 : PySem.W.nsIn K mainGlobals "least_of" = some (some (.ref f16))) (l16 : K.lookup f16 = some ⟨oc16, od16, .func (PySem.W.fnOf "least_of" "least_of" (defArgs (top 34)) (defBody (top 34)) (defScope (top 34)) .none kV16 dc16 pm16 an16 cd16 ct16), sl16⟩) (q16 : PySem.W.codeIn K cd16 "least_of" = true) (k16 : PySem.W.keepIn K (.ref f16) = true)
    (a17 : PySem.W.nsIn K mainGlobals "sum_of" = some (some (.ref f17))) (l17 : K.lookup f17 = some ⟨oc17, od17, .func (PySem.W.fnOf "sum_of" "sum_of" (defArgs (top 33)) (defBody (top 33)) (defScope (top 33)) .none kV17 dc17 pm17 an17 cd17 ct17), sl17⟩) (q17 : PySem.W.codeIn K cd17 "sum_of" = true) (k17 : PySem.W.keepIn K (.ref f17) = true)
    (a18 : PySem.W.findIn K (.ref g_Steps) "goes" = some (some (.ref f18))) (j18 : PySem.W.isFn K (.ref f18) = true) (l18 : K.lookup f18 = some ⟨oc18, od18, .func (PySem.W.fnOf "goes" "Steps.goes" (defArgs (mth 35 2)) (defBody (mth 35 2)) (defScope (mth 35 2)) .none kV18 dc18 pm18 an18 cd18 ct18), sl18⟩) (q18 : PySem.W.codeIn K cd18 "Steps.goes" = true) (k18 : PySem.W.keepIn K (.ref f18) = true)
    (a19 : PySem.W.findIn K (.ref g_Steps) "stays" = some (some (.ref f19))) (j19 : PySem.W.isFn K (.ref f19) = true) (l19 : K.lookup f19 = some ⟨oc19, od19, .func (PySem.W.fnOf "stays" "Steps.stays" (defArgs (mth 35 1)) (defBody (mth 35 1)) (defScope (mth 35 1)) .none kV19 dc19 pm19 an19 cd19 ct19), sl19⟩) (q19 : PySem.W.codeIn K cd19 "Steps.stays" = true) (k19 : PySem.W.keepIn K (.ref f19) = true)
    (a20 : PySem.W.nsIn K mainGlobals "ahead_of" = some (some (.ref f20))) (l20 : K.lookup f20 = some ⟨oc20, od20, .func (PySem.W.fnOf "ahead_of" "ahead_of" (defArgs (top 36)) (defBody (top 36)) (defScope (top 36)) .none kV20 dc20 pm20 an20 cd20 ct20), sl20⟩) (q20 : PySem.W.codeIn K cd20 "ahead_of" = true) (k20 : PySem.W.keepIn K (.ref f20) = true)
    (a21 : PySem.W.nsIn K mainGlobals "behind_of" = some (some (.ref f21))) (l21 : K.lookup f21 = some ⟨oc21, od21, .func (PySem.W.fnOf "behind_of" "behind_of" (defArgs (top 37)) (defBody (top 37)) (defScope (top 37)) .none kV21 dc21 pm21 an21 cd21 ct21), sl21⟩) (q21 : PySem.W.codeIn K cd21 "behind_of" = true) (k21 : PySem.W.keepIn K (.ref f21) = true)
    (a22 : PySem.W.nsIn K mainGlobals "joined" = some (some (.ref f22))) (l22 : K.lookup f22 = some ⟨oc22, od22, .func (PySem.W.fnOf "joined" "joined" (defArgs (top 38)) (defBody (top 38)) (defScope (top 38)) .none kV22 dc22 pm22 an22 cd22 ct22), sl22⟩) (q22 : PySem.W.codeIn K cd22 "joined" = true) (k22 : PySem.W.keepIn K (.ref f22) = true)
    (a23 : PySem.W.nsIn K mainGlobals "costs_with" = some (some (.ref f23))) (l23 : K.lookup f23 = some ⟨oc23, od23, .func (PySem.W.fnOf "costs_with" "costs_with" (defArgs (top 39)) (defBody (top 39)) (defScope (top 39)) .none kV23 dc23 pm23 an23 cd23 ct23), sl23⟩) (q23 : PySem.W.codeIn K cd23 "costs_with" = true) (k23 : PySem.W.keepIn K (.ref f23) = true)
    (a24 : PySem.W.nsIn K mainGlobals "fates_with" = some (some (.ref f24))) (l24 : K.lookup f24 = some ⟨oc24, od24, .func (PySem.W.fnOf "fates_with" "fates_with" (defArgs (top 40)) (defBody (top 40)) (defScope (top 40)) .none kV24 dc24 pm24 an24 cd24 ct24), sl24⟩) (q24 : PySem.W.codeIn K cd24 "fates_with" = true) (k24 : PySem.W.keepIn K (.ref f24) = true)
    (a25 : PySem.W.nsIn K mainGlobals "more_facts" = some (some (.ref f25))) (l25 : K.lookup f25 = some ⟨oc25, od25, .func (PySem.W.fnOf "more_facts" "more_facts" (defArgs (top 42)) (defBody (top 42)) (defScope (top 42)) .none kV25 dc25 pm25 an25 cd25 ct25), sl25⟩) (q25 : PySem.W.codeIn K cd25 "more_facts" = true) (k25 : PySem.W.keepIn K (.ref f25) = true)
    (a26 : PySem.W.nsIn K mainGlobals "joint_fates" = some (some (.ref f26))) (l26 : K.lookup f26 = some ⟨oc26, od26, .func (PySem.W.fnOf "joint_fates" "joint_fates" (defArgs (top 43)) (defBody (top 43)) (defScope (top 43)) .none kV26 dc26 pm26 an26 cd26 ct26), sl26⟩) (q26 : PySem.W.codeIn K cd26 "joint_fates" = true) (k26 : PySem.W.keepIn K (.ref f26) = true)
    (a27 : PySem.W.nsIn K mainGlobals "together" = some (some (.ref f27))) (l27 : K.lookup f27 = some ⟨oc27, od27, .func (PySem.W.fnOf "together" "together" (defArgs (top 44)) (defBody (top 44)) (defScope (top 44)) .none (.ref kD0) dc27 pm27 an27 cd27 ct27), sl27⟩) (q27 : PySem.W.codeIn K cd27 "together" = true) (k27 : PySem.W.keepIn K (.ref f27) = true)
    (a28 : PySem.W.nsIn K mainGlobals "_law_sort" = some (some (.ref f28))) (l28 : K.lookup f28 = some ⟨oc28, od28, .func (PySem.W.fnOf "_law_sort" "_law_sort" (defArgs (top 48)) (defBody (top 48)) (defScope (top 48)) .none kV28 dc28 pm28 an28 cd28 ct28), sl28⟩) (q28 : PySem.W.codeIn K cd28 "_law_sort" = true) (k28 : PySem.W.keepIn K (.ref f28) = true)
    (a29 : PySem.W.nsIn K mainGlobals "_law_same" = some (some (.ref f29))) (l29 : K.lookup f29 = some ⟨oc29, od29, .func (PySem.W.fnOf "_law_same" "_law_same" (defArgs (top 49)) (defBody (top 49)) (defScope (top 49)) .none kV29 dc29 pm29 an29 cd29 ct29), sl29⟩) (q29 : PySem.W.codeIn K cd29 "_law_same" = true) (k29 : PySem.W.keepIn K (.ref f29) = true)
    (a30 : PySem.W.nsIn K mainGlobals "law" = some (some (.ref f30))) (l30 : K.lookup f30 = some ⟨oc30, od30, .func (PySem.W.fnOf "law" "law" (defArgs (top 57)) (defBody (top 57)) (defScope (top 57)) .none kV30 dc30 pm30 an30 (.ref cA) ct30), sl30⟩) (q30 : PySem.W.codeIn K (.ref cA) "law" = true) (k30 : PySem.W.keepIn K (.ref f30) = true)
    {nn0 : Nat} {ns0 : Array (Option Value)} (na0 : PySem.W.nsIn K kD0 "facts" = some (some (.ref A0))) (nb0 : K.lookup A0 = some ⟨.type "tuple", none, .seq #[] nn0, ns0⟩)
    (yc : PySem.W.nsIn K mainGlobals "Steps" = some (some (.ref g_Steps))) (cl1 : PySem.W.plainGet K g_Steps Str.empty = true) (cl2 : PySem.W.hasDictIn K g_Steps = true) (cl3 : PySem.W.plainOver K g_Steps = true) (cl4 : PySem.W.findIn K (.ref g_Steps) "__setattr__" = some (some (.builtin "object.__setattr__"))) (mk1 : PySem.W.makesIn K g_Steps = true) (mk4 : PySem.W.keepIn K (.ref g_Steps) = true)
    (at_one : PySem.W.findIn K (.ref g_Steps) "one" = some none)
    (at_other : PySem.W.findIn K (.ref g_Steps) "other" = some none)
    (at_told : PySem.W.findIn K (.ref g_Steps) "told" = some none)
    (z_all : PySem.W.nsIn K mainGlobals "all" = some none)
    (z_any : PySem.W.nsIn K mainGlobals "any" = some none)
    (z_bool : PySem.W.nsIn K mainGlobals "bool" = some none)
    (z_dict : PySem.W.nsIn K mainGlobals "dict" = some none)
    (z_enumerate : PySem.W.nsIn K mainGlobals "enumerate" = some none)
    (z_int : PySem.W.nsIn K mainGlobals "int" = some none)
    (z_isinstance : PySem.W.nsIn K mainGlobals "isinstance" = some none)
    (z_len : PySem.W.nsIn K mainGlobals "len" = some none)
    (z_list : PySem.W.nsIn K mainGlobals "list" = some none)
    (z_max : PySem.W.nsIn K mainGlobals "max" = some none)
    (z_min : PySem.W.nsIn K mainGlobals "min" = some none)
    (z_range : PySem.W.nsIn K mainGlobals "range" = some none)
    (z_set : PySem.W.nsIn K mainGlobals "set" = some none)
    (z_sorted : PySem.W.nsIn K mainGlobals "sorted" = some none)
    (z_str : PySem.W.nsIn K mainGlobals "str" = some none)
    (z_tuple : PySem.W.nsIn K mainGlobals "tuple" = some none)
    (z_zip : PySem.W.nsIn K mainGlobals "zip" = some none)
    {t0 : Tok} (c0 : PySem.W.nsIn K mainGlobals "MOST_COST" = some (some (.int 48 t0)))
    {t1 : Tok} (c1 : PySem.W.nsIn K mainGlobals "MOST_LINES" = some (some (.int 24 t1)))
    {t2 : Tok} (c2 : PySem.W.nsIn K mainGlobals "SIGNS" = some (some (.str "abcdefghijklmnopqrstuvwxyz" t2)))
    {g_AnchorError g_InvalidText g_InvalidRow g_InvalidLine g_InvalidPlace g_InvalidNumber g_InvalidFacts g_InvalidLines g_InvalidTexts g_InvalidRule g_InvalidAnchor g_InvalidSeen g_InvalidName g_InvalidFiles g_NoFile g_NoRemark g_WrongState g_NothingToUndo g_TooMany g_InvalidForm g_InvalidWay : Addr}
    (y_AnchorError : PySem.W.nsIn K mainGlobals "AnchorError" = some (some (.ref g_AnchorError)))
    (y_InvalidText : PySem.W.nsIn K mainGlobals "InvalidText" = some (some (.ref g_InvalidText)))
    (y_InvalidRow : PySem.W.nsIn K mainGlobals "InvalidRow" = some (some (.ref g_InvalidRow)))
    (y_InvalidLine : PySem.W.nsIn K mainGlobals "InvalidLine" = some (some (.ref g_InvalidLine)))
    (y_InvalidPlace : PySem.W.nsIn K mainGlobals "InvalidPlace" = some (some (.ref g_InvalidPlace)))
    (y_InvalidNumber : PySem.W.nsIn K mainGlobals "InvalidNumber" = some (some (.ref g_InvalidNumber)))
    (y_InvalidFacts : PySem.W.nsIn K mainGlobals "InvalidFacts" = some (some (.ref g_InvalidFacts)))
    (y_InvalidLines : PySem.W.nsIn K mainGlobals "InvalidLines" = some (some (.ref g_InvalidLines)))
    (y_InvalidTexts : PySem.W.nsIn K mainGlobals "InvalidTexts" = some (some (.ref g_InvalidTexts)))
    (y_InvalidRule : PySem.W.nsIn K mainGlobals "InvalidRule" = some (some (.ref g_InvalidRule)))
    (y_InvalidAnchor : PySem.W.nsIn K mainGlobals "InvalidAnchor" = some (some (.ref g_InvalidAnchor)))
    (y_InvalidSeen : PySem.W.nsIn K mainGlobals "InvalidSeen" = some (some (.ref g_InvalidSeen)))
    (y_InvalidName : PySem.W.nsIn K mainGlobals "InvalidName" = some (some (.ref g_InvalidName)))
    (y_InvalidFiles : PySem.W.nsIn K mainGlobals "InvalidFiles" = some (some (.ref g_InvalidFiles)))
    (y_NoFile : PySem.W.nsIn K mainGlobals "NoFile" = some (some (.ref g_NoFile)))
    (y_NoRemark : PySem.W.nsIn K mainGlobals "NoRemark" = some (some (.ref g_NoRemark)))
    (y_WrongState : PySem.W.nsIn K mainGlobals "WrongState" = some (some (.ref g_WrongState)))
    (y_NothingToUndo : PySem.W.nsIn K mainGlobals "NothingToUndo" = some (some (.ref g_NothingToUndo)))
    (y_TooMany : PySem.W.nsIn K mainGlobals "TooMany" = some (some (.ref g_TooMany)))
    (y_InvalidForm : PySem.W.nsIn K mainGlobals "InvalidForm" = some (some (.ref g_InvalidForm)))
    (y_InvalidWay : PySem.W.nsIn K mainGlobals "InvalidWay" = some (some (.ref g_InvalidWay)))
    (z_ValueError : PySem.W.nsIn K mainGlobals "ValueError" = some none)
    (o1 : PySem.W.specialIn K (.builtin "object.__class__") "__get__" = some (some (.builtin "getset_descriptor.__get__"))) (o2 : PySem.W.takesIn K (.builtin "object.__class__") = some true)
    (t0 : PySem.W.codeHdIn K cA T0 = true) (t1 : K.lookup T0 = none)
    (e0_InvalidLines : PySem.W.excIn K g_InvalidLines [.type "ValueError", .type "Exception", .type "BaseException", .type "object"] "ValueError.__new__" = true) (e1_InvalidLines : PySem.W.keepIn K (.ref g_InvalidLines) = true) (e2_InvalidLines : PySem.W.subIn K (.ref g_InvalidLines) (.type "BaseException") = some true) (e3_InvalidLines : PySem.W.typeIn K (.ref g_InvalidLines) = some (.type "type"))
    (e4_InvalidLines : PySem.W.findIn K (.ref g_InvalidLines) "__getattribute__" = some (some (.builtin "BaseException.__getattribute__"))) (e5_InvalidLines : PySem.W.findIn K (.ref g_InvalidLines) "__getattr__" = some none) (e6_InvalidLines : PySem.W.hasDictIn K g_InvalidLines = true) (e7_InvalidLines : PySem.W.findIn K (.ref g_InvalidLines) "__class__" = some (some (.builtin "object.__class__"))) (e8_InvalidLines : PySem.W.mroIn K g_InvalidLines (.type "object") = some true) (e9_InvalidLines : PySem.W.exmOne K (.ref g_InvalidLines) (.ref g_AnchorError) = some true)
    (i_InvalidLines_InvalidText : PySem.W.kitOne K (.ref g_InvalidLines) (.ref g_InvalidText) = some false)
    (i_InvalidLines_InvalidRow : PySem.W.kitOne K (.ref g_InvalidLines) (.ref g_InvalidRow) = some false)
    (i_InvalidLines_InvalidLine : PySem.W.kitOne K (.ref g_InvalidLines) (.ref g_InvalidLine) = some false)
    (i_InvalidLines_InvalidPlace : PySem.W.kitOne K (.ref g_InvalidLines) (.ref g_InvalidPlace) = some false)
    (i_InvalidLines_InvalidNumber : PySem.W.kitOne K (.ref g_InvalidLines) (.ref g_InvalidNumber) = some false)
    (i_InvalidLines_InvalidFacts : PySem.W.kitOne K (.ref g_InvalidLines) (.ref g_InvalidFacts) = some false)
    (i_InvalidLines_InvalidLines : PySem.W.kitOne K (.ref g_InvalidLines) (.ref g_InvalidLines) = some true)
    (i_InvalidLines_InvalidTexts : PySem.W.kitOne K (.ref g_InvalidLines) (.ref g_InvalidTexts) = some false)
    (i_InvalidLines_InvalidRule : PySem.W.kitOne K (.ref g_InvalidLines) (.ref g_InvalidRule) = some false)
    (i_InvalidLines_InvalidAnchor : PySem.W.kitOne K (.ref g_InvalidLines) (.ref g_InvalidAnchor) = some false)
    (i_InvalidLines_InvalidSeen : PySem.W.kitOne K (.ref g_InvalidLines) (.ref g_InvalidSeen) = some false)
    (i_InvalidLines_InvalidName : PySem.W.kitOne K (.ref g_InvalidLines) (.ref g_InvalidName) = some false)
    (i_InvalidLines_InvalidFiles : PySem.W.kitOne K (.ref g_InvalidLines) (.ref g_InvalidFiles) = some false)
    (i_InvalidLines_NoFile : PySem.W.kitOne K (.ref g_InvalidLines) (.ref g_NoFile) = some false)
    (i_InvalidLines_NoRemark : PySem.W.kitOne K (.ref g_InvalidLines) (.ref g_NoRemark) = some false)
    (i_InvalidLines_WrongState : PySem.W.kitOne K (.ref g_InvalidLines) (.ref g_WrongState) = some false)
    (i_InvalidLines_NothingToUndo : PySem.W.kitOne K (.ref g_InvalidLines) (.ref g_NothingToUndo) = some false)
    (i_InvalidLines_TooMany : PySem.W.kitOne K (.ref g_InvalidLines) (.ref g_TooMany) = some false)
    (i_InvalidLines_InvalidForm : PySem.W.kitOne K (.ref g_InvalidLines) (.ref g_InvalidForm) = some false)
    (i_InvalidLines_InvalidWay : PySem.W.kitOne K (.ref g_InvalidLines) (.ref g_InvalidWay) = some false)
    (i_InvalidLines_ValueError : PySem.W.kitOne K (.ref g_InvalidLines) (.type "ValueError") = some true) :
    ∃ (I : Nil0) (c : Addr) (fd : FuncData), PySem.W.codeHdIn K c T0 = true ∧ K.lookup T0 = none ∧ (∀ (s : Shared) (v : Value), BindsTo s fd ⟨[v], []⟩ [("script", v)]) ∧ ∀ base : Heap, K.In base → base.Ns mainGlobals mg → LamX.TabB base mg c T0 → FnOk l.prog w K mg base (L2N.CX l.prog w) 12 fa fd ["script"] (spF ⟨K, mg⟩ 1 (F_law T0)) := by
  have e := hfa.symm.trans (PySem.W.mg_of X G a30)
  cases e
  have x_InvalidLines : ExcF ⟨K, mg⟩ "InvalidLines" g_InvalidLines := ⟨PySem.W.mg_of X G y_InvalidLines, e0_InvalidLines, e1_InvalidLines, e2_InvalidLines, e3_InvalidLines⟩
  letI : Nil0 := nilI A0
  have hcl : Cls K g_Steps := ⟨cl1, cl2, cl3, cl4⟩
  have T : Txt ⟨K, mg⟩ := ⟨nilI_ok ⟨_, _, nb0⟩, ⟨g_Steps, PySem.W.mg_of X G yc, hcl, at_one⟩, ⟨g_Steps, PySem.W.mg_of X G yc, hcl, at_other⟩, ⟨g_Steps, PySem.W.mg_of X G yc, hcl, at_told⟩, PySem.W.mg_none_of X G z_all, PySem.W.mg_none_of X G z_any, PySem.W.mg_none_of X G z_bool, PySem.W.mg_none_of X G z_dict, PySem.W.mg_none_of X G z_enumerate, PySem.W.mg_none_of X G z_int, PySem.W.mg_none_of X G z_isinstance, PySem.W.mg_none_of X G z_len, PySem.W.mg_none_of X G z_list, PySem.W.mg_none_of X G z_max, PySem.W.mg_none_of X G z_min, PySem.W.mg_none_of X G z_range, PySem.W.mg_none_of X G z_set, PySem.W.mg_none_of X G z_sorted, PySem.W.mg_none_of X G z_str, PySem.W.mg_none_of X G z_tuple, PySem.W.mg_none_of X G z_zip, globC_int (PySem.W.mg_of X G c0), globC_int (PySem.W.mg_of X G c1), globC_str (PySem.W.mg_of X G c2), ⟨_, x_InvalidLines⟩⟩
  have F0 := fun_mk (st := top 46) l0 q0 k0
  have b0 := F0.binds (ps := ["cell", "turn"]) fun _ _ _ _ _ _ us hl => match us, hl with | [_, _], _ => rfl
  have F1 := fun_mk (st := top 47) l1 q1 k1
  have b1 := F1.binds (ps := ["deck", "limit"]) fun _ _ _ _ _ _ us hl => match us, hl with | [_, _], _ => rfl
  have F2 := fun_mk (st := top 56) l2 q2 k2
  have b2 := F2.binds (ps := ["deck", "one", "other"]) fun _ _ _ _ _ _ us hl => match us, hl with | [_, _, _], _ => rfl
  have F3 := fun_mk (st := top 53) l3 q3 k3
  have b3 := F3.binds (ps := ["many", "long"]) fun _ _ _ _ _ _ us hl => match us, hl with | [_, _], _ => rfl
  have F4 := fun_mk (st := top 54) l4 q4 k4
  have b4 := F4.binds (ps := ["one", "other", "ends"]) fun _ _ _ _ _ _ us hl => match us, hl with | [_, _, _], _ => rfl
  have F5 := fun_mk (st := top 55) l5 q5 k5
  have b5 := F5.binds (ps := ["one", "other", "hints"]) fun _ _ _ _ _ _ us hl => match us, hl with | [_, _, _], _ => rfl
  have F6 := fun_mk (st := top 52) l6 q6 k6
  have b6 := F6.binds (ps := ["deck", "most"]) fun _ _ _ _ _ _ us hl => match us, hl with | [_, _], _ => rfl
  have F7 := fun_mk (st := top 50) l7 q7 k7
  have b7 := F7.binds (ps := ["e"]) fun _ _ _ _ _ _ us hl => match us, hl with | [_], _ => rfl
  have F8 := fun_mk (st := top 51) l8 q8 k8
  have b8 := F8.binds (ps := ["door"]) fun _ _ _ _ _ _ us hl => match us, hl with | [_], _ => rfl
  have F9 := fun_mk (st := top 27) l9 q9 k9
  have b9 := F9.binds (ps := ["value"]) fun _ _ _ _ _ _ us hl => match us, hl with | [_], _ => rfl
  have F10 := fun_mk (st := top 28) l10 q10 k10
  have b10 := F10.binds (ps := ["value"]) fun _ _ _ _ _ _ us hl => match us, hl with | [_], _ => rfl
  have F11 := fun_mk (st := top 32) l11 q11 k11
  have b11 := F11.binds (ps := ["one", "other"]) fun _ _ _ _ _ _ us hl => match us, hl with | [_, _], _ => rfl
  have F12 := fun_mk (st := top 26) l12 q12 k12
  have b12 := F12.binds (ps := ["value", "low", "high"]) fun _ _ _ _ _ _ us hl => match us, hl with | [_, _, _], _ => rfl
  have F13 := fun_mk (st := top 29) l13 q13 k13
  have b13 := F13.binds (ps := ["value", "low", "high"]) fun _ _ _ _ _ _ us hl => match us, hl with | [_, _, _], _ => rfl
  have F14 := fun_mk (st := top 31) l14 q14 k14
  have b14 := F14.binds (ps := ["one", "other", "facts"]) fun _ _ _ _ _ _ us hl => match us, hl with | [_, _, _], _ => rfl
  have F15 := fun_mk (st := (mth 35 0)) l15 q15 k15
  have b15 := F15.binds (ps := ["self", "one", "other", "facts"]) fun _ _ _ _ _ _ us hl => match us, hl with | [_, _, _, _], _ => rfl
  have F16 := fun_mk (st := top 34) l16 q16 k16
  have b16 := F16.binds (ps := ["costs"]) fun _ _ _ _ _ _ us hl => match us, hl with | [_], _ => rfl
  have F17 := fun_mk (st := top 33) l17 q17 k17
  have b17 := F17.binds (ps := ["cost", "more"]) fun _ _ _ _ _ _ us hl => match us, hl with | [_, _], _ => rfl
  have F18 := fun_mk (st := (mth 35 2)) l18 q18 k18
  have b18 := F18.binds (ps := ["self", "line"]) fun _ _ _ _ _ _ us hl => match us, hl with | [_, _], _ => rfl
  have F19 := fun_mk (st := (mth 35 1)) l19 q19 k19
  have b19 := F19.binds (ps := ["self", "line", "place"]) fun _ _ _ _ _ _ us hl => match us, hl with | [_, _, _], _ => rfl
  have F20 := fun_mk (st := top 36) l20 q20 k20
  have b20 := F20.binds (ps := ["steps"]) fun _ _ _ _ _ _ us hl => match us, hl with | [_], _ => rfl
  have F21 := fun_mk (st := top 37) l21 q21 k21
  have b21 := F21.binds (ps := ["steps"]) fun _ _ _ _ _ _ us hl => match us, hl with | [_], _ => rfl
  have F22 := fun_mk (st := top 38) l22 q22 k22
  have b22 := F22.binds (ps := ["before", "between", "after"]) fun _ _ _ _ _ _ us hl => match us, hl with | [_, _, _], _ => rfl
  have F23 := fun_mk (st := top 39) l23 q23 k23
  have b23 := F23.binds (ps := ["one", "other", "line", "facts"]) fun _ _ _ _ _ _ us hl => match us, hl with | [_, _, _, _], _ => rfl
  have F24 := fun_mk (st := top 40) l24 q24 k24
  have b24 := F24.binds (ps := ["one", "other", "line", "most", "facts"]) fun _ _ _ _ _ _ us hl => match us, hl with | [_, _, _, _, _], _ => rfl
  have F25 := fun_mk (st := top 42) l25 q25 k25
  have b25 := F25.binds (ps := ["facts", "line", "fate"]) fun _ _ _ _ _ _ us hl => match us, hl with | [_, _, _], _ => rfl
  have F26 := fun_mk (st := top 43) l26 q26 k26
  have b26 := F26.binds (ps := ["one", "other", "lines", "most", "facts"]) fun _ _ _ _ _ _ us hl => match us, hl with | [_, _, _, _, _], _ => rfl
  have F27 := fun_mk (st := top 44) l27 q27 k27
  have F28 := fun_mk (st := top 48) l28 q28 k28
  have b28 := F28.binds (ps := ["thing"]) fun _ _ _ _ _ _ us hl => match us, hl with | [_], _ => rfl
  have F29 := fun_mk (st := top 49) l29 q29 k29
  have b29 := F29.binds (ps := ["told", "due"]) fun _ _ _ _ _ _ us hl => match us, hl with | [_, _], _ => rfl
  refine ⟨nilI A0, cA, PySem.W.fnOf "law" "law" (defArgs (top 57)) (defBody (top 57)) (defScope (top 57)) .none kV30 dc30 pm30 an30 (.ref cA) ct30, t0, t1, fun s v => .of_eq rfl, fun base _ _ TB => ?_⟩
  have S__law_deck : FnS l.prog w ⟨K, mg⟩ base 1 "_law_deck" 2 F__law_deck := ⟨_, _, _, PySem.W.mg_of X G a0, k0, b0, ok__law_deck (K := ⟨K, mg⟩) F0 T ⟩
  have S__law_pick : FnS l.prog w ⟨K, mg⟩ base 1 "_law_pick" 2 F__law_pick := ⟨_, _, _, PySem.W.mg_of X G a1, k1, b1, ok__law_pick (K := ⟨K, mg⟩) F1 T ⟩
  have S__law_facts : FnS l.prog w ⟨K, mg⟩ base 2 "_law_facts" 3 F__law_facts := ⟨_, _, _, PySem.W.mg_of X G a2, k2, b2, ok__law_facts (K := ⟨K, mg⟩) F2 T (S__law_pick.mono (by decide))⟩
  have S__law_pairings : FnS l.prog w ⟨K, mg⟩ base 1 "_law_pairings" 2 F__law_pairings := ⟨_, _, _, PySem.W.mg_of X G a3, k3, b3, ok__law_pairings (K := ⟨K, mg⟩) F3 T ⟩
  have S__law_price : FnS l.prog w ⟨K, mg⟩ base 1 "_law_price" 3 F__law_price := ⟨_, _, _, PySem.W.mg_of X G a4, k4, b4, ok__law_price (K := ⟨K, mg⟩) F4 T ⟩
  have S__law_known : FnS l.prog w ⟨K, mg⟩ base 2 "_law_known" 3 F__law_known := ⟨_, _, _, PySem.W.mg_of X G a5, k5, b5, ok__law_known (K := ⟨K, mg⟩) F5 T (S__law_pairings.mono (by decide)) (S__law_price.mono (by decide))⟩
  have S__law_text : FnS l.prog w ⟨K, mg⟩ base 2 "_law_text" 2 F__law_text := ⟨_, _, _, PySem.W.mg_of X G a6, k6, b6, ok__law_text (K := ⟨K, mg⟩) F6 T (S__law_pick.mono (by decide))⟩
  have TR : TryS l.prog w ⟨K, mg⟩ base 9 nmOf := by
    refine ⟨f8, g_AnchorError, _, _, _, _, _, _, _, _, _, _, _, _, _, PySem.W.mg_of X G a8, k8, l8, q8, b8, ⟨rfl, rfl, rfl, by decide +kernel, rfl, by decide +kernel, by decide +kernel⟩, .mk, ⟨rfl, rfl, rfl, rfl, rfl⟩, PySem.W.mg_of X G y_AnchorError, fun c str h => ?_⟩
    unfold nmOf at h
    split at h
    · rename_i ec; subst ec; cases h
      exact ⟨(ok__law_name_of (K := ⟨K, mg⟩) "InvalidLines" k_nInvalidLines F7 T ⟨⟨e4_InvalidLines, e5_InvalidLines, e2_InvalidLines, e6_InvalidLines, e7_InvalidLines, o1, o2, e8_InvalidLines⟩, .own g_InvalidText (PySem.W.mg_of X G y_InvalidText) i_InvalidLines_InvalidText, .own g_InvalidRow (PySem.W.mg_of X G y_InvalidRow) i_InvalidLines_InvalidRow, .own g_InvalidLine (PySem.W.mg_of X G y_InvalidLine) i_InvalidLines_InvalidLine, .own g_InvalidPlace (PySem.W.mg_of X G y_InvalidPlace) i_InvalidLines_InvalidPlace, .own g_InvalidNumber (PySem.W.mg_of X G y_InvalidNumber) i_InvalidLines_InvalidNumber, .own g_InvalidFacts (PySem.W.mg_of X G y_InvalidFacts) i_InvalidLines_InvalidFacts, .own g_InvalidLines (PySem.W.mg_of X G y_InvalidLines) i_InvalidLines_InvalidLines, .own g_InvalidTexts (PySem.W.mg_of X G y_InvalidTexts) i_InvalidLines_InvalidTexts, .own g_InvalidRule (PySem.W.mg_of X G y_InvalidRule) i_InvalidLines_InvalidRule, .own g_InvalidAnchor (PySem.W.mg_of X G y_InvalidAnchor) i_InvalidLines_InvalidAnchor, .own g_InvalidSeen (PySem.W.mg_of X G y_InvalidSeen) i_InvalidLines_InvalidSeen, .own g_InvalidName (PySem.W.mg_of X G y_InvalidName) i_InvalidLines_InvalidName, .own g_InvalidFiles (PySem.W.mg_of X G y_InvalidFiles) i_InvalidLines_InvalidFiles, .own g_NoFile (PySem.W.mg_of X G y_NoFile) i_InvalidLines_NoFile, .own g_NoRemark (PySem.W.mg_of X G y_NoRemark) i_InvalidLines_NoRemark, .own g_WrongState (PySem.W.mg_of X G y_WrongState) i_InvalidLines_WrongState, .own g_NothingToUndo (PySem.W.mg_of X G y_NothingToUndo) i_InvalidLines_NothingToUndo, .own g_TooMany (PySem.W.mg_of X G y_TooMany) i_InvalidLines_TooMany, .own g_InvalidForm (PySem.W.mg_of X G y_InvalidForm) i_InvalidLines_InvalidForm, .own g_InvalidWay (PySem.W.mg_of X G y_InvalidWay) i_InvalidLines_InvalidWay, .ty "ValueError" (PySem.W.mg_none_of X G z_ValueError) (by decide +kernel) (by decide +kernel) i_InvalidLines_ValueError⟩ (PySem.W.mg_of X G a7) k7 b7 (PySem.W.mg_of X G y_InvalidLines) mean_InvalidLines).mono (by decide), _, PySem.W.mg_of X G y_InvalidLines, e9_InvalidLines⟩
    cases h
  have S_is_text_of : FnS l.prog w ⟨K, mg⟩ base 1 "is_text_of" 1 F_is_text_of := ⟨_, _, _, PySem.W.mg_of X G a9, k9, b9, ok_is_text_of (K := ⟨K, mg⟩) F9 T ⟩
  have S_need_text : FnS l.prog w ⟨K, mg⟩ base 2 "need_text" 1 F_need_text := ⟨_, _, _, PySem.W.mg_of X G a10, k10, b10, ok_need_text (K := ⟨K, mg⟩) F10 T (S_is_text_of.mono (by decide))⟩
  have S_need_pair : FnS l.prog w ⟨K, mg⟩ base 3 "need_pair" 2 F_need_pair := ⟨_, _, _, PySem.W.mg_of X G a11, k11, b11, ok_need_pair (K := ⟨K, mg⟩) F11 T (S_need_text.mono (by decide))⟩
  have S_is_from : FnS l.prog w ⟨K, mg⟩ base 1 "is_from" 3 F_is_from := ⟨_, _, _, PySem.W.mg_of X G a12, k12, b12, ok_is_from (K := ⟨K, mg⟩) F12 T ⟩
  have S_need_number : FnS l.prog w ⟨K, mg⟩ base 2 "need_number" 3 F_need_number := ⟨_, _, _, PySem.W.mg_of X G a13, k13, b13, ok_need_number (K := ⟨K, mg⟩) F13 T (S_is_from.mono (by decide))⟩
  have S_need_facts : FnS l.prog w ⟨K, mg⟩ base 2 "need_facts" 3 F_need_facts := ⟨_, _, _, PySem.W.mg_of X G a14, k14, b14, ok_need_facts (K := ⟨K, mg⟩) F14 T (S_is_from.mono (by decide))⟩
  have S_Steps : StepsS l.prog w ⟨K, mg⟩ base 1 := ⟨g_Steps, f15, _, _, PySem.W.mg_of X G yc, ⟨mk1, a15, j15, mk4⟩, b15, steps_ok (P := l.prog) (w := w) (K := ⟨K, mg⟩) (base := base) (st := mth 35 0) 0 ⟨_, _, _, _, _, _, _, _, _, rfl, l15, q15⟩ ⟨rfl, rfl, rfl, by decide +kernel, rfl, by decide +kernel, by decide +kernel⟩ .mk (PySem.W.mg_of X G yc) hcl at_one at_other at_told (PySem.W.mg_none_of X G z_dict) rfl rfl rfl rfl rfl⟩
  have S_least_of : FnS l.prog w ⟨K, mg⟩ base 1 "least_of" 1 F_least_of := ⟨_, _, _, PySem.W.mg_of X G a16, k16, b16, ok_least_of (K := ⟨K, mg⟩) F16 T ⟩
  have S_sum_of : FnS l.prog w ⟨K, mg⟩ base 1 "sum_of" 2 F_sum_of := ⟨_, _, _, PySem.W.mg_of X G a17, k17, b17, ok_sum_of (K := ⟨K, mg⟩) F17 T ⟩
  have S_Steps_goes : MethS l.prog w ⟨K, mg⟩ base 1 "Steps" "goes" 2 F_Steps_goes := ⟨_, _, _, _, PySem.W.mg_of X G yc, hcl, ⟨a18, j18, k18⟩, b18, ok_Steps_goes (K := ⟨K, mg⟩) F18 T ⟩
  have S_Steps_stays : MethS l.prog w ⟨K, mg⟩ base 1 "Steps" "stays" 3 F_Steps_stays := ⟨_, _, _, _, PySem.W.mg_of X G yc, hcl, ⟨a19, j19, k19⟩, b19, ok_Steps_stays (K := ⟨K, mg⟩) F19 T ⟩
  have S_ahead_of : FnS l.prog w ⟨K, mg⟩ base 2 "ahead_of" 1 F_ahead_of := ⟨_, _, _, PySem.W.mg_of X G a20, k20, b20, ok_ahead_of (K := ⟨K, mg⟩) F20 T (S_sum_of.mono (by decide)) (S_Steps_goes.mono (by decide)) (S_Steps_stays.mono (by decide)) (S_least_of.mono (by decide))⟩
  have S_behind_of : FnS l.prog w ⟨K, mg⟩ base 2 "behind_of" 1 F_behind_of := ⟨_, _, _, PySem.W.mg_of X G a21, k21, b21, ok_behind_of (K := ⟨K, mg⟩) F21 T (S_sum_of.mono (by decide)) (S_Steps_goes.mono (by decide)) (S_Steps_stays.mono (by decide)) (S_least_of.mono (by decide))⟩
  have S_joined : FnS l.prog w ⟨K, mg⟩ base 1 "joined" 3 F_joined := ⟨_, _, _, PySem.W.mg_of X G a22, k22, b22, ok_joined (K := ⟨K, mg⟩) F22 T ⟩
  have S_costs_with : FnS l.prog w ⟨K, mg⟩ base 3 "costs_with" 4 F_costs_with := ⟨_, _, _, PySem.W.mg_of X G a23, k23, b23, ok_costs_with (K := ⟨K, mg⟩) F23 T (S_Steps.mono (by decide)) (S_ahead_of.mono (by decide)) (S_behind_of.mono (by decide)) (S_Steps_goes.mono (by decide)) (S_joined.mono (by decide)) (S_Steps_stays.mono (by decide)) (S_least_of.mono (by decide))⟩
  have S_fates_with : FnS l.prog w ⟨K, mg⟩ base 4 "fates_with" 5 F_fates_with := ⟨_, _, _, PySem.W.mg_of X G a24, k24, b24, ok_fates_with (K := ⟨K, mg⟩) F24 T (S_costs_with.mono (by decide))⟩
  have S_more_facts : FnS l.prog w ⟨K, mg⟩ base 1 "more_facts" 3 F_more_facts := ⟨_, _, _, PySem.W.mg_of X G a25, k25, b25, ok_more_facts (K := ⟨K, mg⟩) F25 T ⟩
  have S_joint_fates0 : FnS l.prog w ⟨K, mg⟩ base 4 "joint_fates" 5 (R_joint_fates 0) := FnS.zero (PySem.W.mg_of X G a26) k26 b26 rfl
  have S_joint_fates1 : FnS l.prog w ⟨K, mg⟩ base 5 "joint_fates" 5 (R_joint_fates 1) := ⟨_, _, _, PySem.W.mg_of X G a26, k26, b26, ok_joint_fates (K := ⟨K, mg⟩) F26 T (S_fates_with.mono (by decide)) (S_more_facts.mono (by decide)) S_joint_fates0⟩
  have S_joint_fates2 : FnS l.prog w ⟨K, mg⟩ base 6 "joint_fates" 5 (R_joint_fates 2) := ⟨_, _, _, PySem.W.mg_of X G a26, k26, b26, ok_joint_fates (K := ⟨K, mg⟩) F26 T (S_fates_with.mono (by decide)) (S_more_facts.mono (by decide)) S_joint_fates1⟩
  have S_joint_fates3 : FnS l.prog w ⟨K, mg⟩ base 7 "joint_fates" 5 (R_joint_fates 3) := ⟨_, _, _, PySem.W.mg_of X G a26, k26, b26, ok_joint_fates (K := ⟨K, mg⟩) F26 T (S_fates_with.mono (by decide)) (S_more_facts.mono (by decide)) S_joint_fates2⟩
  have S_joint_fates4 : FnS l.prog w ⟨K, mg⟩ base 8 "joint_fates" 5 (R_joint_fates 4) := ⟨_, _, _, PySem.W.mg_of X G a26, k26, b26, ok_joint_fates (K := ⟨K, mg⟩) F26 T (S_fates_with.mono (by decide)) (S_more_facts.mono (by decide)) S_joint_fates3⟩
  have S_joint_fates : FnS l.prog w ⟨K, mg⟩ base 8 "joint_fates" 5 F_joint_fates := S_joint_fates4
  have S_together : FnK l.prog w ⟨K, mg⟩ base 9 "together" 4 F_together (Nil0.adr "together") := by
    rw [show Nil0.adr "together" = A0 from nilI_0]
    exact fnK_mk (ps := ["one", "other", "lines", "most", "facts"]) (PySem.W.mg_of X G a27) k27 l27 q27 na0 rfl (fun D doc pm an cdv ct us u hl => match us, hl with | [_, _, _, _], _ => ⟨_, _, _, _, _, _, rfl, rfl, rfl⟩) (fun D doc pm an cdv ct us u hl => match us, hl with | [_, _, _, _], _ => rfl) (ok_together (K := ⟨K, mg⟩) F27 T (S_need_pair.mono (by decide)) (S_is_from.mono (by decide)) (S_need_number.mono (by decide)) (S_need_facts.mono (by decide)) (S_joint_fates.mono (by decide)))
  have S__law_sort : FnS l.prog w ⟨K, mg⟩ base 1 "_law_sort" 1 F__law_sort := ⟨_, _, _, PySem.W.mg_of X G a28, k28, b28, ok__law_sort (K := ⟨K, mg⟩) F28 T ⟩
  have S__law_same0 : FnS l.prog w ⟨K, mg⟩ base 1 "_law_same" 2 (R__law_same 0) := FnS.zero (PySem.W.mg_of X G a29) k29 b29 rfl
  have S__law_same1 : FnS l.prog w ⟨K, mg⟩ base 2 "_law_same" 2 (R__law_same 1) := ⟨_, _, _, PySem.W.mg_of X G a29, k29, b29, ok__law_same (K := ⟨K, mg⟩) F29 T (S__law_sort.mono (by decide)) S__law_same0⟩
  have S__law_same2 : FnS l.prog w ⟨K, mg⟩ base 3 "_law_same" 2 (R__law_same 2) := ⟨_, _, _, PySem.W.mg_of X G a29, k29, b29, ok__law_same (K := ⟨K, mg⟩) F29 T (S__law_sort.mono (by decide)) S__law_same1⟩
  have S__law_same3 : FnS l.prog w ⟨K, mg⟩ base 4 "_law_same" 2 (R__law_same 3) := ⟨_, _, _, PySem.W.mg_of X G a29, k29, b29, ok__law_same (K := ⟨K, mg⟩) F29 T (S__law_sort.mono (by decide)) S__law_same2⟩
  have S__law_same4 : FnS l.prog w ⟨K, mg⟩ base 5 "_law_same" 2 (R__law_same 4) := ⟨_, _, _, PySem.W.mg_of X G a29, k29, b29, ok__law_same (K := ⟨K, mg⟩) F29 T (S__law_sort.mono (by decide)) S__law_same3⟩
  have S__law_same : FnS l.prog w ⟨K, mg⟩ base 5 "_law_same" 2 F__law_same := S__law_same4
  exact ok_law (K := ⟨K, mg⟩) l30 q30 T TR TB (S__law_deck.mono (by decide)) (S__law_text.mono (by decide)) (S__law_facts.mono (by decide)) (S__law_known.mono (by decide)) (S__law_pick.mono (by decide)) (S_together.mono (by decide)) (S__law_same.mono (by decide))
end DI
namespace DI
/-! running the combinators -/
def Out.andThen (o : Out) (t : SS) : Out := match o with
  | .nx ρ m => t ρ m
  | .rt v m => .rt v m
  | .bk ρ m => .bk ρ m
  | .ct ρ m => .ct ρ m
  | .ex e m => .ex e m
  | .no => .no
@[simp] theorem at_nx (ρ : Env) (m : Mem) (t : SS) : (Out.nx ρ m).andThen t = t ρ m := rfl
@[simp] theorem at_rt (v : PV) (m : Mem) (t : SS) : (Out.rt v m).andThen t = .rt v m := rfl
@[simp] theorem at_bk (ρ : Env) (m : Mem) (t : SS) : (Out.bk ρ m).andThen t = .bk ρ m := rfl
@[simp] theorem at_ct (ρ : Env) (m : Mem) (t : SS) : (Out.ct ρ m).andThen t = .ct ρ m := rfl
@[simp] theorem at_ex (e : Exc) (m : Mem) (t : SS) : (Out.ex e m).andThen t = .ex e m := rfl
def ifO (r : Res PV) (s t : SS) (ρ : Env) : Out := match r with
  | .ok (.d (.bl b)) m => if b = true then s ρ m else t ρ m
  | .ok _ _ => .no
  | .ex e m => .ex e m
  | .no => .no
@[simp] theorem if_t (m : Mem) (s t : SS) (ρ : Env) : ifO (.ok (.d (.bl true)) m) s t ρ = s ρ m := rfl
@[simp] theorem if_f (m : Mem) (s t : SS) (ρ : Env) : ifO (.ok (.d (.bl false)) m) s t ρ = t ρ m := rfl
theorem if_b (b : Bool) (m : Mem) (s t : SS) (ρ : Env) : ifO (.ok (.d (.bl b)) m) s t ρ = if b = true then s ρ m else t ρ m := rfl
/-- a comprehension's turns, on one line -/
def lcG (tg : Tg) (ts : Env → Mem → Res PV) (e : SE) (ρ : Env) (xs : List D) (m : Mem) : Res (List D) := if xs.length ≤ lineL then lcL tg ts e xs ρ m [] else .no
@[simp] theorem lcG_ok {tg : Tg} {ts : Env → Mem → Res PV} {e : SE} {ρ : Env} {xs : List D} {m : Mem} (h : xs.length ≤ 16777216) : lcG tg ts e ρ xs m = lcL tg ts e xs ρ m [] := by
  unfold lcG
  exact if_pos h
/-- range's bounds -/
def r1K (x : PV) (m : Mem) : Res (List D) := match x with
  | .d (.int j) => if fits62 j then .ok (rng 0 j.toNat) m else .no
  | _ => .no
def r2K (x y : PV) (m : Mem) : Res (List D) := match x, y with
  | .d (.int i), .d (.int j) => if fits62 i && fits62 j then .ok (rng i (j - i).toNat) m else .no
  | _, _ => .no
theorem r1K_int {i : Int} (h : fits62 i = true) (m : Mem) : r1K (.d (.int i)) m = .ok (rng 0 i.toNat) m := by
  unfold r1K
  dsimp only
  rw [if_pos h]
theorem r2K_int {i j : Int} (h : fits62 i = true) (h2 : fits62 j = true) (m : Mem) : r2K (.d (.int i)) (.d (.int j)) m = .ok (rng i (j - i).toNat) m := by
  unfold r2K
  dsimp only
  rw [h, h2]
  exact if_pos rfl
section
variable {i : Nat} {ρ : Env} {m : Mem} {a b c : SE} {f g : D → D → Option D} {h : D → Option D} {es : List SE} {is : List Nat} {x y : D} {v : PV} {xs : List D}
@[simp] theorem ev_eV : eV i ρ m = match ρ[i]? with
  | some (some v) => .ok v m
  | _ => .no := rfl
@[simp] theorem ev_eC : eC x ρ m = .ok (.d x) m := rfl
@[simp] theorem ev_e1 : e1 h a ρ m = (a ρ m).bind fun x m => ofO ((vw m x).bind h) m := rfl
@[simp] theorem ev_e2 : e2 f a b ρ m = (a ρ m).bind fun x m => (b ρ m).bind fun y m => ofO ((vw m x).bind fun dx => (vw m y).bind fun dy => f dx dy) m := rfl
@[simp] theorem ev_e2s : e2s f a b ρ m = (a ρ m).bind fun x m => match x with
  | .d (.str s) => (b ρ m).bind fun y m => ofO ((vw m y).bind fun dy => f (.str s) dy) m
  | _ => .no := rfl
@[simp] theorem ev_eAnd : eAnd a b ρ m = (a ρ m).bind (tst fun c m => if c = true then b ρ m else .ok (.d (.bl false)) m) := rfl
@[simp] theorem ev_eOr : eOr a b ρ m = (a ρ m).bind (tst fun c m => if c = true then .ok (.d (.bl true)) m else b ρ m) := rfl
@[simp] theorem ev_eNot : eNot a ρ m = (a ρ m).bind (tst fun c m => .ok (.d (.bl (!c))) m) := rfl
@[simp] theorem ev_eIf : eIf c a b ρ m = (c ρ m).bind (tst fun c m => if c = true then a ρ m else b ρ m) := rfl
@[simp] theorem ev_eCh : eCh f g a b c ρ m = (a ρ m).bind fun x m => (b ρ m).bind fun y m =>
  (ofO ((vw m x).bind fun dx => (vw m y).bind fun dy => f dx dy) m).bind (tst fun t m => if t = true then (c ρ m).bind fun z m => ofO ((vw m y).bind fun dy => (vw m z).bind fun dz => g dy dz) m
    else .ok (.d (.bl false)) m) := rfl
@[simp] theorem ev_args0 : eArgs [] ρ m = .ok [] m := rfl
@[simp] theorem ev_args : eArgs (a :: es) ρ m = (a ρ m).bind fun x m => (eArgs es ρ m).bind fun xs m => .ok (x :: xs) m := rfl
@[simp] theorem ev_eTup : eTup es ρ m = (eArgs es ρ m).bind fun xs m => match datas m xs with
  | some ds => .ok (.d (.tup ds)) m
  | none => .no := rfl
@[simp] theorem ev_nLst : nLst es ρ m = (eArgs es ρ m).bind fun xs m => match datas m xs with
  | some ds => .ok ds m
  | none => .no := rfl
@[simp] theorem ev_eFz {n : NE} : eFz n ρ m = (n ρ m).bind fun xs m => .ok (.d (.lst xs)) m := rfl
@[simp] theorem ev_eNw {n : NE} : eNw n ρ m = (n ρ m).bind fun xs m => .ok (.obj m.length) (m ++ [.l1 xs]) := rfl
@[simp] theorem ev_eCall {F : Fn} : eCall F es ρ m = (eArgs es ρ m).bind fun xs m => F xs m := rfl
@[simp] theorem ev_oN : oN ρ m = .ok none m := rfl
@[simp] theorem ev_oS : oS a ρ m = (a ρ m).bind fun x m => match x with
  | .d (.int i) => .ok (some i) m
  | _ => .no := rfl
@[simp] theorem ev_eSl {f : D → Option Int → Option Int → Option D} {lo hi : OE} : eSl f a lo hi ρ m = (a ρ m).bind fun x m => (lo ρ m).bind fun l m => (hi ρ m).bind fun h m =>
  ofO ((vw m x).bind fun dx => f dx l h) m := rfl
@[simp] theorem ev_tN : tN i v ρ = some (ρ.set i (some v)) := rfl
@[simp] theorem ev_tT : tT is (.d (.tup xs)) ρ = setAll is xs ρ := rfl
@[simp] theorem ev_set0 : setAll [] [] ρ = some ρ := rfl
@[simp] theorem ev_set1 : setAll (i :: is) (x :: xs) ρ = setAll is xs (ρ.set i (some (.d x))) := rfl
@[simp] theorem ev_setPV0 : setPV [] [] ρ = some ρ := rfl
@[simp] theorem ev_setPV1 {vs : List PV} : setPV (i :: is) (v :: vs) ρ = setPV is vs (ρ.set i (some v)) := rfl
@[simp] theorem ev_iV : iV a ρ m = (a ρ m).bind fun x m => match x with
  | .d x => (match itD x with
    | some xs => .ok xs m
    | none => .no)
  | _ => .no := rfl
@[simp] theorem ev_itl : itD (.lst xs) = some xs := rfl
@[simp] theorem ev_itt : itD (.tup xs) = some xs := rfl
@[simp] theorem ev_its {s : List Char} : itD (.str s) = some (s.map fun c => .str [c]) := rfl
@[simp] theorem ev_iR1 : iR1 a ρ m = (a ρ m).bind r1K := rfl
@[simp] theorem ev_iR2 : iR2 a b ρ m = (a ρ m).bind fun x m => (b ρ m).bind (r2K x) := rfl
@[simp] theorem ev_iEnum : iEnum a ρ m = (iV a ρ m).bind fun xs m => .ok (xs.mapIdx fun i x => .tup [.int i, x]) m := rfl
@[simp] theorem ev_iZip : iZip a b ρ m = (a ρ m).bind fun x m => (b ρ m).bind fun y m => match x, y with
  | .d x, .d y => (match itD x, itD y with
    | some xs, some ys => .ok ((xs.zip ys).map fun p => .tup [p.1, p.2]) m
    | _, _ => .no)
  | _, _ => .no := rfl
@[simp] theorem ev_wipe0 : wipeE ρ [] = ρ := rfl
@[simp] theorem ev_wipe1 : wipeE ρ (i :: is) = (wipeE ρ is).set i none := rfl
@[simp] theorem ev_nLc {own : List Nat} {it : IE} {tg : Tg} {ts : Env → Mem → Res PV} {e : SE} : nLc own it tg ts e ρ m = (it ρ m).bind (lcG tg ts e (wipeE ρ own)) := rfl
@[simp] theorem ev_tsY : tsY ρ m = .ok (.d (.bl true)) m := rfl
variable {s t : SS} {e : SE} {tg : Tg} {it : IE}
@[simp] theorem ev_nil : sNil ρ m = .nx ρ m := rfl
@[simp] theorem ev_seq : sSeq s t ρ m = (s ρ m).andThen t := by
  unfold sSeq Out.andThen
  cases s ρ m <;> rfl
@[simp] theorem ev_pass : sPass ρ m = .nx ρ m := rfl
@[simp] theorem ev_brk : sBrk ρ m = .bk ρ m := rfl
@[simp] theorem ev_cnt : sCnt ρ m = .ct ρ m := rfl
@[simp] theorem ev_expr : sExpr e ρ m = (e ρ m).run fun _ m => .nx ρ m := rfl
@[simp] theorem ev_ret : sRet e ρ m = (e ρ m).run fun v m => .rt v m := rfl
@[simp] theorem ev_retN : sRetN ρ m = .rt (.d .non) m := rfl
@[simp] theorem ev_if : sIf c s t ρ m = ifO (c ρ m) s t ρ := by
  unfold sIf ifO
  cases c ρ m with
  | ok v m1 => cases v with
    | d x => cases x <;> rfl
    | obj i => rfl
    | raw a => rfl
  | ex _ _ => rfl
  | no => rfl
@[simp] theorem ev_asg : sAsg tg e ρ m = (e ρ m).run fun v m => match tg v ρ with
  | some ρ1 => .nx ρ1 m
  | none => .no := rfl
@[simp] theorem ev_par : sPar is es ρ m = (eArgs es ρ m).run fun vs m => match setPV is vs ρ with
  | some ρ1 => .nx ρ1 m
  | none => .no := rfl
@[simp] theorem ev_for : sFor tg it s ρ m = (it ρ m).run fun xs m => forL tg s xs ρ m := rfl
@[simp] theorem ev_for0 : forL tg s [] ρ m = .nx ρ m := rfl
theorem ev_for1 : forL tg s (x :: xs) ρ m = match tg (.d x) ρ with
    | none => .no
    | some ρ1 => match s ρ1 m with
      | .nx ρ2 m2 => forL tg s xs ρ2 m2
      | .ct ρ2 m2 => forL tg s xs ρ2 m2
      | .bk ρ2 m2 => .nx ρ2 m2
      | o => o := rfl
theorem for_nx {ρ1 ρ2 : Env} {m2 : Mem} (h1 : tg (.d x) ρ = some ρ1) (h2 : s ρ1 m = .nx ρ2 m2) : forL tg s (x :: xs) ρ m = forL tg s xs ρ2 m2 := by
  rw [ev_for1, h1]
  dsimp only
  rw [h2]
@[simp] theorem ev_app : sApp a e ρ m = (a ρ m).run fun x m => match x with
  | .obj i => (match m[i]? with
    | some (.l1 _) => (e ρ m).run fun y m => (match y, m[i]? with
      | .d y, some (.l1 xs) => if xs.length < lineL then .nx ρ (m.set i (.l1 (xs ++ [y]))) else .no
      | _, _ => .no)
    | _ => .no)
  | _ => .no := rfl
@[simp] theorem ev_setI : sSetI a b e ρ m = (e ρ m).run fun y m => (a ρ m).run fun x m => (b ρ m).run fun k m => match x, k, y with
  | .obj i, .d (.int k), .d y => (match m[i]? with
    | some (.l1 xs) => if 0 ≤ k ∧ k < xs.length then .nx ρ (m.set i (.l1 (xs.set k.toNat y))) else .no
    | _ => .no)
  | _, _, _ => .no := rfl
@[simp] theorem ev_fz : sFz i s ρ m = match ρ[i]? with
  | some (some (.obj j)) => (match m[j]? with
    | some (.l1 xs) => s (ρ.set i (some (.d (.lst xs)))) (m.set j (.fz xs))
    | _ => .no)
  | _ => .no := rfl
@[simp] theorem ev_rtd {n : Nat} : fnR n (.rt (.d x) m) = .ok (.d x) (m.take n) := rfl
@[simp] theorem ev_nx {n : Nat} : fnR n (.nx ρ m) = .ok (.d .non) (m.take n) := rfl
@[simp] theorem ev_rto {n j : Nat} : fnR n (.rt (.obj j) m) = if j < n then .ok (.obj j) (m.take n) else .ok (.obj j) m := rfl
end
theorem small {n : Nat} (h : n ≤ 1000000) : n ≤ lineL := Nat.le_trans h (by decide)
/-- a comprehension whose turns change nothing -/
theorem lcL_pure {tg : Tg} {ts : Env → Mem → Res PV} {e : SE} {ρ : Env} {m : Mem} {p : D → Bool} {g : D → D} : ∀ (xs acc : List D), (∀ x ∈ xs, ∃ ρ1, tg (.d x) ρ = some ρ1 ∧ ts ρ1 m = .ok (.d (.bl (p x))) m ∧ (p x = true → e ρ1 m = .ok (.d (g x)) m)) →
    lcL tg ts e xs ρ m acc = .ok (acc ++ (xs.filter p).map g) m
  | [], acc, _ => by simp [lcL]
  | x :: xs, acc, h => by
    obtain ⟨ρ1, h1, h2, h3⟩ := h x (by simp)
    have ih := lcL_pure (ρ := ρ) (m := m) (tg := tg) (ts := ts) (e := e) (p := p) (g := g) xs
    unfold lcL
    rw [h1]
    dsimp only
    rw [h2]
    cases hp : p x with
    | true =>
      dsimp only
      rw [h3 hp]
      dsimp only
      rw [ih _ fun y hy => h y (by simp [hy]), List.filter_cons_of_pos hp, List.map_cons]
      simp
    | false =>
      dsimp only
      rw [ih _ fun y hy => h y (by simp [hy]), List.filter_cons_of_neg (by simp [hp])]
/-- .. over a mapped list -/
theorem lcL_map {α : Type} {tg : Tg} {ts : Env → Mem → Res PV} {e : SE} {ρ : Env} {m : Mem} {p : α → Bool} {g : α → D} {k : α → D} : ∀ (xs : List α) (acc : List D), (∀ x ∈ xs, ∃ ρ1, tg (.d (k x)) ρ = some ρ1 ∧ ts ρ1 m = .ok (.d (.bl (p x))) m ∧ (p x = true → e ρ1 m = .ok (.d (g x)) m)) →
    lcL tg ts e (xs.map k) ρ m acc = .ok (acc ++ (xs.filter p).map g) m
  | [], acc, _ => by simp [lcL]
  | x :: xs, acc, h => by
    obtain ⟨ρ1, h1, h2, h3⟩ := h x (by simp)
    have ih := lcL_map (ρ := ρ) (m := m) (tg := tg) (ts := ts) (e := e) (p := p) (g := g) (k := k) xs
    rw [List.map_cons]
    unfold lcL
    rw [h1]
    dsimp only
    rw [h2]
    cases hp : p x with
    | true =>
      dsimp only
      rw [h3 hp]
      dsimp only
      rw [ih _ fun y hy => h y (by simp [hy]), List.filter_cons_of_pos hp, List.map_cons]
      simp
    | false =>
      dsimp only
      rw [ih _ fun y hy => h y (by simp [hy]), List.filter_cons_of_neg (by simp [hp])]
end DI
namespace DI
/-! the operations on data of known kinds -/
section
variable {i j : Int} {s t : List Char} {xs ys : List D} {b c : Bool} {x y : D}
@[simp] theorem o_add : dAdd (.int i) (.int j) = some (.int (i + j)) := rfl
@[simp] theorem o_adds : dAdd (.str s) (.str t) = if s.length + t.length ≤ lineL then some (.str (s ++ t)) else none := rfl
@[simp] theorem o_addl : dAdd (.lst xs) (.lst ys) = if xs.length + ys.length ≤ lineL then some (.lst (xs ++ ys)) else none := rfl
@[simp] theorem o_addt : dAdd (.tup xs) (.tup ys) = if xs.length + ys.length ≤ lineL then some (.tup (xs ++ ys)) else none := rfl
@[simp] theorem o_sub : dSub (.int i) (.int j) = some (.int (i - j)) := rfl
@[simp] theorem o_mod : dMod (.int i) (.int j) = if 0 < j then some (.int (i % j)) else none := rfl
@[simp] theorem o_div : dDiv (.int i) (.int j) = if 0 < j ∧ j < 1073741824 then some (.int (i / j)) else none := rfl
@[simp] theorem o_mul : dMulD (.int i) (.int j) = if small64 i || small64 j then some (.int (i * j)) else none := rfl
@[simp] theorem o_mult : dMulD (.tup xs) (.int i) = if -1000000 ≤ i ∧ i ≤ 1000 ∧ xs.length ≤ 1000 then some (.tup (List.replicate i.toNat xs).flatten) else none := rfl
@[simp] theorem o_muls : dMulD (.str s) (.int i) = if -1000000 ≤ i ∧ i ≤ 1000000 ∧ s.length * i.toNat ≤ lineL then some (.str (List.replicate i.toNat s).flatten) else none := rfl
@[simp] theorem o_pow : dPow (.int i) (.int j) = if 0 ≤ j ∧ j ≤ 1000000 ∧ i.natAbs < 2 ^ 64 then some (.int (i ^ j.toNat)) else none := rfl
@[simp] theorem o_neg : dNeg (.int i) = some (.int (-i)) := rfl
@[simp] theorem o_lt : dLt (.int i) (.int j) = some (.bl (decide (i < j))) := rfl
@[simp] theorem o_le : dLe (.int i) (.int j) = some (.bl (decide (i ≤ j))) := rfl
@[simp] theorem o_gt : dGt (.int i) (.int j) = some (.bl (decide (j < i))) := rfl
@[simp] theorem o_ge : dGe (.int i) (.int j) = some (.bl (decide (j ≤ i))) := rfl
@[simp] theorem o_eqi : dEq (.int i) (.int j) = some (.bl (i == j)) := by simp [dEq, D.dep, D.eqv]
@[simp] theorem o_eqs : dEq (.str s) (.str t) = some (.bl (s == t)) := by simp [dEq, D.dep, D.eqv]
@[simp] theorem o_eqb : dEq (.bl b) (.bl c) = some (.bl (b == c)) := by simp [dEq, D.dep, D.eqv]
@[simp] theorem o_nei : dNe (.int i) (.int j) = some (.bl (!(i == j))) := by simp [dNe, D.dep, D.eqv, bne]
@[simp] theorem o_nes : dNe (.str s) (.str t) = some (.bl (!(s == t))) := by simp [dNe, D.dep, D.eqv, bne]
@[simp] theorem o_neb : dNe (.bl b) (.bl c) = some (.bl (!(b == c))) := by simp [dNe, D.dep, D.eqv, bne]
@[simp] theorem o_lens : dLen (.str s) = if s.length ≤ lineL then some (.int s.length) else none := rfl
@[simp] theorem o_lenl : dLen (.lst xs) = some (.int xs.length) := rfl
@[simp] theorem o_lent : dLen (.tup xs) = some (.int xs.length) := rfl
@[simp] theorem o_ixl : dIx (.lst xs) (.int i) = atD xs i := rfl
@[simp] theorem o_ixt : dIx (.tup xs) (.int i) = atD xs i := rfl
@[simp] theorem o_ixs : dIx (.str s) (.int i) = if s.length ≤ lineL then (atD s i).map fun c => .str [c] else none := rfl
@[simp] theorem o_sll {lo hi : Option Int} : dSl (.lst xs) lo hi = some (.lst (cutD xs lo hi)) := rfl
@[simp] theorem o_slt {lo hi : Option Int} : dSl (.tup xs) lo hi = some (.tup (cutD xs lo hi)) := rfl
@[simp] theorem o_sls {lo hi : Option Int} : dSl (.str s) lo hi = if s.length ≤ lineL then some (.str (cutD s lo hi)) else none := rfl
@[simp] theorem o_ini {c : Char} : dIn (.str [c]) (.str s) = some (.bl (s.contains c)) := rfl
@[simp] theorem f_n : flatD .non = true := rfl
@[simp] theorem f_b : flatD (.bl b) = true := rfl
@[simp] theorem f_i : flatD (.int i) = true := rfl
@[simp] theorem f_s : flatD (.str s) = true := rfl
@[simp] theorem q_ss : D.eqv (.str s) (.str t) = (s == t) := by simp [D.eqv]
@[simp] theorem q_ii : D.eqv (.int i) (.int j) = (i == j) := by simp [D.eqv]
@[simp] theorem q_si : D.eqv (.str s) (.int j) = false := by simp [D.eqv]
@[simp] theorem q_is : D.eqv (.int j) (.str s) = false := by simp [D.eqv]
@[simp] theorem o_int_ : dIn (.str s) (.tup ys) = if ys.all flatD then some (.bl (ys.any fun y => D.eqv y (.str s))) else none := by simp [dIn]
@[simp] theorem o_inl_ : dIn (.str s) (.lst ys) = if ys.all flatD then some (.bl (ys.any fun y => D.eqv y (.str s))) else none := by simp [dIn]
@[simp] theorem lineL_ge {n : Nat} : n ≤ lineL ↔ n ≤ 16777216 := Iff.rfl
@[simp] theorem lineL_gt {n : Nat} : n < lineL ↔ n < 16777216 := Iff.rfl
@[simp] theorem o_int : dInt (.int i) = some (.int i) := rfl
@[simp] theorem o_intb : dInt (.bl b) = some (.int (if b then 1 else 0)) := rfl
@[simp] theorem o_isn : dIsN .non = some (.bl true) := rfl
@[simp] theorem o_tupt : dTupOf (.tup xs) = some (.tup xs) := rfl
@[simp] theorem o_tupl : dTupOf (.lst xs) = some (.tup xs) := rfl
@[simp] theorem o_isb : dIsD (.bl b) (.bl c) = some (.bl (b == c)) := rfl
end
section
variable {α : Type} {c : Prop} [Decidable c] {a b : α} {m : Mem} {x y : D} {p q : Bool} {i j : Int} {s t : List Char}
@[simp] theorem ite_ok : (if c then Res.ok a m else Res.ok b m) = Res.ok (if c then a else b) m := by split <;> rfl
@[simp] theorem ite_d : (if c then PV.d x else PV.d y) = PV.d (if c then x else y) := by split <;> rfl
@[simp] theorem ite_bl : (if c then D.bl p else D.bl q) = D.bl (if c then p else q) := by split <;> rfl
@[simp] theorem ite_int : (if c then D.int i else D.int j) = D.int (if c then i else j) := by split <;> rfl
@[simp] theorem ite_str : (if c then D.str s else D.str t) = D.str (if c then s else t) := by split <;> rfl
end
theorem bls_map {α : Type} (p : α → Bool) : ∀ xs : List α, bls (xs.map fun x => .bl (p x)) = some (xs.map p)
  | [] => rfl
  | x :: xs => by simp [bls, bls_map p xs]
@[simp] theorem o_all {α : Type} (p : α → Bool) (xs : List α) : dAll (.lst (xs.map fun x => .bl (p x))) = some (.bl (xs.all p)) := by
  simp only [dAll, bls_map, Option.map_some]
  congr 2
  induction xs with
  | nil => rfl
  | cons x xs ih => simp [ih]
@[simp] theorem o_any {α : Type} (p : α → Bool) (xs : List α) : dAny (.lst (xs.map fun x => .bl (p x))) = some (.bl (xs.any p)) := by
  simp only [dAny, bls_map, Option.map_some]
  congr 2
  induction xs with
  | nil => rfl
  | cons x xs ih => simp [ih]
theorem strsD_map : ∀ xs : List (List Char), strsD (xs.map .str) = some xs
  | [] => rfl
  | x :: xs => by simp [strsD, strsD_map xs]
theorem joinC_nil : ∀ xs : List (List Char), joinC [] xs = xs.flatten
  | [] => rfl
  | [x] => by simp [joinC]
  | x :: y :: r => by
    have := joinC_nil (y :: r)
    simp only [joinC, this]
    simp
theorem len_one : ∀ cs : List Char, ((cs.map fun c => [c]).map List.length).sum = cs.length
  | [] => rfl
  | c :: cs => by
    have := len_one cs
    simp only [List.map_cons, List.sum_cons, List.length_cons, List.length_nil]
    rw [this]
    omega
theorem flat_one : ∀ cs : List Char, (cs.map fun c => [c]).flatten = cs
  | [] => rfl
  | c :: cs => by
    rw [List.map_cons, List.flatten_cons, flat_one cs]
    rfl
/-- ''.join of single signs -/
theorem join_signs (cs : List Char) (h : cs.length ≤ lineL) : dJoin (.str []) (.lst (cs.map fun c => .str [c])) = some (.str cs) := by
  have e : cs.map (fun c => D.str [c]) = (cs.map fun c => [c]).map .str := by rw [List.map_map]; rfl
  rw [e]
  unfold dJoin
  dsimp only
  rw [strsD_map]
  show (if _ then _ else _) = _
  rw [len_one, joinC_nil, flat_one]
  simp [h]
theorem atD_ofNat {α : Type} {xs : List α} {n : Nat} : atD xs (n : Int) = xs[n]? := by
  simp [atD]
@[simp] theorem atD_0 {α : Type} {x : α} {xs : List α} : atD (x :: xs) 0 = some x := rfl
@[simp] theorem atD_1 {α : Type} {x y : α} {xs : List α} : atD (x :: y :: xs) 1 = some y := rfl
@[simp] theorem atD_2 {α : Type} {x y z : α} {xs : List α} : atD (x :: y :: z :: xs) 2 = some z := rfl
@[simp] theorem atD_3 {α : Type} {x y z u : α} {xs : List α} : atD (x :: y :: z :: u :: xs) 3 = some u := rfl
@[simp] theorem atD_4 {α : Type} {x y z u v : α} {xs : List α} : atD (x :: y :: z :: u :: v :: xs) 4 = some v := rfl
end DI
namespace DI
/-! small lemmas on lists -/
theorem cut_from {α : Type} (xs : List α) (k : Nat) : cutD xs (some (k : Int)) none = xs.drop k := by
  unfold cutD sixD
  have h : ¬ ((k : Int) < 0) := by omega
  simp only [h, if_false, Int.toNat_natCast]
  have e : xs.drop (min k xs.length) = xs.drop k := by
    by_cases h : k ≤ xs.length
    · rw [Nat.min_eq_left h]
    · rw [Nat.min_eq_right (by omega), List.drop_eq_nil_of_le (Nat.le_refl _), List.drop_eq_nil_of_le (by omega)]
  rw [e, List.take_of_length_le]
  rw [List.length_drop]
  omega
theorem cut_to {α : Type} (xs : List α) (k : Nat) : cutD xs none (some (k : Int)) = xs.take k := by
  unfold cutD sixD
  have h : ¬ ((k : Int) < 0) := by omega
  simp only [h, if_false, Int.toNat_natCast, List.drop_zero, Nat.sub_zero]
  by_cases h : k ≤ xs.length
  · rw [Nat.min_eq_left h]
  · rw [Nat.min_eq_right (by omega), List.take_of_length_le (Nat.le_refl _), List.take_of_length_le (by omega)]
theorem cut_1 {α : Type} (xs : List α) : cutD xs (some 1) none = xs.drop 1 := cut_from xs 1
@[simp] theorem get_last {α : Type} {m : List α} {x : α} : (m ++ [x])[m.length]? = some x := by simp
@[simp] theorem set_last {α : Type} {m : List α} {x y : α} : (m ++ [x]).set m.length y = m ++ [y] := by simp
theorem take_last {α : Type} {m l : List α} : (m ++ l).take m.length = m := by simp
theorem fits62_nat {n : Nat} (h : n ≤ 1000000) : fits62 (n : Int) = true := by
  unfold fits62
  exact decide_eq_true (by omega)
theorem fits62_int {i : Int} (h : -1000000 ≤ i ∧ i ≤ 1000000) : fits62 i = true := by
  unfold fits62
  exact decide_eq_true (by omega)
theorem atD_nat {α : Type} {xs : List α} {n : Nat} : atD xs (n : Int) = xs[n]? := atD_ofNat
/-- a loop over a mapped list, its state told by a fold; W: what else holds -/
theorem for_fold {α β : Type} {tg : Tg} {b : SS} {k : α → D} (env : β → Option PV → Env) (mem : β → Mem) (st : β → α → β) (I : List α → β → Prop)
    (h : ∀ x xs s v, I (x :: xs) s → ∃ ρ1 v', tg (.d (k x)) (env s v) = some ρ1 ∧ b ρ1 (mem s) = .nx (env (st s x) v') (mem (st s x)) ∧ I xs (st s x)) :
    ∀ (xs : List α) (s : β) (v : Option PV), I xs s → ∃ v', forL tg b (xs.map k) (env s v) (mem s) = .nx (env (xs.foldl st s) v') (mem (xs.foldl st s)) ∧ I [] (xs.foldl st s)
  | [], s, v, i => ⟨v, rfl, i⟩
  | x :: xs, s, v, i => by
    obtain ⟨ρ1, v', h1, h2, h3⟩ := h x xs s v i
    obtain ⟨v2, h4, h5⟩ := for_fold env mem st I h xs (st s x) v' h3
    exact ⟨v2, by rw [List.map_cons, for_nx h1 h2, h4, List.foldl_cons], by rw [List.foldl_cons]; exact h5⟩
theorem filter_all {α : Type} : ∀ xs : List α, xs.filter (fun _ => true) = xs
  | [] => rfl
  | x :: xs => by rw [List.filter_cons_of_pos rfl, filter_all xs]
theorem lcL_all {α : Type} {tg : Tg} {e : SE} {ρ : Env} {m : Mem} {g : α → D} {k : α → D} (xs : List α) (h : ∀ x ∈ xs, ∃ ρ1, tg (.d (k x)) ρ = some ρ1 ∧ e ρ1 m = .ok (.d (g x)) m) :
    lcL tg tsY e (xs.map k) ρ m [] = .ok (xs.map g) m := by
  rw [lcL_map (p := fun _ => true) (g := g) _ _ fun x hx => ?_, filter_all, List.nil_append]
  obtain ⟨ρ1, h1, h2⟩ := h x hx
  exact ⟨ρ1, h1, rfl, fun _ => h2⟩
end DI
namespace DI
/-- a loop that keeps what holds of the slots and the memory -/
theorem for_inv {tg : Tg} {s : SS} (I : Env → Mem → Prop) : ∀ (xs : List D), (∀ x ∈ xs, ∀ ρ m, I ρ m → ∃ ρ1 ρ2 m2, tg (.d x) ρ = some ρ1 ∧ s ρ1 m = .nx ρ2 m2 ∧ I ρ2 m2) → ∀ ρ m, I ρ m → ∃ ρ' m', forL tg s xs ρ m = .nx ρ' m' ∧ I ρ' m'
  | [], _, ρ, m, i => ⟨ρ, m, rfl, i⟩
  | x :: xs, h, ρ, m, i => by
    obtain ⟨ρ1, ρ2, m2, h1, h2, h3⟩ := h x (by simp) ρ m i
    obtain ⟨ρ3, m3, h4, h5⟩ := for_inv I xs (fun y hy => h y (by simp [hy])) ρ2 m2 h3
    exact ⟨ρ3, m3, by rw [for_nx h1 h2, h4], h5⟩
theorem flatten_rep {α : Type} (x : α) : ∀ k : Nat, (List.replicate k [x]).flatten = List.replicate k x
  | 0 => rfl
  | k + 1 => by rw [List.replicate_succ, List.flatten_cons, flatten_rep x k]; rfl
theorem intsD_map : ∀ ns : List Int, intsD (ns.map .int) = some ns
  | [] => rfl
  | n :: ns => by simp [intsD, intsD_map ns]
end DI
namespace DI
/-! running what the fates laws have besides -/
section
variable {i : Nat} {ρ : Env} {m : Mem} {a b c f1 f2 fe : SE} {n1 n2 : NE} {k : SS} {es : List SE} {cl f : String} {F : Fn} {it : IE} {tg : Tg} {own : List Nat}
@[simp] theorem ev_td [Nil0] : eTD a ρ m = (a ρ m).bind fun x m => match x with
  | .d x => .ok (.d x) m
  | .raw b => if Nil0.is b = true then .ok (.d (.tup [])) m else .no
  | .obj i => match m[i]? with
    | some (MO.tp xs) => .ok (.d (.tup xs)) m
    | _ => .no := rfl
@[simp] theorem ev_tupO : eTupO es ρ m = (eArgs es ρ m).bind fun xs m => match datas m xs with
  | some ds => .ok (.obj m.length) (m ++ [MO.tp ds])
  | none => .no := rfl
@[simp] theorem ev_tupOf : eTupOf a ρ m = (a ρ m).bind fun x m => match vw m x with
  | some (.lst xs) => .ok (.obj m.length) (m ++ [MO.tp xs])
  | _ => .no := rfl
@[simp] theorem ev_get : eGet a b c ρ m = (a ρ m).bind fun o m => match o with
  | .d (.dct ks vs) => (b ρ m).bind fun q m => (c ρ m).bind fun z m => (match q, z with
    | .d q, .d z => if q.isKey = true then .ok (.d ((dctGet ks vs q).getD z)) m else .no
    | _, _ => .no)
  | _ => .no := rfl
@[simp] theorem ev_attr : eAttr cl f a ρ m = (a ρ m).bind fun o m => match o with
  | .d (.ins c' ns ds) => if c' = cl then (match insGet ns ds f with
    | some d => .ok (.d d) m
    | none => .no) else .no
  | _ => .no := rfl
@[simp] theorem ev_meth : eMethD cl f F a es ρ m = (a ρ m).bind fun o m => match o with
  | .d (.ins c' ns ds) => if c' = cl ∧ f ∉ ns then (eArgs es ρ m).bind fun xs m => F (.d (.ins c' ns ds) :: xs) m else .no
  | _ => .no := rfl
@[simp] theorem ev_steps [Nil0] : eSteps es ρ m = (eArgs es ρ m).bind fun xs m => match xs with
  | [.d x, .d y, z] => (match (tupOf m z).bind pairsI with
    | some ps => if (ps.map (·.1)).Nodup then .ok (.d (.ins "Steps" ["one", "other", "told"] [x, y, .dct (ps.map fun p => .int p.1) (ps.map fun p => .int p.2)])) m else .no
    | none => .no)
  | _ => .no := rfl
@[simp] theorem ev_df [Nil0] : eDf f ρ m = .ok (.raw (Nil0.adr f)) m := rfl
@[simp] theorem ev_nMul : nMul n1 b ρ m = (n1 ρ m).bind fun xs m => (b ρ m).bind fun y m => match y with
  | .d (.int k) => if -1000000 ≤ k ∧ k ≤ 1000000 ∧ xs.length * k.toNat ≤ lineL then .ok (List.replicate k.toNat xs).flatten m else .no
  | _ => .no := rfl
@[simp] theorem ev_nIf : nIf a n1 n2 ρ m = (a ρ m).bind fun x m => match x with
  | .d (.bl true) => n1 ρ m
  | .d (.bl false) => n2 ρ m
  | _ => .no := rfl
@[simp] theorem ev_ix2 : eIx2 a f1 f2 ρ m = (a ρ m).bind fun x m => (f1 ρ m).bind fun k m => match rowAt m x k with
  | none => .no
  | some _ => (f2 ρ m).bind fun l m => match rowAt m x k, intOf l with
    | some (_, k, rows), some l => match (rows[k]?).bind fun row => if 0 ≤ l then row[l.toNat]? else none with
      | some d => .ok (.d d) m
      | none => .no
    | _, _ => .no := rfl
@[simp] theorem intOf_int {l : Int} : intOf (.d (.int l)) = some l := rfl
@[simp] theorem datOf_d {x : D} : datOf (.d x) = some x := rfl
theorem rowAt_of {i : Nat} {rows : List (List D)} {k : Nat} (h : m[i]? = some (.l2 rows)) (hk : k < rows.length) : rowAt m (.obj i) (.d (.int (k : Int))) = some (i, k, rows) := by
  unfold rowAt
  dsimp only
  rw [h]
  dsimp only
  rw [if_pos (by omega)]
  simp
/-- table[k][l] -/
theorem ix2_at {i k l : Nat} {rows : List (List D)} {row : List D} {x : D} (ha : a ρ m = .ok (.obj i) m) (h1 : f1 ρ m = .ok (.d (.int (k : Int))) m) (h2 : f2 ρ m = .ok (.d (.int (l : Int))) m) (hm : m[i]? = some (.l2 rows)) (hr : rows[k]? = some row) (hx : row[l]? = some x) :
    eIx2 a f1 f2 ρ m = .ok (.d x) m := by
  have hk : k < rows.length := (List.getElem?_eq_some_iff.mp hr).1
  rw [ev_ix2, ha, Res.bind_ok, h1, Res.bind_ok, rowAt_of hm hk]
  dsimp only
  rw [h2, Res.bind_ok, rowAt_of hm hk, intOf_int]
  dsimp only
  rw [hr, Option.bind_some, if_pos (by omega), Int.toNat_natCast, hx]
/-- table[k][l] = x -/
theorem set2_at {i k l : Nat} {rows : List (List D)} {row : List D} {x : D} (he : fe ρ m = .ok (.d x) m) (ha : a ρ m = .ok (.obj i) m) (h1 : f1 ρ m = .ok (.d (.int (k : Int))) m) (h2 : f2 ρ m = .ok (.d (.int (l : Int))) m) (hm : m[i]? = some (.l2 rows)) (hr : rows[k]? = some row) (hl : l < row.length) :
    sSet2 a f1 f2 fe ρ m = .nx ρ (m.set i (.l2 (rows.set k (row.set l x)))) := by
  have hk : k < rows.length := (List.getElem?_eq_some_iff.mp hr).1
  unfold sSet2
  rw [he, Res.run_ok, ha, Res.run_ok, h1, Res.run_ok, rowAt_of hm hk]
  dsimp only
  rw [h2, Res.run_ok, rowAt_of hm hk, intOf_int, datOf_d]
  dsimp only
  rw [hr]
  dsimp only
  rw [if_pos (by omega), Int.toNat_natCast]
@[simp] theorem ev_fz2 : sFz2 i k ρ m = match ρ[i]? with
  | some (some (.obj j)) => (match m[j]? with
    | some (.l2 rows) => k (ρ.set i (some (.d (.lst (rows.map .lst))))) (m.set j .dead)
    | _ => .no)
  | _ => .no := rfl
/-- rows made alike -/
theorem lcR_same {tg : Tg} {fe : NE} {ρ : Env} {m : Mem} {row : List D} : ∀ (xs : List D) (acc : List (List D)), (∀ x ∈ xs, ∃ ρ1, tg (.d x) ρ = some ρ1 ∧ fe ρ1 m = .ok row m) → lcR tg fe xs ρ m acc = .ok (acc ++ List.replicate xs.length row) m
  | [], acc, _ => by simp [lcR]
  | x :: xs, acc, h => by
    obtain ⟨ρ1, h1, h2⟩ := h x (by simp)
    unfold lcR
    rw [h1]
    dsimp only
    rw [h2]
    dsimp only
    rw [lcR_same xs _ fun y hy => h y (by simp [hy])]
    simp [List.replicate_succ]
end
end DI
/-! fates, plainly: all fates of a text's lines, what they cost, and the least costs by tables -/
namespace DI.Ft
structure Fx where
  one : List Char
  other : List Char
  told : Nat → Option Int
def Fx.m (F : Fx) : Nat := F.one.length
def Fx.n (F : Fx) : Nat := F.other.length
/-- this fate is told, or nothing is -/
def Fx.fate (F : Fx) (l : Nat) (e : Int) : Prop := ∀ f, F.told l = some f → f = e
instance (F : Fx) (l : Nat) (e : Int) : Decidable (F.fate l e) := by
  unfold Fx.fate
  cases F.told l with
  | none => exact .isTrue fun f h => by cases h
  | some g => exact if h : g = e then .isTrue fun f z => by cases z; exact h else .isFalse fun z => h (z g rfl)
def Fx.ch (F : Fx) (l : Nat) (e : Int) : Int := if 0 ≤ e ∧ F.one[l]? ≠ F.other[e.toNat]? then 1 else 0
def sty : List Int → Int
  | [] => 0
  | e :: es => (if 0 ≤ e then 1 else 0) + sty es
def Fx.chg (F : Fx) : Nat → List Int → Int
  | _, [] => 0
  | l, e :: es => F.ch l e + F.chg (l + 1) es
def Fx.chgR (F : Fx) : List Int → Int
  | [] => 0
  | e :: es => F.ch es.length e + F.chgR es
/-- fates of the lines from i on, none ahead of place j -/
def Fx.Ok (F : Fx) : Nat → Nat → List Int → Prop
  | i, j, [] => i = F.m ∧ j ≤ F.n
  | i, j, e :: es => i < F.m ∧ F.fate i e ∧ ((e = -1 ∧ F.Ok (i + 1) j es) ∨ ∃ k : Nat, e = (k : Int) ∧ j ≤ k ∧ k < F.n ∧ F.Ok (i + 1) (k + 1) es)
/-- fates of the lines ahead of i, the last one first, all of them ahead of place j -/
def Fx.Pre (F : Fx) : Nat → Nat → List Int → Prop
  | i, j, [] => i = 0 ∧ j ≤ F.n
  | i, j, e :: es => j ≤ F.n ∧ i = es.length + 1 ∧ es.length < F.m ∧ F.fate es.length e ∧ ((e = -1 ∧ F.Pre es.length j es) ∨ ∃ k : Nat, e = (k : Int) ∧ k < j ∧ F.Pre es.length k es)
def Fx.cost (F : Fx) (i j : Nat) (es : List Int) : Int := (F.m - i : Int) + (F.n - j : Int) - 2 * sty es + F.chg i es
def Fx.pcost (F : Fx) (i j : Nat) (es : List Int) : Int := (i : Int) + j - 2 * sty es + F.chgR es
variable {F : Fx}
theorem Fx.Ok.n_le : ∀ {es : List Int} {i j : Nat}, F.Ok i j es → j ≤ F.n
  | [], _, _, h => h.2
  | e :: es, i, j, h => by
    obtain ⟨_, _, ⟨_, h⟩ | ⟨k, _, h1, h2, _⟩⟩ := h
    · exact Fx.Ok.n_le h
    · omega
theorem Fx.Ok.mono : ∀ {es : List Int} {i j j' : Nat}, F.Ok i j es → j' ≤ j → F.Ok i j' es
  | [], _, _, _, h, hj => ⟨h.1, by have := h.2; omega⟩
  | e :: es, i, j, j', h, hj => by
    obtain ⟨h1, h2, ⟨e1, h⟩ | ⟨k, e1, h3, h4, h5⟩⟩ := h
    · exact ⟨h1, h2, .inl ⟨e1, h.mono hj⟩⟩
    · exact ⟨h1, h2, .inr ⟨k, e1, by omega, h4, h5⟩⟩
theorem Fx.Pre.n_le : ∀ {es : List Int} {i j : Nat}, F.Pre i j es → j ≤ F.n
  | [], _, _, h => h.2
  | _ :: _, _, _, h => h.1
theorem Fx.Pre.len : ∀ {es : List Int} {i j : Nat}, F.Pre i j es → i = es.length
  | [], _, _, h => h.1
  | _ :: es, _, _, h => h.2.1
theorem Fx.Pre.mono : ∀ {es : List Int} {i j j' : Nat}, F.Pre i j es → j ≤ j' → j' ≤ F.n → F.Pre i j' es
  | [], _, _, _, h, _, hn => ⟨h.1, hn⟩
  | e :: es, i, j, j', h, hj, hn => by
    obtain ⟨_, h0, h1, h2, ⟨e1, h⟩ | ⟨k, e1, h3, h4⟩⟩ := h
    · exact ⟨hn, h0, h1, h2, .inl ⟨e1, h.mono hj hn⟩⟩
    · exact ⟨hn, h0, h1, h2, .inr ⟨k, e1, by omega, h4⟩⟩
/-! least ones -/
def IsMin (o : Option Int) (P : Int → Prop) : Prop := match o with
  | none => ∀ c, ¬ P c
  | some c => P c ∧ ∀ d, P d → c ≤ d
theorem IsMin.uniq {o o' : Option Int} {P : Int → Prop} (h : IsMin o P) (h' : IsMin o' P) : o = o' := by
  cases o with
  | none =>
    cases o' with
    | none => rfl
    | some c => exact absurd h'.1 (h c)
  | some c =>
    cases o' with
    | none => exact absurd h.1 (h' c)
    | some d =>
      have h1 := h.2 d h'.1
      have h2 := h'.2 c h.1
      congr 1
      omega
theorem IsMin.congr {o : Option Int} {P Q : Int → Prop} (h : IsMin o P) (e : ∀ c, P c ↔ Q c) : IsMin o Q := by
  cases o with
  | none => exact fun c hc => h c ((e c).mpr hc)
  | some c => exact ⟨(e c).mp h.1, fun d hd => h.2 d ((e d).mpr hd)⟩
/-- min of those that are known -/
def minL : List Int → Option Int
  | [] => none
  | a :: r => match minL r with
    | none => some a
    | some b => some (if b < a then b else a)
theorem minL_min : ∀ ns : List Int, IsMin (minL ns) (fun c => c ∈ ns)
  | [] => fun c h => by cases h
  | a :: r => by
    have ih := minL_min r
    unfold minL
    cases h : minL r with
    | none =>
      rw [h] at ih
      refine ⟨by simp, fun d hd => ?_⟩
      rcases List.mem_cons.mp hd with z | z
      · omega
      · exact absurd z (ih d)
    | some b =>
      rw [h] at ih
      obtain ⟨i1, i2⟩ := ih
      by_cases z : b < a
      · simp only [if_pos z]
        exact ⟨List.mem_cons_of_mem _ i1, fun d hd => (List.mem_cons.mp hd).elim (fun w => by omega) (i2 d)⟩
      · simp only [if_neg z]
        exact ⟨by simp, fun d hd => (List.mem_cons.mp hd).elim (fun w => by omega) (fun w => by have := i2 d w; omega)⟩
def mins (os : List (Option Int)) : Option Int := minL (os.filterMap id)
theorem mins_min {os : List (Option Int)} {P : Int → Prop} (h1 : ∀ c, some c ∈ os → P c) (h2 : ∀ c, P c → ∃ d, d ≤ c ∧ some d ∈ os) : IsMin (mins os) P := by
  have h := minL_min (os.filterMap id)
  have hm : ∀ c, c ∈ os.filterMap id ↔ some c ∈ os := fun c => by simp
  unfold mins
  cases e : minL (os.filterMap id) with
  | none =>
    rw [e] at h
    intro c hc
    obtain ⟨d, _, hd⟩ := h2 c hc
    exact h d ((hm d).mpr hd)
  | some c =>
    rw [e] at h
    refine ⟨h1 c ((hm c).mp h.1), fun d hd => ?_⟩
    obtain ⟨q, hq, hm'⟩ := h2 d hd
    exact Int.le_trans (h.2 q ((hm q).mpr hm')) hq
def Fx.S (F : Fx) (i j : Nat) (c : Int) : Prop := ∃ es, F.Ok i j es ∧ F.cost i j es = c
def Fx.R (F : Fx) (i j : Nat) (c : Int) : Prop := ∃ es, F.Pre i j es ∧ F.pcost i j es = c
def plus (o : Option Int) (k : Int) : Option Int := o.map (· + k)
theorem sty_neg (es : List Int) : sty (-1 :: es) = sty es := by simp [sty]
theorem sty_nat (k : Nat) (es : List Int) : sty ((k : Int) :: es) = 1 + sty es := by
  show (if 0 ≤ (k : Int) then 1 else 0) + sty es = 1 + sty es
  rw [if_pos (by omega)]
theorem ch_neg (l : Nat) : F.ch l (-1) = 0 := by
  unfold Fx.ch
  rw [if_neg]
  omega
theorem ch_nat (l k : Nat) : F.ch l (k : Int) = if F.one[l]? ≠ F.other[k]? then 1 else 0 := by
  unfold Fx.ch
  simp
theorem some_of {o : Option Int} {P : Int → Prop} (h : IsMin o P) {c : Int} (hc : P c) : ∃ d, o = some d ∧ d ≤ c := by
  cases o with
  | none => exact absurd hc (h c)
  | some d => exact ⟨d, rfl, h.2 c hc⟩
/-- what the table behind has at i, j from what stands beside -/
def bList (F : Fx) (i j : Nat) (b1 b2 b3 : Option Int) : List (Option Int) :=
  (if i = F.m ∧ j = F.n then [some 0] else []) ++ ((if i < F.m ∧ F.fate i (-1) then [plus b1 1] else []) ++ ((if j < F.n then [plus b2 1] else []) ++ (if i < F.m ∧ j < F.n ∧ F.fate i j then [plus b3 (F.ch i j)] else [])))
theorem mem_if {α : Type} {p : Prop} [Decidable p] {x y : α} : x ∈ (if p then [y] else []) ↔ p ∧ x = y := by
  by_cases h : p <;> simp [h]
theorem plus_some {o : Option Int} {k c : Int} : some c = plus o k ↔ o = some (c - k) := by
  unfold plus
  cases o with
  | none => simp
  | some d => simp; constructor <;> intro h <;> omega
theorem b_step {i j : Nat} {b1 b2 b3 : Option Int} (hj : j ≤ F.n) (h1 : i < F.m → IsMin b1 (F.S (i + 1) j)) (h2 : j < F.n → IsMin b2 (F.S i (j + 1))) (h3 : i < F.m → j < F.n → IsMin b3 (F.S (i + 1) (j + 1))) : IsMin (mins (bList F i j b1 b2 b3)) (F.S i j) := by
  have mem : ∀ c, some c ∈ bList F i j b1 b2 b3 ↔ (i = F.m ∧ j = F.n ∧ c = 0) ∨ (i < F.m ∧ F.fate i (-1) ∧ b1 = some (c - 1)) ∨ (j < F.n ∧ b2 = some (c - 1)) ∨ (i < F.m ∧ j < F.n ∧ F.fate i j ∧ b3 = some (c - F.ch i j)) := by
    intro c
    unfold bList
    simp only [List.mem_append, mem_if, plus_some, Option.some.injEq, and_assoc]
  refine mins_min (fun c hc => ?_) fun c hc => ?_
  · rw [mem] at hc
    rcases hc with ⟨e1, e2, rfl⟩ | ⟨e1, e2, e3⟩ | ⟨e1, e3⟩ | ⟨e1, e2, e4, e3⟩
    · refine ⟨[], ⟨e1, by omega⟩, ?_⟩
      simp only [Fx.cost, sty, Fx.chg]
      omega
    · have := h1 e1
      rw [e3] at this
      obtain ⟨es, k1, k2⟩ := this.1
      refine ⟨-1 :: es, ⟨e1, e2, .inl ⟨rfl, k1⟩⟩, ?_⟩
      simp only [Fx.cost, sty_neg, Fx.chg, ch_neg] at k2 ⊢
      omega
    · have := h2 e1
      rw [e3] at this
      obtain ⟨es, k1, k2⟩ := this.1
      refine ⟨es, k1.mono (by omega), ?_⟩
      simp only [Fx.cost] at k2 ⊢
      omega
    · have := h3 e1 e2
      rw [e3] at this
      obtain ⟨es, k1, k2⟩ := this.1
      refine ⟨(j : Int) :: es, ⟨e1, e4, .inr ⟨j, rfl, Nat.le_refl _, e2, k1⟩⟩, ?_⟩
      simp only [Fx.cost, sty_nat, Fx.chg] at k2 ⊢
      omega
  · obtain ⟨es, k1, k2⟩ := hc
    have skip : ∀ (hk : F.Ok i (j + 1) es), ∃ d, d ≤ c ∧ some d ∈ bList F i j b1 b2 b3 := fun hk => by
      have hjn := hk.n_le
      obtain ⟨d, e, hd⟩ := some_of (h2 (by omega)) ⟨es, hk, rfl⟩
      refine ⟨d + 1, ?_, (mem _).mpr (.inr (.inr (.inl ⟨by omega, by rw [e]; congr 1; omega⟩)))⟩
      simp only [Fx.cost] at k2 hd
      omega
    cases es with
    | nil =>
      obtain ⟨e1, e2⟩ := k1
      by_cases hjn : j = F.n
      · refine ⟨0, ?_, (mem _).mpr (.inl ⟨e1, hjn, rfl⟩)⟩
        simp only [Fx.cost, sty, Fx.chg] at k2
        omega
      · exact skip ⟨e1, by omega⟩
    | cons e es =>
      obtain ⟨e1, e2, ⟨rfl, e3⟩ | ⟨k, rfl, e4, e5, e6⟩⟩ := id k1
      · obtain ⟨d, q, hd⟩ := some_of (h1 e1) ⟨es, e3, rfl⟩
        refine ⟨d + 1, ?_, (mem _).mpr (.inr (.inl ⟨e1, e2, by rw [q]; congr 1; omega⟩))⟩
        simp only [Fx.cost, sty_neg, Fx.chg, ch_neg] at k2 hd
        omega
      · by_cases hk : k = j
        · subst hk
          obtain ⟨d, q, hd⟩ := some_of (h3 e1 e5) ⟨es, e6, rfl⟩
          refine ⟨d + F.ch i k, ?_, (mem _).mpr (.inr (.inr (.inr ⟨e1, e5, e2, by rw [q]; congr 1; omega⟩)))⟩
          simp only [Fx.cost, sty_nat, Fx.chg] at k2 hd
          omega
        · exact skip ⟨e1, e2, .inr ⟨k, rfl, by omega, e5, e6⟩⟩
/-- what the table ahead has at i, j from what stands beside -/
def aList (F : Fx) (i j : Nat) (a1 a2 a3 : Option Int) : List (Option Int) :=
  (if i = 0 ∧ j = 0 then [some 0] else []) ++ ((if 0 < i ∧ F.fate (i - 1) (-1) then [plus a1 1] else []) ++ ((if 0 < j then [plus a2 1] else []) ++ (if 0 < i ∧ 0 < j ∧ F.fate (i - 1) ((j - 1 : Nat) : Int) then [plus a3 (F.ch (i - 1) ((j - 1 : Nat) : Int))] else [])))
theorem a_step {i j : Nat} {a1 a2 a3 : Option Int} (hi : i ≤ F.m) (hj : j ≤ F.n) (h1 : 0 < i → IsMin a1 (F.R (i - 1) j)) (h2 : 0 < j → IsMin a2 (F.R i (j - 1))) (h3 : 0 < i → 0 < j → IsMin a3 (F.R (i - 1) (j - 1))) : IsMin (mins (aList F i j a1 a2 a3)) (F.R i j) := by
  have mem : ∀ c, some c ∈ aList F i j a1 a2 a3 ↔ (i = 0 ∧ j = 0 ∧ c = 0) ∨ (0 < i ∧ F.fate (i - 1) (-1) ∧ a1 = some (c - 1)) ∨ (0 < j ∧ a2 = some (c - 1)) ∨ (0 < i ∧ 0 < j ∧ F.fate (i - 1) ((j - 1 : Nat) : Int) ∧ a3 = some (c - F.ch (i - 1) ((j - 1 : Nat) : Int))) := by
    intro c
    unfold aList
    simp only [List.mem_append, mem_if, plus_some, Option.some.injEq, and_assoc]
  refine mins_min (fun c hc => ?_) fun c hc => ?_
  · rw [mem] at hc
    rcases hc with ⟨e1, e2, rfl⟩ | ⟨e1, e2, e3⟩ | ⟨e1, e3⟩ | ⟨e1, e2, e4, e3⟩
    · refine ⟨[], ⟨e1, by omega⟩, ?_⟩
      simp only [Fx.pcost, sty, Fx.chgR]
      omega
    · have := h1 e1
      rw [e3] at this
      obtain ⟨es, k1, k2⟩ := this.1
      have hl := k1.len
      refine ⟨-1 :: es, ⟨hj, by omega, by omega, hl ▸ e2, .inl ⟨rfl, hl ▸ k1⟩⟩, ?_⟩
      simp only [Fx.pcost, sty_neg, Fx.chgR, ch_neg] at k2 ⊢
      omega
    · have := h2 e1
      rw [e3] at this
      obtain ⟨es, k1, k2⟩ := this.1
      refine ⟨es, k1.mono (by omega) hj, ?_⟩
      simp only [Fx.pcost] at k2 ⊢
      omega
    · have := h3 e1 e2
      rw [e3] at this
      obtain ⟨es, k1, k2⟩ := this.1
      have hl := k1.len
      refine ⟨((j - 1 : Nat) : Int) :: es, ⟨hj, by omega, by omega, hl ▸ e4, .inr ⟨j - 1, rfl, by omega, hl ▸ k1⟩⟩, ?_⟩
      rw [hl] at k2
      simp only [Fx.pcost, sty_nat, Fx.chgR] at k2 ⊢
      omega
  · obtain ⟨es, k1, k2⟩ := hc
    have skip : ∀ (h0 : 0 < j) (hk : F.Pre i (j - 1) es), ∃ d, d ≤ c ∧ some d ∈ aList F i j a1 a2 a3 := fun h0 hk => by
      obtain ⟨d, e, hd⟩ := some_of (h2 h0) ⟨es, hk, rfl⟩
      refine ⟨d + 1, ?_, (mem _).mpr (.inr (.inr (.inl ⟨h0, by rw [e]; congr 1; omega⟩)))⟩
      simp only [Fx.pcost] at k2 hd
      omega
    cases es with
    | nil =>
      obtain ⟨e1, e2⟩ := k1
      by_cases hjn : j = 0
      · refine ⟨0, ?_, (mem _).mpr (.inl ⟨e1, hjn, rfl⟩)⟩
        simp only [Fx.pcost, sty, Fx.chgR] at k2
        omega
      · exact skip (by omega) ⟨e1, by omega⟩
    | cons e es =>
      obtain ⟨_, e0, e1, e2, ⟨rfl, e3⟩ | ⟨k, rfl, e4, e6⟩⟩ := id k1
      · have hi1 : i - 1 = es.length := by omega
        obtain ⟨d, q, hd⟩ := some_of (h1 (by omega)) ⟨es, by rw [hi1]; exact e3, rfl⟩
        refine ⟨d + 1, ?_, (mem _).mpr (.inr (.inl ⟨by omega, by rw [hi1]; exact e2, by rw [q]; congr 1; omega⟩))⟩
        simp only [Fx.pcost, sty_neg, Fx.chgR, ch_neg] at k2 hd
        omega
      · have hi1 : i - 1 = es.length := by omega
        by_cases hk : k = j - 1
        · subst hk
          obtain ⟨d, q, hd⟩ := some_of (h3 (by omega) (by omega)) ⟨es, by rw [hi1]; exact e6, rfl⟩
          refine ⟨d + F.ch (i - 1) ((j - 1 : Nat) : Int), ?_, (mem _).mpr (.inr (.inr (.inr ⟨by omega, by omega, by rw [hi1]; exact e2, by rw [q]; congr 1; omega⟩)))⟩
          rw [hi1] at hd ⊢
          simp only [Fx.pcost, sty_nat, Fx.chgR] at k2 hd
          omega
        · exact skip (by omega) ⟨by omega, e0, e1, e2, .inr ⟨k, rfl, by omega, e6⟩⟩
/-! ### both parts -/
theorem split_at : ∀ (r es : List Int), F.Ok 0 0 (r.reverse ++ es) ↔ ∃ s, F.Pre r.length s r ∧ F.Ok r.length s es
  | [], es => ⟨fun h => ⟨0, ⟨rfl, Nat.zero_le _⟩, h⟩, fun ⟨s, _, h⟩ => h.mono (Nat.zero_le _)⟩
  | e :: r, es => by
    rw [List.reverse_cons, List.append_assoc, List.singleton_append, split_at r (e :: es)]
    constructor
    · rintro ⟨s, h1, h2, h3, ⟨rfl, h4⟩ | ⟨k, rfl, h4, h5, h6⟩⟩
      · exact ⟨s, ⟨h1.n_le, by simp, h2, h3, .inl ⟨rfl, h1⟩⟩, by simpa using h4⟩
      · exact ⟨k + 1, ⟨h5, by simp, h2, h3, .inr ⟨k, rfl, by omega, h1.mono h4 (by omega)⟩⟩, by simpa using h6⟩
    · rintro ⟨s, ⟨h0, _, h2, h3, ⟨rfl, h4⟩ | ⟨k, rfl, h4, h5⟩⟩, h6⟩
      · exact ⟨s, h4, h2, h3, .inl ⟨rfl, by simpa using h6⟩⟩
      · have h6' : F.Ok (r.length + 1) s es := by simpa using h6
        exact ⟨k, h5, h2, h3, .inr ⟨k, rfl, Nat.le_refl _, by omega, h6'.mono (by omega)⟩⟩
theorem sty_app : ∀ (r es : List Int), sty (r.reverse ++ es) = sty r + sty es
  | [], es => by simp [sty]
  | e :: r, es => by
    rw [List.reverse_cons, List.append_assoc, List.singleton_append, sty_app r (e :: es)]
    show sty r + ((if 0 ≤ e then 1 else 0) + sty es) = (if 0 ≤ e then 1 else 0) + sty r + sty es
    omega
theorem chg_app : ∀ (r es : List Int), F.chg 0 (r.reverse ++ es) = F.chgR r + F.chg r.length es
  | [], es => by simp [Fx.chgR]
  | e :: r, es => by
    rw [List.reverse_cons, List.append_assoc, List.singleton_append, chg_app r (e :: es)]
    simp only [Fx.chg, Fx.chgR, List.length_cons]
    omega
theorem cost_app {r es : List Int} {s : Nat} : F.cost 0 0 (r.reverse ++ es) = F.pcost r.length s r + F.cost r.length s es := by
  simp only [Fx.cost, Fx.pcost, sty_app, chg_app]
  omega
/-- the costs of all fates in which line l has the fate e -/
def Fx.K (F : Fx) (l : Nat) (e : Int) (c : Int) : Prop := ∃ es, F.Ok 0 0 es ∧ es[l]? = some e ∧ F.cost 0 0 es = c
theorem at_split {es : List Int} {l : Nat} {e : Int} (h : es[l]? = some e) : ∃ (r t : List Int), es = r.reverse ++ e :: t ∧ r.length = l := by
  have hl := (List.getElem?_eq_some_iff.mp h).1
  refine ⟨(es.take l).reverse, es.drop (l + 1), ?_, by simp; omega⟩
  rw [List.reverse_reverse]
  have : es.drop l = e :: es.drop (l + 1) := by
    rw [List.drop_eq_getElem_cons hl]
    congr 1
    rw [List.getElem?_eq_getElem hl] at h
    exact Option.some.inj h
  rw [← this, List.take_append_drop]
def join3 (a : Option Int) (k : Option Int) (b : Option Int) : Option Int := match a, k, b with
  | some x, some y, some z => some (x + y + z)
  | _, _, _ => none
theorem join3_some {a k b : Option Int} {c : Int} (h : join3 a k b = some c) : ∃ x y z, a = some x ∧ k = some y ∧ b = some z ∧ c = x + y + z := by
  unfold join3 at h
  split at h
  · cases h; exact ⟨_, _, _, rfl, rfl, rfl, rfl⟩
  · cases h
/-- the line goes -/
theorem K_neg {l : Nat} (hl : l < F.m) {A B : Nat → Option Int} (hA : ∀ s, s ≤ F.n → IsMin (A s) (F.R l s)) (hB : ∀ s, s ≤ F.n → IsMin (B s) (F.S (l + 1) s)) :
    IsMin (mins ((List.range (F.n + 1)).map fun s => join3 (A s) (if F.fate l (-1) then some 1 else none) (B s))) (F.K l (-1)) := by
  refine mins_min (fun c hc => ?_) fun c hc => ?_
  · rw [List.mem_map] at hc
    obtain ⟨s, hs, e⟩ := hc
    rw [List.mem_range] at hs
    obtain ⟨x, y, z, e1, e2, e3, rfl⟩ := join3_some e
    by_cases hf : F.fate l (-1)
    · rw [if_pos hf] at e2
      cases e2
      have a1 := hA s (by omega); rw [e1] at a1
      have b1 := hB s (by omega); rw [e3] at b1
      obtain ⟨r, r1, r2⟩ := a1.1
      obtain ⟨t, t1, t2⟩ := b1.1
      have hr := r1.len
      refine ⟨r.reverse ++ (-1 :: t), (split_at r (-1 :: t)).mpr ⟨s, hr ▸ r1, by omega, hr ▸ hf, .inl ⟨rfl, hr ▸ t1⟩⟩, by simp [hr], ?_⟩
      rw [cost_app (s := s)]
      rw [← hr]
      simp only [Fx.cost, Fx.pcost, sty_neg, Fx.chg, ch_neg] at r2 t2 ⊢
      omega
    · rw [if_neg hf] at e2; cases e2
  · obtain ⟨es, k1, k2, k3⟩ := hc
    obtain ⟨r, t, rfl, hr⟩ := at_split k2
    obtain ⟨s, s1, s2⟩ := (split_at r _).mp k1
    rw [cost_app (s := s)] at k3
    obtain ⟨q1, q2, ⟨_, q3⟩ | ⟨k, q, _⟩⟩ := s2
    · rw [hr] at s1 q1 q2 q3
      have hs := s1.n_le
      obtain ⟨x, ex, hx⟩ := some_of (hA s hs) ⟨r, s1, rfl⟩
      obtain ⟨z, ez, hz⟩ := some_of (hB s hs) ⟨t, q3, rfl⟩
      refine ⟨x + 1 + z, ?_, List.mem_map.mpr ⟨s, List.mem_range.mpr (by omega), by rw [ex, ez, if_pos q2]; rfl⟩⟩
      rw [hr] at k3
      simp only [Fx.cost, Fx.pcost, sty_neg, Fx.chg, ch_neg] at k3 hx hz
      omega
    · omega
/-- the line stays at s -/
theorem K_nat {l s : Nat} (hl : l < F.m) (hs : s < F.n) {a b : Option Int} (hA : IsMin a (F.R l s)) (hB : IsMin b (F.S (l + 1) (s + 1))) :
    IsMin (join3 a (if F.fate l (s : Int) then some (F.ch l s) else none) b) (F.K l (s : Int)) := by
  have fwd : ∀ c, F.K l (s : Int) c → ∃ d, d ≤ c ∧ join3 a (if F.fate l (s : Int) then some (F.ch l s) else none) b = some d := by
    rintro c ⟨es, k1, k2, k3⟩
    obtain ⟨r, t, rfl, hr⟩ := at_split k2
    obtain ⟨s', s1, s2⟩ := (split_at r _).mp k1
    obtain ⟨q1, q2, ⟨q, _⟩ | ⟨k, q, h1, h2, q3⟩⟩ := s2
    · omega
    · have : k = s := by omega
      subst this
      have p1 := s1.mono h1 (by omega)
      rw [hr] at p1 q2 q3
      obtain ⟨x, ex, hx⟩ := some_of hA ⟨r, p1, rfl⟩
      obtain ⟨z, ez, hz⟩ := some_of hB ⟨t, q3, rfl⟩
      refine ⟨x + F.ch l k + z, ?_, by rw [ex, ez, if_pos q2]; rfl⟩
      rw [cost_app (s := k), hr] at k3
      simp only [Fx.cost, Fx.pcost, sty_nat, Fx.chg] at k3 hx hz
      omega
  cases e : join3 a (if F.fate l (s : Int) then some (F.ch l s) else none) b with
  | none =>
    intro c hc
    obtain ⟨d, _, h⟩ := fwd c hc
    rw [e] at h; cases h
  | some c =>
    refine ⟨?_, fun d hd => by
      obtain ⟨q, hq, h⟩ := fwd d hd
      rw [e] at h
      cases h
      exact hq⟩
    obtain ⟨x, y, z, e1, e2, e3, rfl⟩ := join3_some e
    by_cases hf : F.fate l (s : Int)
    · rw [if_pos hf] at e2
      cases e2
      rw [e1] at hA
      rw [e3] at hB
      obtain ⟨r, r1, r2⟩ := hA.1
      obtain ⟨t, t1, t2⟩ := hB.1
      have hr := r1.len
      refine ⟨r.reverse ++ ((s : Int) :: t), (split_at r ((s : Int) :: t)).mpr ⟨s, hr ▸ r1, by omega, hr ▸ hf, .inr ⟨s, rfl, Nat.le_refl _, hs, hr ▸ t1⟩⟩, by simp [hr], ?_⟩
      rw [cost_app (s := s), ← hr]
      rw [hr] at r2 t2 ⊢
      simp only [Fx.cost, Fx.pcost, sty_nat, Fx.chg] at r2 t2 ⊢
      omega
    · rw [if_neg hf] at e2; cases e2
end DI.Ft
namespace DI.Ft
variable {F : Fx}
/-- without facts -/
def Fx.free (F : Fx) : Fx := ⟨F.one, F.other, fun _ => none⟩
theorem free_fate (l : Nat) (e : Int) : F.free.fate l e := fun f h => by cases h
theorem ok_facts : ∀ (es : List Int) (i j : Nat), F.Ok i j es ↔ F.free.Ok i j es ∧ ∀ l e, es[l]? = some e → F.fate (i + l) e
  | [], i, j => ⟨fun h => ⟨h, fun l e z => by simp at z⟩, fun h => h.1⟩
  | e :: es, i, j => by
    have sh : (∀ l x, (e :: es)[l]? = some x → F.fate (i + l) x) ↔ F.fate i e ∧ ∀ l x, es[l]? = some x → F.fate (i + 1 + l) x := by
      constructor
      · intro h
        refine ⟨h 0 e rfl, fun l x z => ?_⟩
        have := h (l + 1) x (by simpa using z)
        rw [show i + 1 + l = i + (l + 1) by omega]
        exact this
      · rintro ⟨h1, h2⟩ l x z
        cases l with
        | zero => simp at z; subst z; exact h1
        | succ l =>
          have := h2 l x (by simpa using z)
          rw [show i + (l + 1) = i + 1 + l by omega]
          exact this
    rw [sh]
    constructor
    · rintro ⟨h1, h2, ⟨rfl, h3⟩ | ⟨k, rfl, h3, h4, h5⟩⟩
      · obtain ⟨q1, q2⟩ := (ok_facts es (i + 1) j).mp h3
        exact ⟨⟨h1, free_fate _ _, .inl ⟨rfl, q1⟩⟩, h2, q2⟩
      · obtain ⟨q1, q2⟩ := (ok_facts es (i + 1) (k + 1)).mp h5
        exact ⟨⟨h1, free_fate _ _, .inr ⟨k, rfl, h3, h4, q1⟩⟩, h2, q2⟩
    · rintro ⟨⟨h1, _, ⟨rfl, h3⟩ | ⟨k, rfl, h3, h4, h5⟩⟩, h2, q2⟩
      · exact ⟨h1, h2, .inl ⟨rfl, (ok_facts es (i + 1) j).mpr ⟨h3, q2⟩⟩⟩
      · exact ⟨h1, h2, .inr ⟨k, rfl, h3, h4, (ok_facts es (i + 1) (k + 1)).mpr ⟨h5, q2⟩⟩⟩
theorem ok_pre (es : List Int) : F.Ok 0 0 es ↔ F.Pre F.m F.n es.reverse := by
  have := split_at (F := F) es.reverse []
  rw [List.reverse_reverse, List.append_nil] at this
  rw [this]
  constructor
  · rintro ⟨s, h1, h2, h3⟩
    rw [h2] at h1
    exact h1.mono h3 (Nat.le_refl _)
  · intro h
    have hl := h.len
    exact ⟨F.n, hl ▸ h, hl.symm, Nat.le_refl _⟩
theorem pre_lt : ∀ (r : List Int) (i j : Nat), j ≤ F.n → (F.Pre i j r ↔ F.Pre i F.n r ∧ ∀ x ∈ r, x < j)
  | [], i, j, hj => ⟨fun h => ⟨⟨h.1, Nat.le_refl _⟩, by simp⟩, fun h => ⟨h.1.1, hj⟩⟩
  | e :: r, i, j, hj => by
    constructor
    · rintro ⟨h0, h1, h2, h3, ⟨rfl, h4⟩ | ⟨k, rfl, h4, h5⟩⟩
      · obtain ⟨q1, q2⟩ := (pre_lt r _ j hj).mp h4
        exact ⟨⟨Nat.le_refl _, h1, h2, h3, .inl ⟨rfl, q1⟩⟩, fun x hx => (List.mem_cons.mp hx).elim (fun z => by omega) (q2 x)⟩
      · obtain ⟨q1, q2⟩ := (pre_lt r _ k (by omega)).mp h5
        exact ⟨⟨Nat.le_refl _, h1, h2, h3, .inr ⟨k, rfl, by omega, h5⟩⟩, fun x hx => (List.mem_cons.mp hx).elim (fun z => by omega) (fun z => by have := q2 x z; omega)⟩
    · rintro ⟨⟨h0, h1, h2, h3, ⟨rfl, h4⟩ | ⟨k, rfl, h4, h5⟩⟩, hx⟩
      · exact ⟨hj, h1, h2, h3, .inl ⟨rfl, (pre_lt r _ j hj).mpr ⟨h4, fun x z => hx x (List.mem_cons_of_mem _ z)⟩⟩⟩
      · have := hx k (by simp)
        exact ⟨hj, h1, h2, h3, .inr ⟨k, rfl, by omega, h5⟩⟩
/-- the greatest of -1 and these -/
def top1 : List Int → Int
  | [] => -1
  | e :: es => if e < top1 es then top1 es else e
def nexts (n : Nat) (es : List Int) : List Int := -1 :: ((List.range (n - (top1 es + 1)).toNat).map fun (k : Nat) => top1 es + 1 + (k : Int))
def pairs (n : Nat) : Nat → List (List Int)
  | 0 => [[]]
  | k + 1 => (pairs n k).flatMap fun es => (nexts n es).map fun e => es ++ [e]
theorem top1_ge : ∀ es : List Int, -1 ≤ top1 es ∧ ∀ x ∈ es, x ≤ top1 es
  | [] => ⟨Int.le_refl _, by simp⟩
  | e :: es => by
    obtain ⟨h1, h2⟩ := top1_ge es
    unfold top1
    by_cases z : e < top1 es
    · rw [if_pos z]
      exact ⟨h1, fun x hx => (List.mem_cons.mp hx).elim (fun w => by omega) (h2 x)⟩
    · rw [if_neg z]
      exact ⟨by omega, fun x hx => (List.mem_cons.mp hx).elim (fun w => by omega) (fun w => by have := h2 x w; omega)⟩
theorem top1_lt {k : Nat} : ∀ {es : List Int}, (∀ x ∈ es, x < (k : Int)) → top1 es < k
  | [], _ => by unfold top1; omega
  | e :: es, h => by
    have := top1_lt (es := es) fun x hx => h x (List.mem_cons_of_mem _ hx)
    have := h e (by simp)
    unfold top1
    split <;> omega
theorem mem_nexts {n : Nat} {es : List Int} {e : Int} : e ∈ nexts n es ↔ e = -1 ∨ ∃ k : Nat, e = (k : Int) ∧ k < n ∧ ∀ x ∈ es, x < (k : Int) := by
  unfold nexts
  rw [List.mem_cons, List.mem_map]
  obtain ⟨t1, t2⟩ := top1_ge es
  constructor
  · rintro (h | ⟨k, hk, rfl⟩)
    · exact .inl h
    · rw [List.mem_range] at hk
      refine .inr ⟨(top1 es + 1 + k).toNat, by omega, by omega, fun x hx => ?_⟩
      have := t2 x hx
      omega
  · rintro (h | ⟨k, rfl, hk, hx⟩)
    · exact .inl h
    · have := top1_lt hx
      exact .inr ⟨((k : Int) - (top1 es + 1)).toNat, List.mem_range.mpr (by omega), by omega⟩
theorem mem_pairs : ∀ (k : Nat), k ≤ F.m → ∀ es : List Int, es ∈ pairs F.n k ↔ F.free.Pre k F.n es.reverse
  | 0, _, es => by
    show es ∈ [[]] ↔ _
    rw [List.mem_singleton]
    constructor
    · rintro rfl; exact ⟨rfl, Nat.le_refl _⟩
    · intro h
      have := h.len
      rw [List.length_reverse] at this
      exact List.eq_nil_of_length_eq_zero this.symm
  | k + 1, hk, es => by
    show es ∈ (pairs F.n k).flatMap _ ↔ _
    rw [List.mem_flatMap]
    constructor
    · rintro ⟨t, ht, hm⟩
      rw [List.mem_map] at hm
      obtain ⟨e, he, rfl⟩ := hm
      have hp := (mem_pairs k (by omega) t).mp ht
      have hl := hp.len
      rw [List.reverse_append, List.reverse_singleton, List.singleton_append]
      rw [mem_nexts] at he
      refine ⟨Nat.le_refl _, by omega, by show t.reverse.length < F.m; omega, free_fate _ _, ?_⟩
      rcases he with rfl | ⟨q, rfl, h1, h2⟩
      · exact .inl ⟨rfl, hl ▸ hp⟩
      · exact .inr ⟨q, rfl, h1, (pre_lt (F := F.free) _ _ q (Nat.le_of_lt h1)).mpr ⟨hl ▸ hp, fun x hx => h2 x (by simpa using hx)⟩⟩
    · intro h
      cases hr : es.reverse with
      | nil => rw [hr] at h; have := h.1; omega
      | cons e r =>
        rw [hr] at h
        have ees : es = r.reverse ++ [e] := by
          have := congrArg List.reverse hr
          rw [List.reverse_reverse, List.reverse_cons] at this
          exact this
        obtain ⟨_, h1, h2, _, h3⟩ := h
        have hk2 : k = r.length := by omega
        refine ⟨r.reverse, (mem_pairs k (by omega) _).mpr ?_, ?_⟩
        · rw [List.reverse_reverse]
          rcases h3 with ⟨_, h3⟩ | ⟨q, _, h4, h5⟩
          · exact hk2 ▸ h3
          · exact hk2 ▸ h5.mono (Nat.le_of_lt h4) (Nat.le_refl _)
        · rw [List.mem_map]
          refine ⟨e, mem_nexts.mpr ?_, ees.symm⟩
          rcases h3 with ⟨h3, _⟩ | ⟨q, h3, h4, h5⟩
          · exact .inl h3
          · exact .inr ⟨q, h3, h4, fun x hx => ((pre_lt (F := F.free) _ _ q (Nat.le_of_lt h4)).mp h5).2 x (by simpa using hx)⟩
/-- all fates -/
theorem mem_all (es : List Int) : es ∈ pairs F.n F.m ↔ F.free.Ok 0 0 es := by
  rw [mem_pairs F.m (Nat.le_refl _) es, ok_pre (F := F.free)]
  exact Iff.rfl
theorem ok_len {es : List Int} (h : F.Ok 0 0 es) : es.length = F.m := by
  have := ((ok_pre es).mp h).len
  rw [List.length_reverse] at this
  exact this.symm
/-- the law's price -/
def Fx.price (F : Fx) (es : List Int) : Int := (F.m : Int) + F.n - 2 * sty es + F.chg 0 es
theorem price_cost (es : List Int) : F.price es = F.cost 0 0 es := by
  simp only [Fx.price, Fx.cost]
  omega
/-- hints: pairs of a line and its fate -/
def tells (hs : List (Nat × Int)) (es : List Int) : Bool := hs.all fun p => es[p.1]? == some p.2
def lookH (hs : List (Nat × Int)) (l : Nat) : Option Int := hs.lookup l
theorem look_mem : ∀ {hs : List (Nat × Int)}, (hs.map (·.1)).Nodup → ∀ {l : Nat} {f : Int}, lookH hs l = some f ↔ (l, f) ∈ hs
  | [], _, l, f => by simp [lookH]
  | (a, b) :: hs, nd, l, f => by
    rw [List.map_cons, List.nodup_cons] at nd
    have ih := look_mem nd.2 (l := l) (f := f)
    unfold lookH at ih ⊢
    rw [List.lookup_cons]
    by_cases h : l = a
    · subst h
      simp only [beq_self_eq_true, if_pos]
      constructor
      · intro z; cases z; simp
      · intro z
        rcases List.mem_cons.mp z with z | z
        · cases z; rfl
        · exact absurd (List.mem_map.mpr ⟨_, z, rfl⟩) nd.1
    · have : (l == a) = false := by simpa using h
      rw [this]
      dsimp only
      rw [ih]
      constructor
      · exact fun z => List.mem_cons_of_mem _ z
      · intro z
        rcases List.mem_cons.mp z with z | z
        · cases z; exact absurd rfl h
        · exact z
theorem tells_iff {hs : List (Nat × Int)} (nd : (hs.map (·.1)).Nodup) (hl : ∀ p ∈ hs, p.1 < F.m) (hF : F.told = lookH hs) {es : List Int} (h : es.length = F.m) : tells hs es = true ↔ ∀ l e, es[l]? = some e → F.fate (0 + l) e := by
  unfold tells
  rw [List.all_eq_true]
  constructor
  · intro q l e he f hf
    rw [hF, Nat.zero_add, look_mem nd] at hf
    have := q _ hf
    rw [beq_iff_eq] at this
    dsimp only at this
    rw [he] at this
    exact (Option.some.inj this).symm
  · rintro q ⟨l, f⟩ hp
    rw [beq_iff_eq]
    dsimp only
    have hlt : l < es.length := by rw [h]; exact hl _ hp
    rw [List.getElem?_eq_getElem hlt]
    congr 1
    have := q l es[l] (List.getElem?_eq_getElem hlt) f (by rw [hF, Nat.zero_add, look_mem nd]; exact hp)
    exact this.symm
def known (F : Fx) (hs : List (Nat × Int)) : List (List Int) := (pairs F.n F.m).filter (tells hs)
theorem mem_known {hs : List (Nat × Int)} (nd : (hs.map (·.1)).Nodup) (hl : ∀ p ∈ hs, p.1 < F.m) (hF : F.told = lookH hs) (es : List Int) : es ∈ known F hs ↔ F.Ok 0 0 es := by
  unfold known
  rw [List.mem_filter, mem_all, ok_facts (F := F) es 0 0]
  constructor
  · rintro ⟨h1, h2⟩
    have h3 : es.length = F.m := ok_len (F := F.free) h1
    exact ⟨h1, (tells_iff nd hl hF h3).mp h2⟩
  · rintro ⟨h1, h2⟩
    have h3 : es.length = F.m := ok_len (F := F.free) h1
    exact ⟨h1, (tells_iff nd hl hF h3).mpr h2⟩
theorem least_known {hs : List (Nat × Int)} (nd : (hs.map (·.1)).Nodup) (hl : ∀ p ∈ hs, p.1 < F.m) (hF : F.told = lookH hs) : IsMin (minL ((known F hs).map F.price)) (F.S 0 0) := by
  refine (minL_min _).congr fun c => ?_
  rw [List.mem_map]
  constructor
  · rintro ⟨es, h, e⟩
    exact ⟨es, (mem_known nd hl hF es).mp h, by rw [← price_cost]; exact e⟩
  · rintro ⟨es, h, e⟩
    exact ⟨es, (mem_known nd hl hF es).mpr h, by rw [price_cost]; exact e⟩
theorem least_at {hs : List (Nat × Int)} (nd : (hs.map (·.1)).Nodup) (hl : ∀ p ∈ hs, p.1 < F.m) (hF : F.told = lookH hs) (l : Nat) (e : Int) : IsMin (minL (((known F hs).filter fun es => es[l]? == some e).map F.price)) (F.K l e) := by
  refine (minL_min _).congr fun c => ?_
  rw [List.mem_map]
  constructor
  · rintro ⟨es, h, q⟩
    rw [List.mem_filter] at h
    exact ⟨es, (mem_known nd hl hF es).mp h.1, by simpa using h.2, by rw [← price_cost]; exact q⟩
  · rintro ⟨es, h, h2, q⟩
    exact ⟨es, List.mem_filter.mpr ⟨(mem_known nd hl hF es).mpr h, by simpa using h2⟩, by rw [price_cost]; exact q⟩
end DI.Ft
namespace DI
open Ft
/-! the small defs of the fates laws -/
def oD : Option Int → D
  | none => .non
  | some c => .int c
theorem sp_sum_none (k : D) (m : Mem) : F_sum_of [.d .non, .d k] m = .ok (.d .non) m := by
  simp [F_sum_of, s_sum_of, mkFn]
theorem sp_sum_int (c k : Int) (m : Mem) : F_sum_of [.d (.int c), .d (.int k)] m = .ok (.d (.int (c + k))) m := by
  simp [F_sum_of, s_sum_of, mkFn, dIsN]
theorem sp_sum (o : Option Int) (k : Int) (m : Mem) : F_sum_of [.d (oD o), .d (.int k)] m = .ok (.d (oD (plus o k))) m := by
  cases o with
  | none => exact sp_sum_none _ m
  | some c => exact sp_sum_int c k m
theorem minI_minL : ∀ ns : List Int, minI ns = minL ns
  | [] => rfl
  | [a] => rfl
  | a :: b :: r => by
    have ih := minI_minL (b :: r)
    have e : minI (a :: b :: r) = match minI (b :: r) with
      | some c => some (if c < a then c else a)
      | none => none := rfl
    have e2 : minL (a :: b :: r) = match minL (b :: r) with
      | none => some a
      | some c => some (if c < a then c else a) := rfl
    rw [e, e2, ih]
    cases h : minL (b :: r) with
    | none =>
      exfalso
      have e3 : minL (b :: r) = match minL r with
        | none => some b
        | some c => some (if c < b then c else b) := rfl
      rw [e3] at h
      split at h <;> cases h
    | some c => rfl
theorem min_ints {ns : List Int} {c : Int} (h : minL ns = some c) : dMin (.lst (ns.map .int)) = some (.int c) := by
  show ((intsD (ns.map .int)).bind fun ns => (minI ns).map D.int) = _
  rw [intsD_map, Option.bind_some, minI_minL, h]
  rfl
theorem minL_none {ns : List Int} : minL ns = none ↔ ns = [] := by
  cases ns with
  | nil => simp [minL]
  | cons a r =>
    have e : minL (a :: r) = match minL r with
      | none => some a
      | some c => some (if c < a then c else a) := rfl
    rw [e]
    split <;> simp
theorem filter_oD : ∀ os : List (Option Int), ((os.filter fun o => o.isSome).map oD) = (os.filterMap id).map .int
  | [] => rfl
  | none :: os => by simpa using filter_oD os
  | some c :: os => by simpa [oD] using filter_oD os
theorem depAll_i : ∀ ns : List Int, D.depAll (ns.map .int) = 0
  | [] => rfl
  | n :: ns => by simp [D.depAll, D.dep, depAll_i ns]
theorem ne_nil_ints (ns : List Int) : dNe (.lst (ns.map .int)) (.lst []) = some (.bl (!decide (ns = []))) := by
  cases ns with
  | nil => rfl
  | cons a r => simp [dNe, D.dep, D.depAll, D.eqv, D.eqvAll, depAll_i]
theorem sp_least_of {os : List (Option Int)} (h : os.length ≤ 1000000) (m : Mem) : F_least_of [.d (.lst (os.map oD))] m = .ok (.d (oD (mins os))) m := by
  simp only [F_least_of, s_least_of, mkFn]
  have lc : lcL (tN 2) (e1 dNotN (eV 2)) (eV 2) (os.map oD) [some (.d (.lst (os.map oD))), none, none] m [] = .ok ((os.filterMap id).map .int) m := by
    rw [lcL_map (p := fun o : Option Int => o.isSome) (g := oD), List.nil_append, filter_oD]
    intro o _
    refine ⟨_, rfl, ?_, fun _ => ?_⟩
    · cases o <;> simp [oD, dNotN]
    · simp
  unfold mins
  have h' : os.length ≤ 16777216 := by omega
  generalize os.filterMap id = ns at lc
  cases e : minL ns with
  | none =>
    have := minL_none.mp e
    subst this
    simp at lc
    simp [lc, h', show dNe (.lst []) (.lst []) = some (.bl false) from rfl, oD]
  | some c =>
    have hne : ns ≠ [] := fun z => by rw [minL_none.mpr z] at e; cases e
    simp [lc, h', ne_nil_ints, hne, min_ints e, oD]
/-- Steps(one, other, facts) -/
def stp (F : Fx) (hs : List (Nat × Int)) : D := .ins "Steps" ["one", "other", "told"] [.str F.one, .str F.other, .dct (hs.map fun p => .int (p.1 : Int)) (hs.map fun p => .int p.2)]
theorem dct_look (l : Nat) : ∀ hs : List (Nat × Int), dctGet (hs.map fun p => .int (p.1 : Int)) (hs.map fun p => .int p.2) (.int (l : Int)) = (lookH hs l).map .int
  | [] => rfl
  | (a, b) :: hs => by
    have ih := dct_look l hs
    unfold lookH at ih ⊢
    rw [List.map_cons, List.map_cons, List.lookup_cons]
    show (if keyEq (.int (a : Int)) (.int (l : Int)) = true then _ else _) = _
    by_cases h : l = a
    · subst h
      simp [keyEq]
    · have h1 : (l == a) = false := by simpa using h
      have h2 : keyEq (.int (a : Int)) (.int (l : Int)) = false := by
        simp [keyEq]
        omega
      rw [h1, h2]
      exact ih
variable {F : Fx} {hs : List (Nat × Int)}
theorem getD_fate (hF : F.told = lookH hs) (l : Nat) (e : Int) : ((lookH hs l).map D.int).getD (.int e) = .int ((F.told l).getD e) := by
  rw [hF]
  cases lookH hs l <;> rfl
theorem fate_getD (l : Nat) (e : Int) : F.fate l e ↔ (F.told l).getD e = e := by
  unfold Fx.fate
  cases F.told l with
  | none => simp
  | some f => simp
theorem sp_goes (hF : F.told = lookH hs) (l : Nat) (m : Mem) : F_Steps_goes [.d (stp F hs), .d (.int (l : Int))] m = .ok (.d (oD (if F.fate l (-1) then some 1 else none))) m := by
  simp only [F_Steps_goes, s_Steps_goes, mkFn, stp]
  have hg := dct_look l hs
  by_cases h : F.fate l (-1)
  · have h2 := (fate_getD l (-1)).mp h
    simp [insGet, D.isKey, hg, getD_fate hF, h2, h, oD]
  · have h2 : ¬ (F.told l).getD (-1) = -1 := fun z => h ((fate_getD l (-1)).mpr z)
    simp [insGet, D.isKey, hg, getD_fate hF, h2, h, oD]
theorem sp_stays (hF : F.told = lookH hs) {l s : Nat} (hl : l < F.m) (hs' : s < F.n) (h1 : F.m ≤ 1000000) (h2 : F.n ≤ 1000000) (m : Mem) : F_Steps_stays [.d (stp F hs), .d (.int (l : Int)), .d (.int (s : Int))] m = .ok (.d (oD (if F.fate l (s : Int) then some (F.ch l s) else none))) m := by
  simp only [F_Steps_stays, s_Steps_stays, mkFn, stp]
  have hg := dct_look l hs
  unfold Fx.m at hl h1
  unfold Fx.n at hs' h2
  have h1' : F.one.length ≤ 16777216 := by omega
  have h2' : F.other.length ≤ 16777216 := by omega
  by_cases h : F.fate l (s : Int)
  · have h3 := (fate_getD l (s : Int)).mp h
    have e1 : atD F.one (l : Int) = some F.one[l] := by rw [atD_nat, List.getElem?_eq_getElem hl]
    have e2 : atD F.other (s : Int) = some F.other[s] := by rw [atD_nat, List.getElem?_eq_getElem hs']
    have e3 : F.ch l s = if F.one[l] = F.other[s] then 0 else 1 := by
      rw [ch_nat, List.getElem?_eq_getElem hl, List.getElem?_eq_getElem hs']
      by_cases z : F.one[l] = F.other[s] <;> simp [z]
    by_cases z : F.one[l] = F.other[s] <;> simp [insGet, D.isKey, hg, getD_fate hF, h3, h, oD, e1, e2, e3, h1', h2', z]
  · have h3 : ¬ (F.told l).getD (s : Int) = s := fun z => h ((fate_getD l (s : Int)).mpr z)
    have hb : ((F.told l).getD (s : Int) == (s : Int)) = false := by simpa using h3
    simp [insGet, D.isKey, hg, getD_fate hF, hb, h, oD]
theorem sp_joined (a k b : Option Int) (m : Mem) : F_joined [.d (oD a), .d (oD k), .d (oD b)] m = .ok (.d (oD (join3 a k b))) m := by
  cases a <;> cases k <;> cases b <;> simp [F_joined, s_joined, mkFn, oD, join3, dIsN]
end DI
namespace DI
open Ft
/-! the tables behind and ahead -/
section
variable {F : Fx} {hs : List (Nat × Int)} {a : SE} {es : List SE} {xs : List PV} {ρ : Env} {m M : Mem} {t i j : Nat} {rows : List (List D)} {L : List (Option Int)} {b1 b2 b3 : Option Int}
theorem meth_stp {n : String} {G : Fn} (hn : n ∉ ["one", "other", "told"]) (ha : a ρ m = .ok (.d (stp F hs)) m) (he : eArgs es ρ m = .ok xs m) : eMethD "Steps" n G a es ρ m = G (.d (stp F hs) :: xs) m := by
  rw [ev_meth, ha, Res.bind_ok]
  unfold stp
  dsimp only
  rw [if_pos ⟨rfl, hn⟩, he, Res.bind_ok]
def cell (rows : List (List D)) (i j : Nat) : Option D := (rows[i]?).bind fun r => r[j]?
theorem ix2_cell {f1 f2 : SE} {k l : Nat} {x : D} (ha : a ρ m = .ok (.obj t) m) (h1 : f1 ρ m = .ok (.d (.int (k : Int))) m) (h2 : f2 ρ m = .ok (.d (.int (l : Int))) m) (hm : m[t]? = some (.l2 rows)) (hx : cell rows k l = some x) : eIx2 a f1 f2 ρ m = .ok (.d x) m := by
  unfold cell at hx
  cases hr : rows[k]? with
  | none => rw [hr] at hx; cases hx
  | some row => rw [hr] at hx; exact ix2_at ha h1 h2 hm hr hx
/-- the slots of the loop's body -/
abbrev rB (F : Fx) (hs : List (Nat × Int)) (t i j : Nat) (v : Option PV) : Env := [some (.d (stp F hs)), some (.d (.int F.m)), some (.d (.int F.n)), some (.obj t), some (.d (.int (i : Int))), some (.d (.int (j : Int))), v]
/-- what is known is put behind -/
theorem app_oD {e : SE} {o : Option Int} (hρ : ρ[6]? = some (some (.obj M.length))) (he : e ρ (M ++ [.l1 (L.map oD)]) = .ok (.d (oD o)) (M ++ [.l1 (L.map oD)])) (hl : L.length ≤ 1000) : sApp (eV 6) e ρ (M ++ [.l1 (L.map oD)]) = .nx ρ (M ++ [.l1 ((L ++ [o]).map oD)]) := by
  have h' : L.length < 16777216 := by omega
  simp [hρ, he, h']
theorem goes_at (hF : F.told = lookH hs) {e : SE} {k : Nat} (h0 : ρ[0]? = some (some (.d (stp F hs)))) (he : e ρ m = .ok (.d (.int (k : Int))) m) : eMethD "Steps" "goes" F_Steps_goes (eV 0) [e] ρ m = .ok (.d (oD (if F.fate k (-1) then some 1 else none))) m := by
  rw [meth_stp (F := F) (hs := hs) (xs := [.d (.int (k : Int))]) (by decide) (by simp [h0]) (by simp [he]), sp_goes hF]
theorem stays_at (hF : F.told = lookH hs) (h1 : F.m ≤ 1000000) (h2 : F.n ≤ 1000000) {e e' : SE} {k l : Nat} (hk : k < F.m) (hl : l < F.n) (h0 : ρ[0]? = some (some (.d (stp F hs)))) (he : e ρ m = .ok (.d (.int (k : Int))) m) (he' : e' ρ m = .ok (.d (.int (l : Int))) m) :
    eMethD "Steps" "stays" F_Steps_stays (eV 0) [e, e'] ρ m = .ok (.d (oD (if F.fate k (l : Int) then some (F.ch k l) else none))) m := by
  rw [meth_stp (F := F) (hs := hs) (xs := [.d (.int (k : Int)), .d (.int (l : Int))]) (by decide) (by simp [h0]) (by simp [he, he']), sp_stays hF hk hl h1 h2]
theorem and_ok {a c : SE} {b b' : Bool} (h1 : a ρ m = .ok (.d (.bl b)) m) (h2 : b = true → c ρ m = .ok (.d (.bl b')) m) : eAnd a c ρ m = .ok (.d (.bl (b && b'))) m := by
  rw [ev_eAnd, h1, Res.bind_ok, tst_bl]
  cases b with
  | true => rw [if_pos rfl, h2 rfl]; rfl
  | false => rfl
theorem notN_ok {q : SE} {o : Option Int} (h : q ρ m = .ok (.d (oD o)) m) : e1 dNotN q ρ m = .ok (.d (.bl o.isSome)) m := by
  rw [ev_e1, h, Res.bind_ok]
  cases o <;> rfl
/-- a turn's part: when c and b, o is put behind -/
theorem part_ok {c e : SE} {b : Bool} {o : Option Int} {p : Prop} [Decidable p] (hρ : ρ[6]? = some (some (.obj M.length))) (hc : c ρ (M ++ [.l1 (L.map oD)]) = .ok (.d (.bl b)) (M ++ [.l1 (L.map oD)])) (hp : b = decide p)
    (he : p → e ρ (M ++ [.l1 (L.map oD)]) = .ok (.d (oD o)) (M ++ [.l1 (L.map oD)])) (hl : L.length ≤ 1000) : sIf c (sApp (eV 6) e) sNil ρ (M ++ [.l1 (L.map oD)]) = .nx ρ (M ++ [.l1 ((L ++ (if p then [o] else [])).map oD)]) := by
  rw [ev_if, hc, hp]
  by_cases h : p
  · rw [decide_eq_true h, if_t, app_oD hρ (he h) hl, if_pos h]
  · rw [decide_eq_false h, if_f, if_neg h, List.append_nil]
    rfl
theorem sum_at {e : SE} {o : Option Int} {f : SE} {k : Int} (h : e ρ m = .ok (.d (oD o)) m) (hk : f ρ m = .ok (.d (.int k)) m) : eCall F_sum_of [e, f] ρ m = .ok (.d (oD (plus o k))) m := by
  rw [ev_eCall, ev_args, h, Res.bind_ok, ev_args, hk, Res.bind_ok, ev_args0]
  exact sp_sum o k m
theorem tab_ap {x : MO} (ht : M[t]? = some (.l2 rows)) : (M ++ [x])[t]? = some (.l2 rows) := by rw [List.getElem?_append_left (List.getElem?_eq_some_iff.mp ht).1]; exact ht
theorem b_goes (hF : F.told = lookH hs) (ht : M[t]? = some (.l2 rows)) (hL : L.length ≤ 1000) (hb : i < F.m → cell rows (i + 1) j = some (oD b1)) :
    sIf (eAnd (e2 dLt (eV 4) (eV 1)) (e1 dNotN (eMethD "Steps" "goes" F_Steps_goes (eV 0) [eV 4]))) (sApp (eV 6) (eCall F_sum_of [eIx2 (eV 3) (e2 dAdd (eV 4) (eC (.int 1))) (eV 5), eC (.int 1)])) sNil (rB F hs t i j (some (.obj M.length))) (M ++ [.l1 (L.map oD)])
      = .nx (rB F hs t i j (some (.obj M.length))) (M ++ [.l1 ((L ++ (if i < F.m ∧ F.fate i (-1) then [plus b1 1] else [])).map oD)]) := by
  refine part_ok rfl (and_ok (b := decide (i < F.m)) (by simp) fun _ => notN_ok (goes_at hF rfl rfl)) ?_ (fun h => sum_at (ix2_cell (t := t) (k := i + 1) (l := j) rfl (by simp) rfl (tab_ap ht) (hb h.1)) rfl) hL
  by_cases h1 : i < F.m <;> by_cases h2 : F.fate i (-1) <;> simp [h1, h2]
theorem b_skip (ht : M[t]? = some (.l2 rows)) (hL : L.length ≤ 1000) (hb : j < F.n → cell rows i (j + 1) = some (oD b2)) :
    sIf (e2 dLt (eV 5) (eV 2)) (sApp (eV 6) (eCall F_sum_of [eIx2 (eV 3) (eV 4) (e2 dAdd (eV 5) (eC (.int 1))), eC (.int 1)])) sNil (rB F hs t i j (some (.obj M.length))) (M ++ [.l1 (L.map oD)])
      = .nx (rB F hs t i j (some (.obj M.length))) (M ++ [.l1 ((L ++ (if j < F.n then [plus b2 1] else [])).map oD)]) := by
  refine part_ok rfl (b := decide (j < F.n)) (by simp) rfl (fun h => sum_at (ix2_cell (t := t) (k := i) (l := j + 1) rfl rfl (by simp) (tab_ap ht) (hb h)) rfl) hL
theorem b_stay (hF : F.told = lookH hs) (h1 : F.m ≤ 1000000) (h2 : F.n ≤ 1000000) (ht : M[t]? = some (.l2 rows)) (hL : L.length ≤ 1000) (hb : i < F.m → j < F.n → cell rows (i + 1) (j + 1) = some (oD b3)) :
    sIf (eAnd (e2 dLt (eV 4) (eV 1)) (eAnd (e2 dLt (eV 5) (eV 2)) (e1 dNotN (eMethD "Steps" "stays" F_Steps_stays (eV 0) [eV 4, eV 5])))) (sApp (eV 6) (eCall F_sum_of [eIx2 (eV 3) (e2 dAdd (eV 4) (eC (.int 1))) (e2 dAdd (eV 5) (eC (.int 1))), eMethD "Steps" "stays" F_Steps_stays (eV 0) [eV 4, eV 5]])) sNil (rB F hs t i j (some (.obj M.length))) (M ++ [.l1 (L.map oD)])
      = .nx (rB F hs t i j (some (.obj M.length))) (M ++ [.l1 ((L ++ (if i < F.m ∧ j < F.n ∧ F.fate i (j : Int) then [plus b3 (F.ch i (j : Int))] else [])).map oD)]) := by
  by_cases hij : i < F.m ∧ j < F.n
  · have st := stays_at (e := eV 4) (e' := eV 5) (ρ := rB F hs t i j (some (.obj M.length))) (m := M ++ [.l1 (L.map oD)]) hF h1 h2 hij.1 hij.2 rfl rfl rfl
    refine part_ok rfl (and_ok (b := decide (i < F.m)) (by simp) fun _ => and_ok (b := decide (j < F.n)) (by simp) fun _ => notN_ok st) ?_ (fun h => ?_) hL
    · by_cases h3 : F.fate i (j : Int) <;> simp [hij.1, hij.2, h3]
    · rw [if_pos h.2.2] at st
      exact sum_at (ix2_cell (t := t) (k := i + 1) (l := j + 1) rfl (by simp) (by simp) (tab_ap ht) (hb h.1 h.2.1)) st
  · refine part_ok (b := false) rfl ?_ (by simp; intro z1 z2; exact absurd ⟨z1, z2⟩ hij) (fun h => absurd ⟨h.1, h.2.1⟩ hij) hL
    rw [ev_eAnd]
    by_cases hi : i < F.m
    · have hj : ¬ j < F.n := fun z => hij ⟨hi, z⟩
      simp [hi, hj]
    · simp [hi]
abbrev bBody : SS := (sSeq (sAsg (tN 6) (eNw (nIf (eAnd (e2 dEq (eV 4) (eV 1)) (e2 dEq (eV 5) (eV 2))) (nLst [eCall F_sum_of [eC (.int 0), eC (.int 0)]]) (nLst [])))) (sSeq (sIf (eAnd (e2 dLt (eV 4) (eV 1)) (e1 dNotN (eMethD "Steps" "goes" F_Steps_goes (eV 0) [eV 4]))) (sApp (eV 6) (eCall F_sum_of [eIx2 (eV 3) (e2 dAdd (eV 4) (eC (.int 1))) (eV 5), eC (.int 1)])) (sNil)) (sSeq (sIf (e2 dLt (eV 5) (eV 2)) (sApp (eV 6) (eCall F_sum_of [eIx2 (eV 3) (eV 4) (e2 dAdd (eV 5) (eC (.int 1))), eC (.int 1)])) (sNil)) (sSeq (sIf (eAnd (e2 dLt (eV 4) (eV 1)) (eAnd (e2 dLt (eV 5) (eV 2)) (e1 dNotN (eMethD "Steps" "stays" F_Steps_stays (eV 0) [eV 4, eV 5])))) (sApp (eV 6) (eCall F_sum_of [eIx2 (eV 3) (e2 dAdd (eV 4) (eC (.int 1))) (e2 dAdd (eV 5) (eC (.int 1))), eMethD "Steps" "stays" F_Steps_stays (eV 0) [eV 4, eV 5]])) (sNil)) (sFz 6 (sSet2 (eV 3) (eV 4) (eV 5) (eCall F_least_of [eV 6])))))))
abbrev aBody : SS := (sSeq (sAsg (tN 6) (eNw (nIf (eAnd (e2 dEq (eV 4) (eC (.int 0))) (e2 dEq (eV 5) (eC (.int 0)))) (nLst [eCall F_sum_of [eC (.int 0), eC (.int 0)]]) (nLst [])))) (sSeq (sIf (eAnd (e2 dGt (eV 4) (eC (.int 0))) (e1 dNotN (eMethD "Steps" "goes" F_Steps_goes (eV 0) [e2 dSub (eV 4) (eC (.int 1))]))) (sApp (eV 6) (eCall F_sum_of [eIx2 (eV 3) (e2 dSub (eV 4) (eC (.int 1))) (eV 5), eC (.int 1)])) (sNil)) (sSeq (sIf (e2 dGt (eV 5) (eC (.int 0))) (sApp (eV 6) (eCall F_sum_of [eIx2 (eV 3) (eV 4) (e2 dSub (eV 5) (eC (.int 1))), eC (.int 1)])) (sNil)) (sSeq (sIf (eAnd (e2 dGt (eV 4) (eC (.int 0))) (eAnd (e2 dGt (eV 5) (eC (.int 0))) (e1 dNotN (eMethD "Steps" "stays" F_Steps_stays (eV 0) [e2 dSub (eV 4) (eC (.int 1)), e2 dSub (eV 5) (eC (.int 1))])))) (sApp (eV 6) (eCall F_sum_of [eIx2 (eV 3) (e2 dSub (eV 4) (eC (.int 1))) (e2 dSub (eV 5) (eC (.int 1))), eMethD "Steps" "stays" F_Steps_stays (eV 0) [e2 dSub (eV 4) (eC (.int 1)), e2 dSub (eV 5) (eC (.int 1))]])) (sNil)) (sFz 6 (sSet2 (eV 3) (eV 4) (eV 5) (eCall F_least_of [eV 6])))))))
theorem first_at {c : SE} {p : Prop} [Decidable p] {v : Option PV} (hc : c (rB F hs t i j v) M = .ok (.d (.bl (decide p))) M) : sAsg (tN 6) (eNw (nIf c (nLst [eCall F_sum_of [eC (.int 0), eC (.int 0)]]) (nLst []))) (rB F hs t i j v) M
      = .nx (rB F hs t i j (some (.obj M.length))) (M ++ [.l1 ((if p then [some 0] else []).map oD)]) := by
  rw [ev_asg, ev_eNw, ev_nIf, hc]
  by_cases h : p
  · simp [h, sp_sum_int, oD]
  · simp [h]
theorem end_at {L : List (Option Int)} {row : List D} (hL : L.length ≤ 1000) (ht : M[t]? = some (.l2 rows)) (hr : rows[i]? = some row) (hl : j < row.length) :
    sFz 6 (sSet2 (eV 3) (eV 4) (eV 5) (eCall F_least_of [eV 6])) (rB F hs t i j (some (.obj M.length))) (M ++ [.l1 (L.map oD)])
      = .nx (rB F hs t i j (some (.d (.lst (L.map oD))))) ((M ++ [MO.fz (L.map oD)]).set t (.l2 (rows.set i (row.set j (oD (mins L)))))) := by
  have e : sFz 6 (sSet2 (eV 3) (eV 4) (eV 5) (eCall F_least_of [eV 6])) (rB F hs t i j (some (.obj M.length))) (M ++ [.l1 (L.map oD)]) = sSet2 (eV 3) (eV 4) (eV 5) (eCall F_least_of [eV 6]) (rB F hs t i j (some (.d (.lst (L.map oD))))) (M ++ [MO.fz (L.map oD)]) := by
    rw [ev_fz]
    simp
  rw [e]
  have hq : eCall F_least_of [eV 6] (rB F hs t i j (some (.d (.lst (L.map oD))))) (M ++ [MO.fz (L.map oD)]) = .ok (.d (oD (mins L))) (M ++ [MO.fz (L.map oD)]) := by
    rw [ev_eCall]
    simp [sp_least_of (show L.length ≤ 1000000 by omega)]
  exact set2_at (fe := eCall F_least_of [eV 6]) hq rfl rfl rfl (tab_ap ht) hr hl
theorem len_if {α : Type} {p : Prop} [Decidable p] {x : α} : (if p then [x] else []).length ≤ 1 := by split <;> simp
theorem b_body (hF : F.told = lookH hs) (h1 : F.m ≤ 1000000) (h2 : F.n ≤ 1000000) (ht : M[t]? = some (.l2 rows)) {row : List D} (hr : rows[i]? = some row) (hl : j < row.length) (hb1 : i < F.m → cell rows (i + 1) j = some (oD b1)) (hb2 : j < F.n → cell rows i (j + 1) = some (oD b2)) (hb3 : i < F.m → j < F.n → cell rows (i + 1) (j + 1) = some (oD b3)) (v : Option PV) :
    bBody (rB F hs t i j v) M = .nx (rB F hs t i j (some (.d (.lst ((bList F i j b1 b2 b3).map oD))))) ((M ++ [MO.fz ((bList F i j b1 b2 b3).map oD)]).set t (.l2 (rows.set i (row.set j (oD (mins (bList F i j b1 b2 b3))))))) := by
  have l1 := len_if (p := i = F.m ∧ j = F.n) (x := some (0 : Int))
  have l2 := len_if (p := i < F.m ∧ F.fate i (-1)) (x := plus b1 1)
  have l3 := len_if (p := j < F.n) (x := plus b2 1)
  have l4 := len_if (p := i < F.m ∧ j < F.n ∧ F.fate i (j : Int)) (x := plus b3 (F.ch i (j : Int)))
  unfold bBody
  rw [ev_seq, first_at (p := i = F.m ∧ j = F.n) (by
    rw [and_ok (b := decide (i = F.m)) (b' := decide (j = F.n)) (by simp [Int.ofNat_inj]; rw [Bool.eq_iff_iff]; simp; omega) (fun _ => by simp; rw [Bool.eq_iff_iff]; simp; omega)]
    simp), at_nx]
  rw [ev_seq, b_goes hF ht (by omega) hb1, at_nx, ev_seq, b_skip ht (by rw [List.length_append]; omega) hb2, at_nx, ev_seq, b_stay hF h1 h2 ht (by simp only [List.length_append]; omega) hb3, at_nx]
  have e : (((if i = F.m ∧ j = F.n then [some (0 : Int)] else []) ++ (if i < F.m ∧ F.fate i (-1) then [plus b1 1] else [])) ++ (if j < F.n then [plus b2 1] else [])) ++ (if i < F.m ∧ j < F.n ∧ F.fate i (j : Int) then [plus b3 (F.ch i (j : Int))] else []) = bList F i j b1 b2 b3 := by
    unfold bList
    simp only [List.append_assoc]
  rw [e]
  exact end_at (by rw [← e]; simp only [List.length_append]; omega) ht hr hl
end
end DI
namespace DI
open Ft
/-! the loops of the table behind -/
def dn : Nat → List D
  | 0 => []
  | q + 1 => .int (q : Int) :: dn q
theorem rngDn_dn (n : Nat) : rngDn (n : Int) (-1) = dn (n + 1) := by
  unfold rngDn
  have e : ((n : Int) - -1).toNat = n + 1 := by omega
  rw [e]
  have key : ∀ (k n : Nat), k ≤ n + 1 → dn k = (List.range k).map fun (j : Nat) => D.int ((k : Int) - 1 - (j : Int)) := by
    intro k
    induction k with
    | zero => intro n _; rfl
    | succ k ih =>
      intro n hn
      show .int (k : Int) :: dn k = _
      rw [ih n (by omega), List.range_succ_eq_map, List.map_cons, List.map_map]
      congr 1
      · congr 1; simp
      · apply List.map_congr_left
        intro j _
        show D.int _ = D.int _
        congr 1
        simp
        omega
  rw [key (n + 1) n (Nat.le_refl _)]
  apply List.map_congr_left
  intro j _
  congr 1
  simp
section
variable {F : Fx} {hs : List (Nat × Int)} {m0 : Mem} {rows : List (List D)}
def Shape (F : Fx) (rows : List (List D)) : Prop := rows.length = F.m + 1 ∧ ∀ r ∈ rows, r.length = F.n + 1
def Good (P : Nat → Nat → Int → Prop) (rows : List (List D)) (i j : Nat) : Prop := ∃ o, cell rows i j = some (oD o) ∧ IsMin o (P i j)
theorem Shape.row (h : Shape F rows) {i : Nat} (hi : i ≤ F.m) : ∃ row, rows[i]? = some row ∧ row.length = F.n + 1 := by
  have hl : i < rows.length := by rw [h.1]; omega
  exact ⟨rows[i], List.getElem?_eq_getElem hl, h.2 _ (List.getElem_mem hl)⟩
theorem Shape.set (h : Shape F rows) {i j : Nat} {row : List D} {x : D} (hr : rows[i]? = some row) : Shape F (rows.set i (row.set j x)) := by
  refine ⟨by rw [List.length_set]; exact h.1, fun r hm => ?_⟩
  rcases List.mem_or_eq_of_mem_set hm with z | z
  · exact h.2 _ z
  · rw [z, List.length_set]
    exact h.2 _ (List.mem_of_getElem? hr)
theorem cell_set {i j i' j' : Nat} {row : List D} {x : D} (hr : rows[i]? = some row) (hj : j < row.length) : cell (rows.set i (row.set j x)) i' j' = if i' = i ∧ j' = j then some x else cell rows i' j' := by
  have hi : i < rows.length := (List.getElem?_eq_some_iff.mp hr).1
  unfold cell
  by_cases h : i' = i
  · subst h
    rw [List.getElem?_set_self hi, hr, Option.bind_some, Option.bind_some]
    by_cases h2 : j' = j
    · subst h2
      rw [List.getElem?_set_self hj, if_pos ⟨rfl, rfl⟩]
    · rw [List.getElem?_set_ne (Ne.symm h2), if_neg (fun z => h2 z.2)]
  · rw [List.getElem?_set_ne (Ne.symm h), if_neg (fun z => h z.1)]
structure InvT (F : Fx) (m0 : Mem) (ok : Nat → Nat → Prop) (P : Nat → Nat → Int → Prop) (M : Mem) : Prop where
  ex : ∃ rows rest, M = m0 ++ MO.l2 rows :: rest ∧ Shape F rows ∧ ∀ i j, i ≤ F.m → j ≤ F.n → ok i j → Good P rows i j
theorem at_m0 {rest : Mem} : (m0 ++ MO.l2 rows :: rest)[m0.length]? = some (.l2 rows) := by simp
theorem set_m0 {rest : Mem} {x y : MO} : ((m0 ++ MO.l2 rows :: rest) ++ [x]).set m0.length y = m0 ++ y :: (rest ++ [x]) := by
  rw [List.append_assoc, List.set_append_right _ _ (Nat.le_refl _)]
  simp
abbrev r5 (F : Fx) (hs : List (Nat × Int)) (t : Nat) (x4 x5 x6 : Option PV) : Env := [some (.d (stp F hs)), some (.d (.int F.m)), some (.d (.int F.n)), some (.obj t), x4, x5, x6]
theorem b_inner (hF : F.told = lookH hs) (h1 : F.m ≤ 1000000) (h2 : F.n ≤ 1000000) {i : Nat} (hi : i ≤ F.m) : ∀ (q : Nat), q ≤ F.n + 1 → ∀ (x5 x6 : Option PV) (M : Mem), InvT F m0 (fun i' j' => i < i' ∨ (i' = i ∧ q ≤ j')) F.S M →
    ∃ y5 y6 M', forL (tN 5) bBody (dn q) (r5 F hs m0.length (some (.d (.int (i : Int)))) x5 x6) M = .nx (r5 F hs m0.length (some (.d (.int (i : Int)))) y5 y6) M' ∧ InvT F m0 (fun i' j' => i ≤ i') F.S M'
  | 0, _, x5, x6, M, h => by
    obtain ⟨rows, rest, e, sh, g⟩ := h.ex
    exact ⟨x5, x6, M, rfl, ⟨rows, rest, e, sh, fun i' j' a b c => g i' j' a b (by omega)⟩⟩
  | q + 1, hq, x5, x6, M, h => by
    obtain ⟨rows, rest, e, sh, g⟩ := h.ex
    obtain ⟨row, hr, hl⟩ := sh.row hi
    subst e
    have ht : (m0 ++ MO.l2 rows :: rest)[m0.length]? = some (.l2 rows) := at_m0
    have c1 : ∃ o, i < F.m → cell rows (i + 1) q = some (oD o) ∧ IsMin o (F.S (i + 1) q) := by
      by_cases z : i < F.m
      · obtain ⟨o, a, b⟩ := g (i + 1) q (by omega) (by omega) (.inl (by omega)); exact ⟨o, fun _ => ⟨a, b⟩⟩
      · exact ⟨none, fun w => absurd w z⟩
    have c2 : ∃ o, q < F.n → cell rows i (q + 1) = some (oD o) ∧ IsMin o (F.S i (q + 1)) := by
      by_cases z : q < F.n
      · obtain ⟨o, a, b⟩ := g i (q + 1) hi (by omega) (.inr ⟨rfl, Nat.le_refl _⟩); exact ⟨o, fun _ => ⟨a, b⟩⟩
      · exact ⟨none, fun w => absurd w z⟩
    have c3 : ∃ o, i < F.m → q < F.n → cell rows (i + 1) (q + 1) = some (oD o) ∧ IsMin o (F.S (i + 1) (q + 1)) := by
      by_cases z : i < F.m ∧ q < F.n
      · obtain ⟨o, a, b⟩ := g (i + 1) (q + 1) (by omega) (by omega) (.inl (by omega)); exact ⟨o, fun _ _ => ⟨a, b⟩⟩
      · exact ⟨none, fun w w' => absurd ⟨w, w'⟩ z⟩
    obtain ⟨b1, c1⟩ := c1
    obtain ⟨b2, c2⟩ := c2
    obtain ⟨b3, c3⟩ := c3
    have hb := b_body hF h1 h2 ht hr (j := q) (by omega) (fun z => (c1 z).1) (fun z => (c2 z).1) (fun z z' => (c3 z z').1) x6
    rw [set_m0] at hb
    have hm := b_step (i := i) (j := q) (by omega) (fun z => (c1 z).2) (fun z => (c2 z).2) (fun z z' => (c3 z z').2)
    have inv2 : InvT F m0 (fun i' j' => i < i' ∨ (i' = i ∧ q ≤ j')) F.S (m0 ++ MO.l2 (rows.set i (row.set q (oD (mins (bList F i q b1 b2 b3))))) :: (rest ++ [MO.fz ((bList F i q b1 b2 b3).map oD)])) := by
      refine ⟨_, _, rfl, sh.set (j := q) (x := oD (mins (bList F i q b1 b2 b3))) hr, fun i' j' hi' hj' ok => ?_⟩
      unfold Good
      rw [cell_set hr (by omega)]
      by_cases z : i' = i ∧ j' = q
      · rw [if_pos z, z.1, z.2]
        exact ⟨_, rfl, hm⟩
      · rw [if_neg z]
        exact g i' j' hi' hj' (by omega)
    obtain ⟨y5, y6, M', e', i'⟩ := b_inner hF h1 h2 hi q (by omega) (some (.d (.int (q : Int)))) (some (.d (.lst ((bList F i q b1 b2 b3).map oD)))) _ inv2
    refine ⟨y5, y6, M', ?_, i'⟩
    rw [show dn (q + 1) = .int (q : Int) :: dn q from rfl, for_nx (ρ1 := rB F hs m0.length i q x6) rfl hb]
    exact e'
theorem b_outer (hF : F.told = lookH hs) (h1 : F.m ≤ 1000000) (h2 : F.n ≤ 1000000) : ∀ (p : Nat), p ≤ F.m + 1 → ∀ (x4 x5 x6 : Option PV) (M : Mem), InvT F m0 (fun i' j' => p ≤ i') F.S M →
    ∃ y4 y5 y6 M', forL (tN 4) (sFor (tN 5) (iRngDn (eV 2) (e1 dNeg (eC (.int 1))) (e1 dNeg (eC (.int 1)))) bBody) (dn p) (r5 F hs m0.length x4 x5 x6) M = .nx (r5 F hs m0.length y4 y5 y6) M' ∧ InvT F m0 (fun i' j' => True) F.S M'
  | 0, _, x4, x5, x6, M, h => by
    obtain ⟨rows, rest, e, sh, g⟩ := h.ex
    exact ⟨x4, x5, x6, M, rfl, ⟨rows, rest, e, sh, fun i' j' a b c => g i' j' a b (by omega)⟩⟩
  | p + 1, hp, x4, x5, x6, M, h => by
    obtain ⟨rows, rest, e, sh, g⟩ := h.ex
    obtain ⟨y5, y6, M1, e1, i1⟩ := b_inner (m0 := m0) hF h1 h2 (i := p) (by omega) (F.n + 1) (Nat.le_refl _) x5 x6 M ⟨rows, rest, e, sh, fun i' j' a b c => g i' j' a b (by omega)⟩
    obtain ⟨z4, z5, z6, M2, e2, i2⟩ := b_outer hF h1 h2 p (by omega) (some (.d (.int (p : Int)))) y5 y6 M1 i1
    refine ⟨z4, z5, z6, M2, ?_, i2⟩
    have hf : sFor (tN 5) (iRngDn (eV 2) (DI.e1 dNeg (eC (.int 1))) (DI.e1 dNeg (eC (.int 1)))) bBody (r5 F hs m0.length (some (.d (.int (p : Int)))) x5 x6) M = .nx (r5 F hs m0.length (some (.d (.int (p : Int)))) y5 y6) M1 := by
      rw [ev_for]
      have hr : iRngDn (eV 2) (DI.e1 dNeg (eC (.int 1))) (DI.e1 dNeg (eC (.int 1))) (r5 F hs m0.length (some (.d (.int (p : Int)))) x5 x6) M = .ok (rngDn (F.n : Int) (-1)) M := by
        unfold iRngDn
        simp [intOf0, fits62_nat h2, show fits62 (-1) = true from rfl]
      rw [hr, Res.run_ok, rngDn_dn]
      exact e1
    rw [show dn (p + 1) = .int (p : Int) :: dn p from rfl, for_nx (ρ1 := r5 F hs m0.length (some (.d (.int (p : Int)))) x5 x6) rfl hf]
    exact e2
end
end DI
namespace DI
open Ft
section
variable {F : Fx} {hs : List (Nat × Int)} {m0 : Mem} {rows : List (List D)}
theorem rng_len (lo : Int) (n : Nat) : (rng lo n).length = n := by simp [rng]
theorem tab_start (h1 : F.m ≤ 1000) (h2 : F.n ≤ 1000) : sTab 3 [4] (iR1 (e2 dAdd (eV 1) (eC (.int 1)))) (tN 4) (nMul (nLst [eCall F_sum_of [eC .non, eC (.int 0)]]) (e2 dAdd (eV 2) (eC (.int 1)))) [some (.d (stp F hs)), some (.d (.int F.m)), some (.d (.int F.n)), none, none, none, none] m0
    = .nx (r5 F hs m0.length none none none) (m0 ++ [.l2 (List.replicate (F.m + 1) (List.replicate (F.n + 1) .non))]) := by
  unfold sTab
  have hr : iR1 (e2 dAdd (eV 1) (eC (.int 1))) [some (.d (stp F hs)), some (.d (.int F.m)), some (.d (.int F.n)), none, none, none, none] m0 = .ok (rng 0 (F.m + 1)) m0 := by
    rw [ev_iR1]
    have : r1K (.d (.int ((F.m : Int) + 1))) m0 = .ok (rng 0 ((F.m : Int) + 1).toNat) m0 := r1K_int (fits62_int (by omega)) m0
    rw [show ((F.m : Int) + 1).toNat = F.m + 1 by omega] at this
    simp [this]
  rw [hr, Res.run_ok, if_pos (by rw [rng_len]; exact small (by omega))]
  rw [lcR_same (row := List.replicate (F.n + 1) .non)]
  · simp [rng_len]
  · intro x _
    refine ⟨_, rfl, ?_⟩
    have e : ((F.n : Int) + 1).toNat = F.n + 1 := by omega
    have hq : ∀ ρ, nLst [eCall F_sum_of [eC .non, eC (.int 0)]] ρ m0 = .ok [.non] m0 := by intro ρ; simp [sp_sum_none]
    rw [ev_nMul, hq, Res.bind_ok]
    have hb : e2 dAdd (eV 2) (eC (.int 1)) ((wipeE [some (.d (stp F hs)), some (.d (.int F.m)), some (.d (.int F.n)), none, none, none, none] [4]).set 4 (some (.d x))) m0 = .ok (.d (.int ((F.n : Int) + 1))) m0 := by simp
    rw [hb, Res.bind_ok]
    dsimp only
    have hl : [D.non].length * ((F.n : Int) + 1).toNat ≤ lineL := by
      rw [e]
      exact small (by show 1 * (F.n + 1) ≤ 1000000; omega)
    rw [if_pos ⟨by omega, by omega, hl⟩, e, flatten_rep]
theorem shape_start : Shape F (List.replicate (F.m + 1) (List.replicate (F.n + 1) .non)) := by
  refine ⟨by simp, fun r h => ?_⟩
  rw [List.mem_replicate] at h
  rw [h.2]; simp
/-- a table: what stands in it -/
structure Tab (F : Fx) (P : Nat → Nat → Int → Prop) (rows : List (List D)) : Prop where
  sh : Shape F rows
  at_ : ∀ i j, i ≤ F.m → j ≤ F.n → Good P rows i j
theorem sp_behind (hF : F.told = lookH hs) (h1 : F.m ≤ 1000) (h2 : F.n ≤ 1000) (m0 : Mem) : ∃ rows, F_behind_of [.d (stp F hs)] m0 = .ok (.d (.lst (rows.map .lst))) m0 ∧ Tab F F.S rows := by
  obtain ⟨y4, y5, y6, M', e', ⟨rows, rest, e, sh, g⟩⟩ := b_outer (m0 := m0) hF (by omega) (by omega) (F.m + 1) (Nat.le_refl _) none none none (m0 ++ [.l2 (List.replicate (F.m + 1) (List.replicate (F.n + 1) .non))]) ⟨_, [], rfl, shape_start, fun i j hi _ h => by omega⟩
  refine ⟨rows, ?_, sh, fun i j hi hj => g i j hi hj trivial⟩
  have h1' : F.one.length ≤ 16777216 := by unfold Fx.m at h1; omega
  have h2' : F.other.length ≤ 16777216 := by unfold Fx.n at h2; omega
  simp only [F_behind_of, s_behind_of, mkFn]
  have hp : sPar [1, 2] [DI.e1 dLen (eAttr "Steps" "one" (eV 0)), DI.e1 dLen (eAttr "Steps" "other" (eV 0))] ([PV.d (stp F hs)].map some ++ List.replicate (7 - [PV.d (stp F hs)].length) none) m0 = .nx [some (.d (stp F hs)), some (.d (.int F.m)), some (.d (.int F.n)), none, none, none, none] m0 := by
    unfold stp
    simp [insGet, h1', h2', Fx.m, Fx.n]
  rw [ev_seq, hp, at_nx, ev_seq, tab_start h1 h2, at_nx, ev_seq, ev_for]
  have hr : iRngDn (eV 1) (DI.e1 dNeg (eC (.int 1))) (DI.e1 dNeg (eC (.int 1))) (r5 F hs m0.length none none none) (m0 ++ [.l2 (List.replicate (F.m + 1) (List.replicate (F.n + 1) .non))]) = .ok (rngDn (F.m : Int) (-1)) (m0 ++ [.l2 (List.replicate (F.m + 1) (List.replicate (F.n + 1) .non))]) := by
    unfold iRngDn
    simp [intOf0, fits62_nat (show F.m ≤ 1000000 by omega), show fits62 (-1) = true from rfl]
  rw [hr, Res.run_ok, rngDn_dn, e', at_nx, ev_fz2]
  subst e
  simp
end
end DI
namespace DI
open Ft
/-! the table ahead -/
def up : Nat → Nat → List D
  | _, 0 => []
  | lo, k + 1 => .int (lo : Int) :: up (lo + 1) k
theorem rng_up (k : Nat) : ∀ lo : Nat, rng (lo : Int) k = up lo k := by
  induction k with
  | zero => intro lo; rfl
  | succ k ih =>
    intro lo
    have e : rng (lo : Int) (k + 1) = .int (lo : Int) :: rng ((lo + 1 : Nat) : Int) k := by
      unfold rng
      rw [List.range_succ_eq_map, List.map_cons, List.map_map, show (lo : Int) + ((0 : Nat) : Int) = lo by simp]
      have h : ∀ j : Nat, ((fun i : Nat => D.int ((lo : Int) + (i : Int))) ∘ Nat.succ) j = D.int (((lo + 1 : Nat) : Int) + (j : Int)) := by
        intro j
        show D.int _ = D.int _
        congr 1
        have : ((Nat.succ j : Nat) : Int) = (j : Int) + 1 := by simp
        rw [this]
        omega
      rw [List.map_congr_left fun j _ => h j]
    rw [e, ih]
    rfl
section
variable {F : Fx} {hs : List (Nat × Int)} {m M m0 : Mem} {t i j : Nat} {rows : List (List D)} {L : List (Option Int)} {a1 a2 a3 : Option Int}
theorem gt0 {ρ : Env} {k s : Nat} (h : ρ[s]? = some (some (.d (.int (k : Int))))) : e2 dGt (eV s) (eC (.int 0)) ρ m = .ok (.d (.bl (decide (0 < k)))) m := by
  have : decide ((0 : Int) < (k : Int)) = decide (0 < k) := by rw [Bool.eq_iff_iff]; simp
  simp [h, this]
theorem sub1 {ρ : Env} {k s : Nat} (h : ρ[s]? = some (some (.d (.int (k : Int))))) (hk : 0 < k) : e2 dSub (eV s) (eC (.int 1)) ρ m = .ok (.d (.int ((k - 1 : Nat) : Int))) m := by
  have : (k : Int) - 1 = ((k - 1 : Nat) : Int) := by omega
  simp [h, this]
/-- a part whose test comes in two -/
theorem part2 {c q e : SE} {ρ : Env} {p : Prop} [Decidable p] {o o2 : Option Int} (hρ : ρ[6]? = some (some (.obj M.length))) (hc : c ρ (M ++ [.l1 (L.map oD)]) = .ok (.d (.bl (decide p))) (M ++ [.l1 (L.map oD)])) (hq : p → q ρ (M ++ [.l1 (L.map oD)]) = .ok (.d (oD o)) (M ++ [.l1 (L.map oD)]))
    (he : p → o.isSome = true → e ρ (M ++ [.l1 (L.map oD)]) = .ok (.d (oD o2)) (M ++ [.l1 (L.map oD)])) (hl : L.length ≤ 1000) : sIf (eAnd c (e1 dNotN q)) (sApp (eV 6) e) sNil ρ (M ++ [.l1 (L.map oD)]) = .nx ρ (M ++ [.l1 ((L ++ (if p ∧ o.isSome = true then [o2] else [])).map oD)]) :=
  part_ok hρ (and_ok hc fun z => notN_ok (hq (of_decide_eq_true z))) (by
    by_cases h : p <;> cases o.isSome <;> simp [h]) (fun h => he h.1 h.2) hl
theorem isS {p : Prop} [Decidable p] {c : Int} : (if p then some c else none).isSome = true ↔ p := by by_cases h : p <;> simp [h]
theorem a_goes (hF : F.told = lookH hs) (ht : M[t]? = some (.l2 rows)) (hL : L.length ≤ 1000) (hb : 0 < i → cell rows (i - 1) j = some (oD a1)) :
    sIf (eAnd (e2 dGt (eV 4) (eC (.int 0))) (e1 dNotN (eMethD "Steps" "goes" F_Steps_goes (eV 0) [e2 dSub (eV 4) (eC (.int 1))]))) (sApp (eV 6) (eCall F_sum_of [eIx2 (eV 3) (e2 dSub (eV 4) (eC (.int 1))) (eV 5), eC (.int 1)])) sNil (rB F hs t i j (some (.obj M.length))) (M ++ [.l1 (L.map oD)])
      = .nx (rB F hs t i j (some (.obj M.length))) (M ++ [.l1 ((L ++ (if 0 < i ∧ F.fate (i - 1) (-1) then [plus a1 1] else [])).map oD)]) := by
  rw [part2 (p := 0 < i) (o := if F.fate (i - 1) (-1) then some 1 else none) (o2 := plus a1 1) rfl (gt0 rfl) (fun h => goes_at hF rfl (sub1 rfl h)) (fun h _ => sum_at (ix2_cell (t := t) (k := i - 1) (l := j) rfl (sub1 rfl h) rfl (tab_ap ht) (hb h)) rfl) hL]
  simp only [isS]
theorem a_skip (ht : M[t]? = some (.l2 rows)) (hL : L.length ≤ 1000) (hb : 0 < j → cell rows i (j - 1) = some (oD a2)) :
    sIf (e2 dGt (eV 5) (eC (.int 0))) (sApp (eV 6) (eCall F_sum_of [eIx2 (eV 3) (eV 4) (e2 dSub (eV 5) (eC (.int 1))), eC (.int 1)])) sNil (rB F hs t i j (some (.obj M.length))) (M ++ [.l1 (L.map oD)])
      = .nx (rB F hs t i j (some (.obj M.length))) (M ++ [.l1 ((L ++ (if 0 < j then [plus a2 1] else [])).map oD)]) :=
  part_ok rfl (b := decide (0 < j)) (gt0 rfl) rfl (fun h => sum_at (ix2_cell (t := t) (k := i) (l := j - 1) rfl rfl (sub1 rfl h) (tab_ap ht) (hb h)) rfl) hL
theorem sum_at2 {e f : SE} {o : Option Int} {k : Int} {ρ : Env} (h : e ρ m = .ok (.d (oD o)) m) (hk : f ρ m = .ok (.d (oD (some k))) m) : eCall F_sum_of [e, f] ρ m = .ok (.d (oD (plus o k))) m := sum_at h hk
theorem a_stay (hF : F.told = lookH hs) (h1 : F.m ≤ 1000000) (h2 : F.n ≤ 1000000) (hi : i ≤ F.m) (hj : j ≤ F.n) (ht : M[t]? = some (.l2 rows)) (hL : L.length ≤ 1000) (hb : 0 < i → 0 < j → cell rows (i - 1) (j - 1) = some (oD a3)) :
    sIf (eAnd (e2 dGt (eV 4) (eC (.int 0))) (eAnd (e2 dGt (eV 5) (eC (.int 0))) (e1 dNotN (eMethD "Steps" "stays" F_Steps_stays (eV 0) [e2 dSub (eV 4) (eC (.int 1)), e2 dSub (eV 5) (eC (.int 1))])))) (sApp (eV 6) (eCall F_sum_of [eIx2 (eV 3) (e2 dSub (eV 4) (eC (.int 1))) (e2 dSub (eV 5) (eC (.int 1))), eMethD "Steps" "stays" F_Steps_stays (eV 0) [e2 dSub (eV 4) (eC (.int 1)), e2 dSub (eV 5) (eC (.int 1))]])) sNil (rB F hs t i j (some (.obj M.length))) (M ++ [.l1 (L.map oD)])
      = .nx (rB F hs t i j (some (.obj M.length))) (M ++ [.l1 ((L ++ (if 0 < i ∧ 0 < j ∧ F.fate (i - 1) ((j - 1 : Nat) : Int) then [plus a3 (F.ch (i - 1) ((j - 1 : Nat) : Int))] else [])).map oD)]) := by
  by_cases hij : 0 < i ∧ 0 < j
  · have st := stays_at (e := e2 dSub (eV 4) (eC (.int 1))) (e' := e2 dSub (eV 5) (eC (.int 1))) (k := i - 1) (l := j - 1) (ρ := rB F hs t i j (some (.obj M.length))) (m := M ++ [.l1 (L.map oD)]) hF h1 h2 (by omega) (by omega) rfl (sub1 rfl hij.1) (sub1 rfl hij.2)
    refine part_ok rfl (and_ok (b := decide (0 < i)) (gt0 rfl) fun _ => and_ok (b := decide (0 < j)) (gt0 rfl) fun _ => notN_ok st) ?_ (fun h => ?_) hL
    · by_cases h3 : F.fate (i - 1) ((j - 1 : Nat) : Int) <;> simp [hij.1, hij.2, h3]
    · rw [if_pos h.2.2] at st
      exact sum_at2 (ix2_cell (t := t) (k := i - 1) (l := j - 1) rfl (sub1 rfl hij.1) (sub1 rfl hij.2) (tab_ap ht) (hb h.1 h.2.1)) st
  · refine part_ok (b := false) rfl ?_ (by simp; intro z1 z2; exact absurd ⟨z1, z2⟩ hij) (fun h => absurd ⟨h.1, h.2.1⟩ hij) hL
    rw [ev_eAnd, gt0 (k := i) rfl, Res.bind_ok, tst_bl]
    by_cases hi' : 0 < i
    · have hj' : ¬ 0 < j := fun z => hij ⟨hi', z⟩
      rw [decide_eq_true hi', if_pos rfl, ev_eAnd, gt0 (k := j) rfl, Res.bind_ok, tst_bl, decide_eq_false hj']
      rfl
    · rw [decide_eq_false hi']
      rfl
theorem eq0 {ρ : Env} {k s : Nat} (h : ρ[s]? = some (some (.d (.int (k : Int))))) : e2 dEq (eV s) (eC (.int 0)) ρ m = .ok (.d (.bl (decide (k = 0)))) m := by
  have : ((k : Int) == 0) = decide (k = 0) := by rw [Bool.eq_iff_iff]; simp
  simp [h, this]
theorem a_body (hF : F.told = lookH hs) (h1 : F.m ≤ 1000000) (h2 : F.n ≤ 1000000) (hi : i ≤ F.m) (hj : j ≤ F.n) (ht : M[t]? = some (.l2 rows)) {row : List D} (hr : rows[i]? = some row) (hl : j < row.length) (hb1 : 0 < i → cell rows (i - 1) j = some (oD a1)) (hb2 : 0 < j → cell rows i (j - 1) = some (oD a2)) (hb3 : 0 < i → 0 < j → cell rows (i - 1) (j - 1) = some (oD a3)) (v : Option PV) :
    aBody (rB F hs t i j v) M = .nx (rB F hs t i j (some (.d (.lst ((aList F i j a1 a2 a3).map oD))))) ((M ++ [MO.fz ((aList F i j a1 a2 a3).map oD)]).set t (.l2 (rows.set i (row.set j (oD (mins (aList F i j a1 a2 a3))))))) := by
  have l1 := len_if (p := i = 0 ∧ j = 0) (x := some (0 : Int))
  have l2 := len_if (p := 0 < i ∧ F.fate (i - 1) (-1)) (x := plus a1 1)
  have l3 := len_if (p := 0 < j) (x := plus a2 1)
  have l4 := len_if (p := 0 < i ∧ 0 < j ∧ F.fate (i - 1) ((j - 1 : Nat) : Int)) (x := plus a3 (F.ch (i - 1) ((j - 1 : Nat) : Int)))
  unfold aBody
  rw [ev_seq, first_at (p := i = 0 ∧ j = 0) (by
    rw [and_ok (b := decide (i = 0)) (b' := decide (j = 0)) (eq0 rfl) (fun _ => eq0 rfl)]
    simp), at_nx]
  rw [ev_seq, a_goes hF ht (by omega) hb1, at_nx, ev_seq, a_skip ht (by rw [List.length_append]; omega) hb2, at_nx, ev_seq, a_stay hF h1 h2 hi hj ht (by simp only [List.length_append]; omega) hb3, at_nx]
  have e : (((if i = 0 ∧ j = 0 then [some (0 : Int)] else []) ++ (if 0 < i ∧ F.fate (i - 1) (-1) then [plus a1 1] else [])) ++ (if 0 < j then [plus a2 1] else [])) ++ (if 0 < i ∧ 0 < j ∧ F.fate (i - 1) ((j - 1 : Nat) : Int) then [plus a3 (F.ch (i - 1) ((j - 1 : Nat) : Int))] else []) = aList F i j a1 a2 a3 := by
    unfold aList
    simp only [List.append_assoc]
  rw [e]
  exact end_at (by rw [← e]; simp only [List.length_append]; omega) ht hr hl
theorem a_inner (hF : F.told = lookH hs) (h1 : F.m ≤ 1000000) (h2 : F.n ≤ 1000000) {i : Nat} (hi : i ≤ F.m) : ∀ (k q : Nat), q + k = F.n + 1 → ∀ (x5 x6 : Option PV) (M : Mem), InvT F m0 (fun i' j' => i' < i ∨ (i' = i ∧ j' < q)) F.R M →
    ∃ y5 y6 M', forL (tN 5) aBody (up q k) (r5 F hs m0.length (some (.d (.int (i : Int)))) x5 x6) M = .nx (r5 F hs m0.length (some (.d (.int (i : Int)))) y5 y6) M' ∧ InvT F m0 (fun i' j' => i' ≤ i) F.R M'
  | 0, q, hq, x5, x6, M, h => by
    obtain ⟨rows, rest, e, sh, g⟩ := h.ex
    exact ⟨x5, x6, M, rfl, ⟨rows, rest, e, sh, fun i' j' a b c => g i' j' a b (by omega)⟩⟩
  | k + 1, q, hq, x5, x6, M, h => by
    obtain ⟨rows, rest, e, sh, g⟩ := h.ex
    obtain ⟨row, hr, hl⟩ := sh.row hi
    subst e
    have ht : (m0 ++ MO.l2 rows :: rest)[m0.length]? = some (.l2 rows) := at_m0
    have c1 : ∃ o, 0 < i → cell rows (i - 1) q = some (oD o) ∧ IsMin o (F.R (i - 1) q) := by
      by_cases z : 0 < i
      · obtain ⟨o, a, b⟩ := g (i - 1) q (by omega) (by omega) (.inl (by omega)); exact ⟨o, fun _ => ⟨a, b⟩⟩
      · exact ⟨none, fun w => absurd w z⟩
    have c2 : ∃ o, 0 < q → cell rows i (q - 1) = some (oD o) ∧ IsMin o (F.R i (q - 1)) := by
      by_cases z : 0 < q
      · obtain ⟨o, a, b⟩ := g i (q - 1) hi (by omega) (.inr ⟨rfl, by omega⟩); exact ⟨o, fun _ => ⟨a, b⟩⟩
      · exact ⟨none, fun w => absurd w z⟩
    have c3 : ∃ o, 0 < i → 0 < q → cell rows (i - 1) (q - 1) = some (oD o) ∧ IsMin o (F.R (i - 1) (q - 1)) := by
      by_cases z : 0 < i ∧ 0 < q
      · obtain ⟨o, a, b⟩ := g (i - 1) (q - 1) (by omega) (by omega) (.inl (by omega)); exact ⟨o, fun _ _ => ⟨a, b⟩⟩
      · exact ⟨none, fun w w' => absurd ⟨w, w'⟩ z⟩
    obtain ⟨b1, c1⟩ := c1
    obtain ⟨b2, c2⟩ := c2
    obtain ⟨b3, c3⟩ := c3
    have hb := a_body hF h1 h2 hi (j := q) (by omega) ht hr (by omega) (fun z => (c1 z).1) (fun z => (c2 z).1) (fun z z' => (c3 z z').1) x6
    rw [set_m0] at hb
    have hm := a_step (i := i) (j := q) hi (by omega) (fun z => (c1 z).2) (fun z => (c2 z).2) (fun z z' => (c3 z z').2)
    have inv2 : InvT F m0 (fun i' j' => i' < i ∨ (i' = i ∧ j' < q + 1)) F.R (m0 ++ MO.l2 (rows.set i (row.set q (oD (mins (aList F i q b1 b2 b3))))) :: (rest ++ [MO.fz ((aList F i q b1 b2 b3).map oD)])) := by
      refine ⟨_, _, rfl, sh.set (j := q) (x := oD (mins (aList F i q b1 b2 b3))) hr, fun i' j' hi' hj' ok => ?_⟩
      unfold Good
      rw [cell_set hr (by omega)]
      by_cases z : i' = i ∧ j' = q
      · rw [if_pos z, z.1, z.2]
        exact ⟨_, rfl, hm⟩
      · rw [if_neg z]
        exact g i' j' hi' hj' (by omega)
    obtain ⟨y5, y6, M', e', i'⟩ := a_inner hF h1 h2 hi k (q + 1) (by omega) (some (.d (.int (q : Int)))) (some (.d (.lst ((aList F i q b1 b2 b3).map oD)))) _ inv2
    refine ⟨y5, y6, M', ?_, i'⟩
    rw [show up q (k + 1) = .int (q : Int) :: up (q + 1) k from rfl, for_nx (ρ1 := rB F hs m0.length i q x6) rfl hb]
    exact e'
theorem range1 {ρ : Env} {s k : Nat} (h : ρ[s]? = some (some (.d (.int (k : Int))))) (hk : k ≤ 1000) : iR1 (e2 dAdd (eV s) (eC (.int 1))) ρ m = .ok (up 0 (k + 1)) m := by
  rw [ev_iR1]
  have : r1K (.d (.int ((k : Int) + 1))) m = .ok (rng 0 ((k : Int) + 1).toNat) m := r1K_int (fits62_int (by omega)) m
  have e : rng 0 (k + 1) = up 0 (k + 1) := rng_up (k + 1) 0
  rw [show ((k : Int) + 1).toNat = k + 1 by omega, e] at this
  simp [h, this]
theorem a_outer (hF : F.told = lookH hs) (h1 : F.m ≤ 1000) (h2 : F.n ≤ 1000) : ∀ (k p : Nat), p + k = F.m + 1 → ∀ (x4 x5 x6 : Option PV) (M : Mem), InvT F m0 (fun i' j' => i' < p) F.R M →
    ∃ y4 y5 y6 M', forL (tN 4) (sFor (tN 5) (iR1 (e2 dAdd (eV 2) (eC (.int 1)))) aBody) (up p k) (r5 F hs m0.length x4 x5 x6) M = .nx (r5 F hs m0.length y4 y5 y6) M' ∧ InvT F m0 (fun i' j' => True) F.R M'
  | 0, p, hp, x4, x5, x6, M, h => by
    obtain ⟨rows, rest, e, sh, g⟩ := h.ex
    exact ⟨x4, x5, x6, M, rfl, ⟨rows, rest, e, sh, fun i' j' a b c => g i' j' a b (by omega)⟩⟩
  | k + 1, p, hp, x4, x5, x6, M, h => by
    obtain ⟨rows, rest, e, sh, g⟩ := h.ex
    obtain ⟨y5, y6, M1, e1, i1⟩ := a_inner (m0 := m0) hF (by omega) (by omega) (i := p) (by omega) (F.n + 1) 0 (by omega) x5 x6 M ⟨rows, rest, e, sh, fun i' j' a b c => g i' j' a b (by omega)⟩
    obtain ⟨rows', rest', e', sh', g'⟩ := i1.ex
    obtain ⟨z4, z5, z6, M2, e2, i2⟩ := a_outer hF h1 h2 k (p + 1) (by omega) (some (.d (.int (p : Int)))) y5 y6 M1 ⟨rows', rest', e', sh', fun i' j' a b c => g' i' j' a b (by omega)⟩
    refine ⟨z4, z5, z6, M2, ?_, i2⟩
    have hf : sFor (tN 5) (iR1 (DI.e2 dAdd (eV 2) (eC (.int 1)))) aBody (r5 F hs m0.length (some (.d (.int (p : Int)))) x5 x6) M = .nx (r5 F hs m0.length (some (.d (.int (p : Int)))) y5 y6) M1 := by
      rw [ev_for, range1 (k := F.n) rfl h2, Res.run_ok]
      exact e1
    rw [show up p (k + 1) = .int (p : Int) :: up (p + 1) k from rfl, for_nx (ρ1 := r5 F hs m0.length (some (.d (.int (p : Int)))) x5 x6) rfl hf]
    exact e2
theorem sp_ahead (hF : F.told = lookH hs) (h1 : F.m ≤ 1000) (h2 : F.n ≤ 1000) (m0 : Mem) : ∃ rows, F_ahead_of [.d (stp F hs)] m0 = .ok (.d (.lst (rows.map .lst))) m0 ∧ Tab F F.R rows := by
  obtain ⟨y4, y5, y6, M', e', ⟨rows, rest, e, sh, g⟩⟩ := a_outer (m0 := m0) hF h1 h2 (F.m + 1) 0 (by omega) none none none (m0 ++ [.l2 (List.replicate (F.m + 1) (List.replicate (F.n + 1) .non))]) ⟨_, [], rfl, shape_start, fun i j hi _ h => by omega⟩
  refine ⟨rows, ?_, sh, fun i j hi hj => g i j hi hj trivial⟩
  have h1' : F.one.length ≤ 16777216 := by unfold Fx.m at h1; omega
  have h2' : F.other.length ≤ 16777216 := by unfold Fx.n at h2; omega
  simp only [F_ahead_of, s_ahead_of, mkFn]
  have hp : sPar [1, 2] [DI.e1 dLen (eAttr "Steps" "one" (eV 0)), DI.e1 dLen (eAttr "Steps" "other" (eV 0))] ([PV.d (stp F hs)].map some ++ List.replicate (7 - [PV.d (stp F hs)].length) none) m0 = .nx [some (.d (stp F hs)), some (.d (.int F.m)), some (.d (.int F.n)), none, none, none, none] m0 := by
    unfold stp
    simp [insGet, h1', h2', Fx.m, Fx.n]
  rw [ev_seq, hp, at_nx, ev_seq, tab_start h1 h2, at_nx, ev_seq, ev_for, range1 (k := F.m) rfl h1, Res.run_ok, e', at_nx, ev_fz2]
  subst e
  simp
end
end DI
namespace DI
abbrev SG : List Char := k_abcdefghijklmnopqrstuvwx
def isTB (t : List Char) : Bool := decide (t.length ≤ 24) && t.all fun c => SG.contains c
def isStepB (s : List Char) : Bool := s == ['='] || s == ['-'] || match s with
  | [a, b] => (a == '+' || a == '~') && SG.contains b
  | _ => false
theorem beqC (a b : Char) : (a == b) = (b == a) := by
  rw [Bool.eq_iff_iff]
  simp only [beq_iff_eq]
  exact eq_comm
theorem step_ne {s : List Char} (h : isStepB s = true) : ∃ a r, s = a :: r := by
  cases s with
  | nil => simp [isStepB] at h
  | cons a r => exact ⟨a, r, rfl⟩
/-- the step's sign -/
def hd (s : List Char) : Char := s.headD ' '
theorem ix0 {s : List Char} (h : isStepB s = true) : atD s 0 = some (hd s) := by
  obtain ⟨a, r, rfl⟩ := step_ne h
  rfl
theorem step_len {s : List Char} (h : isStepB s = true) : s.length ≤ 2 := by
  match s, h with
  | [], _ => simp
  | [_], _ => simp
  | [_, _], _ => simp
  | _ :: _ :: _ :: _, h => simp [isStepB] at h
theorem one_eq (a b : Char) : ([a] == [b]) = (a == b) := by
  rw [Bool.eq_iff_iff]
  simp
theorem one_ne (a b : Char) : ([a] != [b]) = (a != b) := by
  unfold bne
  rw [one_eq]
def takenB (row : List (List Char)) : List (List Char) := row.filter fun s => !(hd s == '+')
def isRowB (t : List Char) (row : List (List Char)) : Bool := row.all isStepB && ((takenB row).length == t.length && decide ((row.filter fun s => !(s == ['-'])).length ≤ 24) && !((takenB row).zip t).any (fun p => p.1 == ['~', p.2])
  && !(row.zip (row.drop 1)).any (fun p => hd p.1 == '+' && p.2 == ['-']))
theorem row_parts {t : List Char} {row : List (List Char)} (h : isRowB t row = true) : (∀ s ∈ row, isStepB s = true) ∧ (takenB row).length = t.length := by
  unfold isRowB at h
  rw [Bool.and_eq_true, Bool.and_eq_true, Bool.and_eq_true, Bool.and_eq_true] at h
  exact ⟨List.all_eq_true.mp h.1, eq_of_beq h.2.1.1.1⟩
def sbSt (t : List Char) (q : List Char × Nat) (s : List Char) : List Char × Nat :=
  (q.1 ++ (if s = ['='] then [t.getD q.2 ' '] else if s = ['-'] then [] else [(s.drop 1).headD ' ']), if hd s = '+' then q.2 else q.2 + 1)
def behindB (t : List Char) (row : List (List Char)) : List Char := (row.foldl (sbSt t) ([], 0)).1
theorem step_cases {s : List Char} (h : isStepB s = true) : s = ['='] ∨ s = ['-'] ∨ (∃ c, s = ['+', c] ∧ SG.contains c = true) ∨ ∃ c, s = ['~', c] ∧ SG.contains c = true := by
  match s, h with
  | [], h => simp [isStepB] at h
  | [a], h =>
    simp [isStepB] at h
    rcases h with h | h <;> simp [h]
  | [a, b], h =>
    simp [isStepB] at h
    rcases h with ⟨h1 | h1, h2⟩ <;> simp [h1, h2]
  | _ :: _ :: _ :: _, h => simp [isStepB] at h
def ftSt (q : List Int × Nat) (s : List Char) : List Int × Nat := (if hd s = '+' then q.1 else q.1 ++ [if s = ['-'] then -1 else (q.2 : Int)], if s = ['-'] then q.2 else q.2 + 1)
def fatesB (row : List (List Char)) : List Int := (row.foldl ftSt ([], 0)).1
theorem foldl_len_sb (t : List Char) : ∀ (row : List (List Char)) (q : List Char × Nat), (row.foldl (sbSt t) q).1.length ≤ q.1.length + row.length
  | [], q => by simp
  | s :: row, q => by
    have := foldl_len_sb t row (sbSt t q s)
    have e : (sbSt t q s).1.length ≤ q.1.length + 1 := by
      unfold sbSt
      simp
      split
      · simp
      · split <;> simp
    simp only [List.foldl_cons, List.length_cons]
    omega
theorem behind_len (t : List Char) (row : List (List Char)) : (behindB t row).length ≤ row.length := by
  have := foldl_len_sb t row ([], 0)
  simpa [behindB] using this
structure RowOk (t : List Char) (row : List (List Char)) : Prop where
  tx : isTB t = true
  ln : row.length ≤ 100000
  rw : isRowB t row = true
theorem RowOk.tl {t : List Char} {row : List (List Char)} (h : RowOk t row) : t.length ≤ 100000 := by
  have := h.tx
  simp [isTB] at this
  omega
theorem RowOk.st {t : List Char} {row : List (List Char)} (h : RowOk t row) : ∀ s ∈ row, isStepB s = true := (row_parts h.rw).1
theorem RowOk.sl {t : List Char} {row : List (List Char)} (h : RowOk t row) : ∀ s ∈ row, s.length ≤ 100000 := fun s hm => Nat.le_trans (step_len (h.st s hm)) (by decide)
theorem tb_len {t : List Char} (h : isTB t = true) : t.length ≤ 24 := by
  simp [isTB] at h
  exact h.1
theorem tb_sg {t : List Char} (h : isTB t = true) : ∀ c ∈ t, SG.contains c = true := by
  simp only [isTB, Bool.and_eq_true] at h
  exact List.all_eq_true.mp h.2
end DI
namespace DI
theorem sp_is_text_of {t : List Char} (h : t.length ≤ 1000000) (m : Mem) : F_is_text_of [.d (.str t)] m = .ok (.d (.bl (isTB t))) m := by
  have h2 : t.length ≤ 16777216 := by omega
  simp only [F_is_text_of, s_is_text_of, mkFn]
  simp [dIsiP, tyP, h2]
  rw [lcL_map (p := fun _ => true) (g := fun c => .bl (SG.contains c)) _ _ (fun c _ => ⟨_, rfl, rfl, fun _ => by simp⟩)]
  simp [isTB]
  by_cases h3 : t.length ≤ 24
  · have : (t.length : Int) ≤ 24 := by omega
    simp [h3, this]
  · have : ¬ (t.length : Int) ≤ 24 := by omega
    simp [h3, this]
theorem sp_need_text {t : List Char} (h : isTB t = true) (m : Mem) : F_need_text [.d (.str t)] m = .ok (.d .non) m := by
  have h2 : t.length ≤ 1000000 := by
    simp [isTB] at h
    omega
  simp only [F_need_text, s_need_text, mkFn]
  simp [sp_is_text_of h2, h]
end DI
namespace DI
theorem sp_is_from (v lo hi : Int) (m : Mem) : F_is_from [.d (.int v), .d (.int lo), .d (.int hi)] m = .ok (.d (.bl (decide (lo ≤ v) && decide (v ≤ hi)))) m := by
  simp only [F_is_from, s_is_from, mkFn]
  simp [dIsiP, tyP]
end DI
namespace DI
open Ft
/-! costs_with, least_with -/
def hD (p : Nat × Int) : D := .tup [.int (p.1 : Int), .int p.2]
theorem pairsI_h : ∀ hs : List (Nat × Int), pairsI (hs.map hD) = some (hs.map fun p => ((p.1 : Int), p.2))
  | [] => rfl
  | p :: hs => by
    rw [List.map_cons]
    show (pairsI (hs.map hD)).map _ = _
    rw [pairsI_h hs]
    rfl
theorem nodup_cast : ∀ {hs : List (Nat × Int)}, (hs.map (·.1)).Nodup → ((hs.map fun p => ((p.1 : Int), p.2)).map (·.1)).Nodup
  | [], _ => by simp
  | p :: hs, nd => by
    rw [List.map_cons, List.nodup_cons] at nd
    rw [List.map_cons, List.map_cons, List.nodup_cons]
    refine ⟨fun hm => nd.1 ?_, nodup_cast nd.2⟩
    rw [List.mem_map] at hm
    obtain ⟨q, hq, e⟩ := hm
    rw [List.mem_map] at hq
    obtain ⟨x, hx, rfl⟩ := hq
    exact List.mem_map.mpr ⟨x, hx, Int.ofNat.inj e⟩
theorem pick_fun {n : Nat} {Q : Nat → Option Int → Prop} (h : ∀ s, s ≤ n → ∃ o, Q s o) : ∃ A : Nat → Option Int, ∀ s, s ≤ n → Q s (A s) := by
  refine ⟨fun s => if h' : s ≤ n then Classical.choose (h s h') else none, fun s hs => ?_⟩
  have e : (if h' : s ≤ n then Classical.choose (h s h') else none) = Classical.choose (h s hs) := dif_pos hs
  show Q s (if h' : s ≤ n then Classical.choose (h s h') else none)
  rw [e]
  exact Classical.choose_spec (h s hs)
section
variable [Nil0] {F : Fx} {hs : List (Nat × Int)} {m M m0 : Mem} {rows : List (List D)} {ρ : Env} {v : PV}
theorem steps_at {es : List SE} (ha : eArgs es ρ m = .ok [.d (.str F.one), .d (.str F.other), v] m) (hv : tupOf m v = some (hs.map hD)) (nd : (hs.map (·.1)).Nodup) : eSteps es ρ m = .ok (.d (stp F hs)) m := by
  rw [ev_steps, ha, Res.bind_ok]
  dsimp only
  rw [hv, Option.bind_some, pairsI_h]
  dsimp only
  rw [if_pos (nodup_cast nd)]
  unfold stp
  simp [List.map_map, Function.comp_def]
theorem td_at {s : Nat} (h : ρ[s]? = some (some v)) (hv : tupOf m v = some (hs.map hD)) : eTD (eV s) ρ m = .ok (.d (.tup (hs.map hD))) m := by
  rw [ev_td, ev_eV, h]
  dsimp only
  rw [Res.bind_ok]
  cases v with
  | d x => cases hv
  | raw b =>
    have hv : (if Nil0.is b = true then some [] else none) = some (hs.map hD) := hv
    by_cases hb : Nil0.is b = true
    · rw [if_pos hb] at hv
      dsimp only
      rw [if_pos hb]
      rw [← Option.some.inj hv]
    · rw [if_neg hb] at hv; cases hv
  | obj i =>
    unfold tupOf at hv
    dsimp only at hv ⊢
    cases hm : m[i]? with
    | none => rw [hm] at hv; cases hv
    | some o =>
      rw [hm] at hv
      cases o with
      | tp xs => cases hv; rfl
      | _ => cases hv
omit [Nil0] in
theorem ix_cell {a b c : SE} {k l : Nat} {x : D} (ha : a ρ m = .ok (.d (.lst (rows.map .lst))) m) (hb : b ρ m = .ok (.d (.int (k : Int))) m) (hc : c ρ m = .ok (.d (.int (l : Int))) m) (h : cell rows k l = some x) : e2 dIx (e2 dIx a b) c ρ m = .ok (.d x) m := by
  unfold cell at h
  cases hr : rows[k]? with
  | none => rw [hr] at h; cases h
  | some r =>
    rw [hr, Option.bind_some] at h
    have h1 : e2 dIx a b ρ m = .ok (.d (.lst r)) m := by
      rw [ev_e2, ha, Res.bind_ok, hb, Res.bind_ok]
      simp [atD_nat, hr]
    rw [ev_e2, h1, Res.bind_ok, hc, Res.bind_ok]
    simp [atD_nat, h]
omit [Nil0] in
theorem rng_ints (k : Nat) : rng 0 k = (List.range k).map fun (s : Nat) => D.int (s : Int) := by
  unfold rng
  apply List.map_congr_left
  intro j _
  simp
/-- what costs_with tells -/
structure CostsOf (F : Fx) (l : Nat) (lost : Option Int) (kept : List (Option Int)) : Prop where
  lo : IsMin lost (F.K l (-1))
  len : kept.length = F.n
  at_ : ∀ s, s < F.n → ∃ o, kept[s]? = some o ∧ IsMin o (F.K l (s : Int))
theorem sp_costs_with (hF : F.told = lookH hs) (h1 : F.m ≤ 1000) (h2 : F.n ≤ 1000) (nd : (hs.map (·.1)).Nodup) {l : Nat} (hl : l < F.m) (m0 : Mem) (hv : tupOf m0 v = some (hs.map hD)) :
    ∃ lost kept, F_costs_with [.d (.str F.one), .d (.str F.other), .d (.int (l : Int)), v] m0 = .ok (.d (.tup [oD lost, .tup (kept.map oD)])) m0 ∧ CostsOf F l lost kept := by
  obtain ⟨ra, ea, Ta⟩ := sp_ahead hF h1 h2 m0
  obtain ⟨rb, eb, Tb⟩ := sp_behind hF h1 h2 m0
  -- what stands in them
  have fa : ∃ A : Nat → Option Int, ∀ s, s ≤ F.n → cell ra l s = some (oD (A s)) ∧ IsMin (A s) (F.R l s) := pick_fun fun s hs' => Ta.at_ l s (by omega) hs'
  have fb : ∃ B : Nat → Option Int, ∀ s, s ≤ F.n → cell rb (l + 1) s = some (oD (B s)) ∧ IsMin (B s) (F.S (l + 1) s) := pick_fun fun s hs' => Tb.at_ (l + 1) s (by omega) hs'
  obtain ⟨A, fa⟩ := fa
  obtain ⟨B, fb⟩ := fb
  refine ⟨mins ((List.range (F.n + 1)).map fun s => join3 (A s) (if F.fate l (-1) then some 1 else none) (B s)), (List.range F.n).map fun s => join3 (A s) (if F.fate l (s : Int) then some (F.ch l s) else none) (B (s + 1)), ?_, K_neg hl (fun s h => (fa s h).2) (fun s h => (fb s h).2), by simp, fun s h => ⟨_, by simp [h], K_nat hl h (fa s (by omega)).2 (fb (s + 1) (by omega)).2⟩⟩
  have h2' : F.other.length ≤ 16777216 := by unfold Fx.n at h2; omega
  let r9 : Option PV → Option PV → Option PV → Env := fun x8 x9 x10 => [some (.d (.str F.one)), some (.d (.str F.other)), some (.d (.int (l : Int))), some v, some (.d (stp F hs)), some (.d (.lst (ra.map .lst))), some (.d (.lst (rb.map .lst))), some (.d (.lst (rng 0 F.n))), x8, x9, x10]
  have lc1 : ∀ x8 x9, lcL (tN 10) tsY (eCall F_joined [e2 dIx (e2 dIx (eV 5) (eV 2)) (eV 10), eMethD "Steps" "goes" F_Steps_goes (eV 4) [eV 2], e2 dIx (e2 dIx (eV 6) (e2 dAdd (eV 2) (eC (.int 1)))) (eV 10)]) (rng 0 F.n ++ [.int F.n]) (r9 x8 x9 none) m0 [] = .ok (((List.range (F.n + 1)).map fun s => join3 (A s) (if F.fate l (-1) then some 1 else none) (B s)).map oD) m0 := by
    intro x8 x9
    have e : rng 0 F.n ++ [.int F.n] = (List.range (F.n + 1)).map fun (s : Nat) => D.int (s : Int) := by rw [rng_ints, List.range_succ, List.map_append]; rfl
    rw [e, lcL_all (g := fun (s : Nat) => oD (join3 (A s) (if F.fate l (-1) then some 1 else none) (B s))), List.map_map]
    · rfl
    · intro s hs'
      rw [List.mem_range] at hs'
      refine ⟨r9 x8 x9 (some (.d (.int (s : Int)))), rfl, ?_⟩
      rw [ev_eCall, ev_args, ix_cell (rows := ra) (k := l) (l := s) rfl rfl rfl (fa s (by omega)).1, Res.bind_ok, ev_args, meth_stp (F := F) (hs := hs) (xs := [.d (.int (l : Int))]) (by decide) rfl (by simp [r9]), sp_goes hF, Res.bind_ok, ev_args, ix_cell (rows := rb) (k := l + 1) (l := s) rfl (by simp [r9]) rfl (fb s (by omega)).1, Res.bind_ok, ev_args0]
      exact sp_joined ..
  have lc2 : ∀ x8 x9, lcL (tN 10) tsY (eCall F_joined [e2 dIx (e2 dIx (eV 5) (eV 2)) (eV 10), eMethD "Steps" "stays" F_Steps_stays (eV 4) [eV 2, eV 10], e2 dIx (e2 dIx (eV 6) (e2 dAdd (eV 2) (eC (.int 1)))) (e2 dAdd (eV 10) (eC (.int 1)))]) (rng 0 F.n) (r9 x8 x9 none) m0 [] = .ok (((List.range F.n).map fun s => join3 (A s) (if F.fate l (s : Int) then some (F.ch l s) else none) (B (s + 1))).map oD) m0 := by
    intro x8 x9
    rw [rng_ints, lcL_all (g := fun (s : Nat) => oD (join3 (A s) (if F.fate l (s : Int) then some (F.ch l s) else none) (B (s + 1)))), List.map_map]
    · rfl
    · intro s hs'
      rw [List.mem_range] at hs'
      refine ⟨r9 x8 x9 (some (.d (.int (s : Int)))), rfl, ?_⟩
      rw [ev_eCall, ev_args, ix_cell (rows := ra) (k := l) (l := s) rfl rfl rfl (fa s (by omega)).1, Res.bind_ok, ev_args, meth_stp (F := F) (hs := hs) (xs := [.d (.int (l : Int)), .d (.int (s : Int))]) (by decide) rfl (by simp [r9]), sp_stays hF hl hs' (by omega) (by omega), Res.bind_ok, ev_args, ix_cell (rows := rb) (k := l + 1) (l := s + 1) rfl (by simp [r9]) (by simp [r9]) (fb (s + 1) (by omega)).1, Res.bind_ok, ev_args0]
      exact sp_joined ..
  simp only [F_costs_with, s_costs_with, mkFn]
  have hst : eSteps [eV 0, eV 1, eV 3] ([PV.d (.str F.one), PV.d (.str F.other), .d (.int (l : Int)), v].map some ++ List.replicate (11 - [PV.d (.str F.one), PV.d (.str F.other), .d (.int (l : Int)), v].length) none) m0 = .ok (.d (stp F hs)) m0 := steps_at (by simp) hv nd
  rw [ev_seq, ev_asg, hst, Res.run_ok, ev_tN]
  dsimp only
  rw [at_nx, ev_seq]
  have hp : ∀ ρ : Env, ρ[4]? = some (some (.d (stp F hs))) → sPar [5, 6] [eCall F_ahead_of [eV 4], eCall F_behind_of [eV 4]] ρ m0 = .nx ((ρ.set 5 (some (.d (.lst (ra.map .lst))))).set 6 (some (.d (.lst (rb.map .lst))))) m0 := by
    intro ρ h
    simp [h, ea, eb]
  rw [hp _ (by simp), at_nx, ev_seq]
  have h3 : sAsg (tN 7) (eFz (nRg1 (e1 dLen (eV 1)))) [some (.d (.str F.one)), some (.d (.str F.other)), some (.d (.int (l : Int))), some v, some (.d (stp F hs)), some (.d (.lst (ra.map .lst))), some (.d (.lst (rb.map .lst))), none, none, none, none] m0 = .nx (r9 none none none) m0 := by
    have h2'' : F.other.length ≤ 1000000 := by unfold Fx.n at h2; omega
    simp [nRg1, h2', h2'', r9, Fx.n]
  have hset : ∀ x y z : PV, ((([PV.d (.str F.one), PV.d (.str F.other), .d (.int (l : Int)), v].map some ++ List.replicate (11 - [PV.d (.str F.one), PV.d (.str F.other), .d (.int (l : Int)), v].length) none).set 4 (some x)).set 5 (some y)).set 6 (some z) = [some (.d (.str F.one)), some (.d (.str F.other)), some (.d (.int (l : Int))), some v, some x, some y, some z, none, none, none, none] := fun x y z => rfl
  rw [hset, h3, at_nx, ev_seq]
  have h4 : sAsg (tN 8) (eFz (nLc [10] (iV (e2 dAdd (eV 7) (eFz (nLst [e1 dLen (eV 1)])))) (tN 10) tsY (eCall F_joined [e2 dIx (e2 dIx (eV 5) (eV 2)) (eV 10), eMethD "Steps" "goes" F_Steps_goes (eV 4) [eV 2], e2 dIx (e2 dIx (eV 6) (e2 dAdd (eV 2) (eC (.int 1)))) (eV 10)]))) (r9 none none none) m0 = .nx (r9 (some (.d (.lst (((List.range (F.n + 1)).map fun s => join3 (A s) (if F.fate l (-1) then some 1 else none) (B s)).map oD)))) none none) m0 := by
    have hi : iV (e2 dAdd (eV 7) (eFz (nLst [e1 dLen (eV 1)]))) (r9 none none none) m0 = .ok (rng 0 F.n ++ [.int F.n]) m0 := by
      have hl : F.n ≤ 16777215 := by omega
      have h2n : F.n ≤ 16777216 := by omega
      simp [r9, hl, h2n, rng_len, show F.other.length = F.n from rfl]
    rw [ev_asg, ev_eFz, ev_nLc, hi, Res.bind_ok, show wipeE (r9 none none none) [10] = r9 none none none from rfl, lcG_ok (by rw [List.length_append, rng_len]; exact Nat.le_trans (by show F.n + 1 ≤ 1001; omega) (by decide)), lc1]
    rfl
  rw [h4, at_nx, ev_seq]
  have h5 : ∀ x, sAsg (tN 9) (eFz (nLc [10] (iV (eV 7)) (tN 10) tsY (eCall F_joined [e2 dIx (e2 dIx (eV 5) (eV 2)) (eV 10), eMethD "Steps" "stays" F_Steps_stays (eV 4) [eV 2, eV 10], e2 dIx (e2 dIx (eV 6) (e2 dAdd (eV 2) (eC (.int 1)))) (e2 dAdd (eV 10) (eC (.int 1)))]))) (r9 x none none) m0 = .nx (r9 x (some (.d (.lst (((List.range F.n).map fun s => join3 (A s) (if F.fate l (s : Int) then some (F.ch l s) else none) (B (s + 1))).map oD)))) none) m0 := by
    intro x
    have hi : iV (eV 7) (r9 x none none) m0 = .ok (rng 0 F.n) m0 := by simp [r9]
    rw [ev_asg, ev_eFz, ev_nLc, hi, Res.bind_ok, show wipeE (r9 x none none) [10] = r9 x none none from rfl, lcG_ok (by rw [rng_len]; exact Nat.le_trans (by show F.n ≤ 1001; omega) (by decide)), lc2]
    rfl
  rw [h5, at_nx, ev_ret]
  have hq : eCall F_least_of [eV 8] (r9 (some (.d (.lst (((List.range (F.n + 1)).map fun s => join3 (A s) (if F.fate l (-1) then some 1 else none) (B s)).map oD)))) (some (.d (.lst (((List.range F.n).map fun s => join3 (A s) (if F.fate l (s : Int) then some (F.ch l s) else none) (B (s + 1))).map oD)))) none) m0 = .ok (.d (oD (mins ((List.range (F.n + 1)).map fun s => join3 (A s) (if F.fate l (-1) then some 1 else none) (B s))))) m0 := by
    rw [ev_eCall]
    have := sp_least_of (os := (List.range (F.n + 1)).map fun s => join3 (A s) (if F.fate l (-1) then some 1 else none) (B s)) (by simp; omega) m0
    exact this
  rw [ev_eTup, ev_args, hq, Res.bind_ok]
  simp [r9]
end
end DI
namespace DI
open Ft
/-! need_facts of facts that are some -/
theorem zip_h : ∀ a b : List (Nat × Int), ((a.map hD).zip (b.map hD)).map (fun p => D.tup [p.1, p.2]) = (a.zip b).map fun q => .tup [hD q.1, hD q.2]
  | [], _ => by simp
  | _ :: _, [] => by simp
  | x :: a, y :: b => by simp [zip_h a b]
structure Facts (F : Fx) (hs : List (Nat × Int)) : Prop where
  lo : ∀ p ∈ hs, p.1 < F.m
  hi : ∀ p ∈ hs, -1 ≤ p.2 ∧ p.2 < F.n
  asc : ∀ q ∈ hs.zip (hs.drop 1), q.1.1 < q.2.1
  len : hs.length ≤ 1000
section
variable [Nil0] {F : Fx} {hs : List (Nat × Int)} {m0 : Mem} {v : PV}
theorem sp_need_facts (h1 : F.m ≤ 1000) (h2 : F.n ≤ 1000) (fs : Facts F hs) (m0 : Mem) (hv : tupOf m0 v = some (hs.map hD)) : F_need_facts [.d (.str F.one), .d (.str F.other), v] m0 = .ok (.d .non) m0 := by
  have h1' : F.one.length ≤ 16777216 := by unfold Fx.m at h1; omega
  have h2' : F.other.length ≤ 16777216 := by unfold Fx.n at h2; omega
  have hlen : hs.length ≤ 16777216 := by have := fs.len; omega
  let rr : Option PV → Option PV → Option PV → Option PV → Env := fun x3 x4 x5 x6 => [some (.d (.str F.one)), some (.d (.str F.other)), some v, x3, x4, x5, x6]
  have td : ∀ x3 x4 x5 x6, eTD (eV 2) (rr x3 x4 x5 x6) m0 = .ok (.d (.tup (hs.map hD))) m0 := fun _ _ _ _ => td_at (by rfl) hv
  have iv : ∀ x3 x4 x5 x6, iV (eTD (eV 2)) (rr x3 x4 x5 x6) m0 = .ok (hs.map hD) m0 := fun x3 x4 x5 x6 => by rw [ev_iV, td]; rfl
  have lc : lcL (tN 5) tsY (eAnd (e1 (dIsiP "tuple") (eV 5)) (e2 dEq (e1 dLen (eV 5)) (eC (.int 2)))) (hs.map hD) (rr none none none none) m0 [] = .ok (hs.map fun p => .bl true) m0 := lcL_all hs fun p _ => ⟨rr none none (some (.d (hD p))) none, rfl, by simp [rr, hD, dIsiP, tyP]⟩
  have a1 : ∀ S : SS, sIf (eOr (eNot (e1 (dIsiP "tuple") (eTD (eV 2)))) (eNot (e1 dAll (eFz (nLc [5] (iV (eTD (eV 2))) (tN 5) (tsY) (eAnd (e1 (dIsiP "tuple") (eV 5)) (e2 dEq (e1 dLen (eV 5)) (eC (.int 2))))))))) S sNil (rr none none none none) m0 = .nx (rr none none none none) m0 := by
    intro S
    have c : eOr (eNot (e1 (dIsiP "tuple") (eTD (eV 2)))) (eNot (e1 dAll (eFz (nLc [5] (iV (eTD (eV 2))) (tN 5) (tsY) (eAnd (e1 (dIsiP "tuple") (eV 5)) (e2 dEq (e1 dLen (eV 5)) (eC (.int 2)))))))) (rr none none none none) m0 = .ok (.d (.bl false)) m0 := by
      have q1 : e1 (dIsiP "tuple") (eTD (eV 2)) (rr none none none none) m0 = .ok (.d (.bl true)) m0 := by rw [ev_e1, td]; rfl
      have q2 : e1 dAll (eFz (nLc [5] (iV (eTD (eV 2))) (tN 5) (tsY) (eAnd (e1 (dIsiP "tuple") (eV 5)) (e2 dEq (e1 dLen (eV 5)) (eC (.int 2)))))) (rr none none none none) m0 = .ok (.d (.bl true)) m0 := by
        rw [ev_e1, ev_eFz, ev_nLc, iv, Res.bind_ok, lcG_ok (by simpa using hlen), show wipeE (rr none none none none) [5] = rr none none none none from rfl, lc]
        show ofO (dAll (.lst (hs.map fun p => .bl true))) m0 = _
        rw [o_all]
        simp [ofO]
      rw [ev_eOr, ev_eNot, q1, Res.bind_ok, tst_bl, Res.bind_ok, tst_bl, if_neg (by decide), ev_eNot, q2, Res.bind_ok, tst_bl]
      rfl
    rw [ev_if, c, if_f]
    rfl
  have a2 : ∀ S : SS, ∃ x3 x4, sFor (tT [3, 4]) (iV (eTD (eV 2))) (sIf (eOr (eNot (eCall F_is_from [eV 3, eC (.int 0), e2 dSub (e1 dLen (eV 0)) (eC (.int 1))])) (eNot (eCall F_is_from [eV 4, e1 dNeg (eC (.int 1)), e2 dSub (e1 dLen (eV 1)) (eC (.int 1))]))) S sNil) (rr none none none none) m0 = .nx (rr x3 x4 none none) m0 := by
    intro S
    rw [ev_for, iv, Res.run_ok]
    obtain ⟨ρ', m', hf, ⟨x3, x4, rfl⟩, rfl⟩ := for_inv (tg := tT [3, 4]) (s := sIf (eOr (eNot (eCall F_is_from [eV 3, eC (.int 0), e2 dSub (e1 dLen (eV 0)) (eC (.int 1))])) (eNot (eCall F_is_from [eV 4, e1 dNeg (eC (.int 1)), e2 dSub (e1 dLen (eV 1)) (eC (.int 1))]))) S sNil) (fun ρ m => (∃ x3 x4, ρ = rr x3 x4 none none) ∧ m = m0) (hs.map hD) (fun x hx ρ m ⟨⟨x3, x4, e1⟩, e2⟩ => by
      subst e1 e2
      obtain ⟨p, hp, rfl⟩ := List.mem_map.mp hx
      have b1 := fs.lo p hp
      have b2 := fs.hi p hp
      unfold Fx.m at b1
      unfold Fx.n at b2
      have d1 : decide ((p.1 : Int) ≤ (F.one.length : Int) - 1) = true := decide_eq_true (by omega)
      have d2 : decide (-1 ≤ p.2) = true := decide_eq_true b2.1
      have d3 : decide (p.2 ≤ (F.other.length : Int) - 1) = true := decide_eq_true (by omega)
      have d0 : decide ((0 : Int) ≤ (p.1 : Int)) = true := decide_eq_true (by omega)
      refine ⟨rr (some (.d (.int (p.1 : Int)))) (some (.d (.int p.2))) none none, rr (some (.d (.int (p.1 : Int)))) (some (.d (.int p.2))) none none, m, rfl, ?_, ⟨_, _, rfl⟩, rfl⟩
      simp [rr, sp_is_from, h1', h2', d0, d1, d2, d3]) (rr none none none none) m0 ⟨⟨none, none, rfl⟩, rfl⟩
    exact ⟨x3, x4, hf⟩
  have a3 : ∀ (S : SS) x3 x4, sIf (e1 dAny (eFz (nLc [5, 6] (iZip (eTD (eV 2)) (eSl dSl (eTD (eV 2)) (oS (eC (.int 1))) oN)) (tT [5, 6]) (tsY) (e2 dGe (e2 dIx (eV 5) (eC (.int 0))) (e2 dIx (eV 6) (eC (.int 0))))))) S sNil (rr x3 x4 none none) m0 = .nx (rr x3 x4 none none) m0 := by
    intro S x3 x4
    have iz : iZip (eTD (eV 2)) (eSl dSl (eTD (eV 2)) (oS (eC (.int 1))) oN) (rr x3 x4 none none) m0 = .ok ((hs.zip (hs.drop 1)).map fun q => .tup [hD q.1, hD q.2]) m0 := by
      have sl : eSl dSl (eTD (eV 2)) (oS (eC (.int 1))) oN (rr x3 x4 none none) m0 = .ok (.d (.tup ((hs.drop 1).map hD))) m0 := by
        rw [ev_eSl, td, Res.bind_ok]
        simp [cut_1, List.map_drop]
      rw [ev_iZip, td, Res.bind_ok, sl, Res.bind_ok]
      dsimp only
      rw [ev_itt, ev_itt]
      dsimp only
      rw [zip_h]
    have hz : (hs.zip (hs.drop 1)).length ≤ 16777216 := by rw [List.length_zip]; omega
    have lz : lcL (tT [5, 6]) tsY (e2 dGe (e2 dIx (eV 5) (eC (.int 0))) (e2 dIx (eV 6) (eC (.int 0)))) ((hs.zip (hs.drop 1)).map fun q => .tup [hD q.1, hD q.2]) (rr x3 x4 none none) m0 [] = .ok ((hs.zip (hs.drop 1)).map fun q => .bl false) m0 := lcL_all _ fun q hq => by
      have := fs.asc q hq
      have d : decide (((q.2.1 : Nat) : Int) ≤ ((q.1.1 : Nat) : Int)) = false := decide_eq_false (by omega)
      exact ⟨rr x3 x4 (some (.d (hD q.1))) (some (.d (hD q.2))), rfl, by simp [rr, hD, this]⟩
    have c : e1 dAny (eFz (nLc [5, 6] (iZip (eTD (eV 2)) (eSl dSl (eTD (eV 2)) (oS (eC (.int 1))) oN)) (tT [5, 6]) (tsY) (e2 dGe (e2 dIx (eV 5) (eC (.int 0))) (e2 dIx (eV 6) (eC (.int 0)))))) (rr x3 x4 none none) m0 = .ok (.d (.bl false)) m0 := by
      rw [ev_e1, ev_eFz, ev_nLc, iz, Res.bind_ok, lcG_ok (by rw [List.length_map]; exact hz), show wipeE (rr x3 x4 none none) [5, 6] = rr x3 x4 none none from rfl, lz]
      show ofO (dAny (.lst ((hs.zip (hs.drop 1)).map fun q => .bl false))) m0 = _
      rw [o_any (fun _ => false)]
      simp [ofO]
    rw [ev_if, c, if_f]
    rfl
  simp only [F_need_facts, s_need_facts, mkFn]
  show fnR m0.length (sSeq _ (sSeq _ _) (rr none none none none) m0) = _
  rw [ev_seq, a1, at_nx, ev_seq]
  first
    | (obtain ⟨x3, x4, h⟩ := a2 (sRaise ⟨"InvalidFacts", none⟩)
       rw [h, at_nx, a3]
       simp)
    | (obtain ⟨x3, x4, h⟩ := a2 sNo
       rw [h, at_nx, a3]
       simp)
end
end DI
namespace DI
open Ft
theorem ok_range {F : Fx} : ∀ {es : List Int} {i j l : Nat} {e : Int}, F.Ok i j es → es[l]? = some e → e = -1 ∨ ∃ k : Nat, k < F.n ∧ e = (k : Int)
  | [], _, _, l, e, _, h => by simp at h
  | x :: es, i, j, 0, e, ⟨_, _, h⟩, he => by
    have : x = e := by simpa using he
    subst this
    rcases h with ⟨h, _⟩ | ⟨k, h, _, h2, _⟩
    · exact .inl h
    · exact .inr ⟨k, h2, h⟩
  | x :: es, i, j, l + 1, e, ⟨_, _, h⟩, he => by
    have he : es[l]? = some e := by simpa using he
    rcases h with ⟨_, h⟩ | ⟨k, _, _, _, h⟩
    · exact ok_range h he
    · exact ok_range h he
theorem enum_o (os : List (Option Int)) : (os.map oD).mapIdx (fun i x => D.tup [.int (i : Int), x]) = os.zipIdx.map fun q => D.tup [.int (q.2 : Int), oD q.1] := by
  apply List.ext_getElem?
  intro i
  simp [List.getElem?_mapIdx, List.getElem?_zipIdx]
  cases os[i]? <;> simp
section
variable [Nil0] {F : Fx} {hs : List (Nat × Int)} {m0 : Mem} {v : PV}
def fxe (a b : List Char) (hs : List (Nat × Int)) : Fx := ⟨a, b, lookH hs⟩
theorem no_facts (F : Fx) : Facts F [] := ⟨by simp, by simp, by simp, by simp⟩
theorem tup_df (f : String) (m : Mem) : tupOf m (.raw (Nil0.adr f)) = some (([] : List (Nat × Int)).map hD) := by
  unfold tupOf
  dsimp only
  rw [if_pos (Nil0.ok f)]
  rfl
end
end DI
namespace DI
def DeckAt (m : Mem) (i : Nat) (n : Int) : Prop := ∃ a b c : Int, m[i]? = some (.l1 [.int a, .int b, .int c]) ∧ 0 ≤ b ∧ b < 2147483579 ∧ 0 ≤ c ∧ c ≤ n
theorem DeckAt.mono {m : Mem} {i : Nat} {n k : Int} (h : DeckAt m i n) (hk : n ≤ k) : DeckAt m i k := by
  obtain ⟨a, b, c, h1, h2, h3, h4, h5⟩ := h
  exact ⟨a, b, c, h1, h2, h3, h4, by omega⟩
theorem vw_set {m : Mem} {i : Nat} {xs : List D} (h : i < m.length) : vw (m.set i (.l1 xs)) (.obj i) = some (.lst xs) := by
  unfold vw
  simp [h]
@[simp] theorem take_set {α : Type} {m : List α} {i : Nat} {x : α} : (m.set i x).take m.length = m.set i x := List.take_of_length_le (by simp)
theorem small_a : small64 15485867 = true := by decide
theorem small_b : small64 7919 = true := by decide
theorem sp_deck (cell t : Int) (ht : 0 ≤ t) (m : Mem) : ∃ m', F__law_deck [.d (.int cell), .d (.int t)] m = .ok (.obj m.length) m' ∧ DeckAt m' m.length t ∧ m'.length = m.length + 1 ∧ ∀ j, j < m.length → m'[j]? = m[j]? := by
  simp only [F__law_deck, s__law_deck, mkFn]
  have hp : dPow (.int 10) (.int 18) = some (.int 1000000000000000000) := by
    rw [o_pow, if_pos ⟨by decide, by decide, by decide⟩]
    rfl
  have hm : dMod (.int cell) (.int 2147483579) = some (.int (cell % 2147483579)) := by rw [o_mod, if_pos (by decide)]
  have h1 := Int.emod_nonneg cell (show (2147483579 : Int) ≠ 0 by decide)
  have h2 := Int.emod_lt_of_pos cell (show (0 : Int) < 2147483579 by decide)
  generalize cell % 2147483579 = b at hm h1 h2
  by_cases h : (1000000000000000000 : Int) ≤ cell
  · simp [-o_pow, -o_mod, hp, hm, h]
    refine ⟨⟨_, _, _, get_last, h1, h2, ht, Int.le_refl _⟩, fun j hj => List.getElem?_append_left hj⟩
  · simp [-o_pow, -o_mod, hp, hm, h]
    refine ⟨⟨_, _, _, get_last, h1, h2, ht, Int.le_refl _⟩, fun j hj => List.getElem?_append_left hj⟩
theorem sp_pick {m : Mem} {i : Nat} {n lim : Int} (h : DeckAt m i n) (hn : n ≤ 1000000000) (h1 : 0 < lim) (h2 : lim < 1073741824) :
    ∃ got m', F__law_pick [.obj i, .d (.int lim)] m = .ok (.d (.int got)) m' ∧ 0 ≤ got ∧ got < lim ∧ DeckAt m' i (n + 1) ∧ m'.length = m.length ∧ ∀ j, j ≠ i → m'[j]? = m[j]? := by
  obtain ⟨a, b, c, hm, hb1, hb2, hc1, hc2⟩ := h
  have hi : i < m.length := by
    by_cases z : i < m.length
    · exact z
    · rw [List.getElem?_eq_none (by omega)] at hm; cases hm
  have hv := vw_l1 hm
  simp only [F__law_pick, s__law_pick, mkFn]
  by_cases ha : 1 < a
  · refine ⟨a % lim, m.set i (.l1 [.int (a / lim), .int b, .int c]), ?_, Int.emod_nonneg _ (by omega), Int.emod_lt_of_pos _ h1, ⟨_, _, _, List.getElem?_set_self hi, hb1, hb2, hc1, by omega⟩, by simp, fun j hj => by rw [List.getElem?_set_ne (Ne.symm hj)]⟩
    simp [hv, ha, h1, h2, hm]
  · have e1 : dMulD (.int 15485867) (.int (c + 1)) = some (.int (15485867 * (c + 1))) := by rw [o_mul, small_a]; rfl
    have e2 : dMulD (.int 7919) (.int (c + 1)) = some (.int (7919 * (c + 1))) := by rw [o_mul, small_b]; rfl
    obtain ⟨x, hx⟩ : ∃ x, x = b + 15485867 * (c + 1) := ⟨_, rfl⟩
    have hx1 : x.natAbs < 2 ^ 64 := by omega
    have e3 : dPow (.int x) (.int 5) = some (.int (x ^ 5)) := by rw [o_pow, if_pos ⟨by decide, by decide, hx1⟩]; rfl
    obtain ⟨y, hy⟩ : ∃ y, y = x ^ 5 % 2147483647 := ⟨_, rfl⟩
    have e4 : dMod (.int (x ^ 5)) (.int 2147483647) = some (.int y) := by rw [o_mod, if_pos (by decide), hy]
    have y1 : 0 ≤ y := by rw [hy]; exact Int.emod_nonneg _ (by decide)
    have y2 : y < 2147483647 := by rw [hy]; exact Int.emod_lt_of_pos _ (by decide)
    clear hy
    obtain ⟨z, hz⟩ : ∃ z, z = y + 7919 * (c + 1) := ⟨_, rfl⟩
    have hz1 : z.natAbs < 2 ^ 64 := by omega
    have e5 : dPow (.int z) (.int 3) = some (.int (z ^ 3)) := by rw [o_pow, if_pos ⟨by decide, by decide, hz1⟩]; rfl
    obtain ⟨u, hu⟩ : ∃ u, u = z ^ 3 % 2147483629 := ⟨_, rfl⟩
    have e6 : dMod (.int (z ^ 3)) (.int 2147483629) = some (.int u) := by rw [o_mod, if_pos (by decide), hu]
    clear hu
    have e7 : dDiv (.int u) (.int 32) = some (.int (u / 32)) := by rw [o_div, if_pos (by decide)]
    have e8 : dMod (.int (u / 32)) (.int lim) = some (.int (u / 32 % lim)) := by rw [o_mod, if_pos h1]
    refine ⟨u / 32 % lim, m.set i (.l1 [.int a, .int b, .int (c + 1)]), ?_, Int.emod_nonneg _ (by omega), Int.emod_lt_of_pos _ h1, ⟨_, _, _, List.getElem?_set_self hi, hb1, hb2, by omega, by omega⟩, by simp, fun j hj => by rw [List.getElem?_set_ne (Ne.symm hj)]⟩
    have hv2 := vw_set (xs := [.int a, .int b, .int (c + 1)]) hi
    simp [-o_pow, -o_mod, -o_div, -o_mul, hv, ha, hm, hv2, e1, ← hx, e3, e4, e2, ← hz, e5, e6, e7, e8]
/-- one of a list, picked -/
theorem pick_of {xs : List D} {n : Nat} (hn : xs.length = n) (got : Int) (h1 : 0 ≤ got) (h2 : got < n) : ∃ x, dIx (.lst xs) (.int got) = some x ∧ x ∈ xs := by
  obtain ⟨k, rfl⟩ : ∃ k : Nat, got = k := ⟨got.toNat, by omega⟩
  have hk : k < xs.length := by omega
  exact ⟨xs[k], by rw [o_ixl, atD_ofNat]; simp [hk], List.getElem_mem hk⟩
/-- texts of letters of a list of letters -/
theorem lc_text {i : Nat} {sg : List Char} (hs : sg ≠ []) (hl : sg.length ≤ 1000) : ∀ (k : Nat) (n : Int) (m : Mem) (xs acc : List D) (ρ : Env), xs.length = k → DeckAt m i n → n + k ≤ 1000000000 → ρ[0]? = some (some (.obj i)) → ρ[2]? = some (some (.d (.str sg))) → ρ.length = 5 →
    ∃ (cs : List Char) (m' : Mem), lcL (tN 4) tsY (e2 dIx (eV 2) (eCall F__law_pick [eV 0, e1 dLen (eV 2)])) xs ρ m acc = .ok (acc ++ cs.map fun c => .str [c]) m' ∧ cs.length = k ∧ (∀ c ∈ cs, c ∈ sg) ∧ DeckAt m' i (n + k) ∧ m'.length = m.length ∧ ∀ j, j ≠ i → m'[j]? = m[j]?
  | 0, n, m, [], acc, ρ, _, hd, _, _, _, _ => ⟨[], m, by simp [lcL], rfl, by simp, hd.mono (by omega), rfl, fun _ _ => rfl⟩
  | k + 1, n, m, x :: xs, acc, ρ, hx, hd, hn, h0, h2, hl5 => by
    have hpos : (0 : Int) < sg.length := by
      cases sg with
      | nil => exact absurd rfl hs
      | cons a b => simp
    obtain ⟨got, m1, hpk, g1, g2, d1, l1, x1⟩ := sp_pick (lim := sg.length) hd (by omega) hpos (by omega)
    obtain ⟨q, rfl⟩ : ∃ q : Nat, got = q := ⟨got.toNat, by omega⟩
    have hq : q < sg.length := by omega
    have hl2 : sg.length ≤ 16777216 := by omega
    obtain ⟨cs, m', hrec, c1, c2, c3, c4, c5⟩ := lc_text hs hl k (n + 1) m1 xs (acc ++ [.str [sg[q]]]) ρ (by simpa using hx) d1 (by omega) h0 h2 hl5
    have t0 : (ρ.set 4 (some (.d x)))[0]? = some (some (.obj i)) := by rw [List.getElem?_set_ne (by decide)]; exact h0
    have t2 : (ρ.set 4 (some (.d x)))[2]? = some (some (.d (.str sg))) := by rw [List.getElem?_set_ne (by decide)]; exact h2
    have ee : e2 dIx (eV 2) (eCall F__law_pick [eV 0, e1 dLen (eV 2)]) (ρ.set 4 (some (.d x))) m = .ok (.d (.str [sg[q]])) m1 := by
      simp [t0, t2, hl2, hpk, atD_nat, hq]
    refine ⟨sg[q] :: cs, m', ?_, by simp [c1], ?_, c3.mono (by omega), by omega, fun j hj => (c5 j hj).trans (x1 j hj)⟩
    · unfold lcL
      rw [ev_tN]
      dsimp only
      rw [ev_tsY]
      dsimp only
      rw [ee]
      dsimp only
      rw [hrec]
      simp
    · intro c hc
      rcases List.mem_cons.mp hc with rfl | hc
      · exact List.getElem_mem hq
      · exact c2 c hc
theorem sp_text {m : Mem} {i : Nat} {n most : Int} (h : DeckAt m i n) (hn : n ≤ 100000000) (h1 : 0 ≤ most) (h2 : most ≤ 1000) :
    ∃ t m', F__law_text [.obj i, .d (.int most)] m = .ok (.d (.str t)) m' ∧ (t.length : Int) ≤ most ∧ (∀ c ∈ t, c ∈ k_abcdefgh) ∧ DeckAt m' i (n + 2 + most) ∧ m'.length = m.length ∧ ∀ j, j ≠ i → m'[j]? = m[j]? := by
  simp only [F__law_text, s__law_text, mkFn]
  obtain ⟨g1, m1, p1, a1, b1, d1, l1, x1⟩ := sp_pick (lim := 4) h (by omega) (by decide) (by decide)
  obtain ⟨g2, m2, p2, a2, b2, d2, l2, x2⟩ := sp_pick (lim := most + 1) d1 (by omega) (by omega) (by omega)
  obtain ⟨sg, e1, hm⟩ := pick_of (xs := [.str ['a', 'b'], .str ['a', 'b', 'c'], .str k_abcdefgh, .str ['a']]) rfl g1 a1 b1
  have hsg : ∃ q : List Char, sg = .str q ∧ q ≠ [] ∧ q.length ≤ 1000 ∧ ∀ c ∈ q, c ∈ k_abcdefgh := by
    simp only [List.mem_cons, List.not_mem_nil, or_false] at hm
    rcases hm with rfl | rfl | rfl | rfl
    · exact ⟨_, rfl, by decide, by decide, by decide⟩
    · exact ⟨_, rfl, by decide, by decide, by decide⟩
    · exact ⟨_, rfl, by decide, by decide, by decide⟩
    · exact ⟨_, rfl, by decide, by decide, by decide⟩
  obtain ⟨q, rfl, q1, q2, q3⟩ := hsg
  obtain ⟨k, rfl⟩ : ∃ k : Nat, g2 = k := ⟨g2.toNat, by omega⟩
  obtain ⟨cs, m3, hrec, c1, c2, c3, c4, c5⟩ := lc_text (i := i) q1 q2 k (n + 1 + 1) m2 (rng 0 k) [] [some (.obj i), some (.d (.int most)), some (.d (.str q)), some (.d (.int k)), none] (by simp [rng]) d2 (by omega) rfl rfl rfl
  refine ⟨cs, m3, ?_, by omega, fun c hc => q3 c (c2 c hc), c3.mono (by omega), by omega, fun j hj => (c5 j hj).trans ((x2 j hj).trans (x1 j hj))⟩
  have r1 : r1K (.d (.int (k : Int))) m2 = .ok (rng 0 k) m2 := by rw [r1K_int (fits62_nat (by omega)), Int.toNat_natCast]
  have hk : (rng 0 k).length ≤ 16777216 := by simp [rng]; omega
  simp [-o_ixl, p1, e1, p2, r1, hk, hrec, join_signs cs (by simp; omega)]
  rw [List.take_of_length_le (by omega)]
end DI
namespace DI
/-! what each law's own loop wants -/
theorem slot_loop (i : Nat) {s : SS} {P : D → Prop} (m : Mem) (E : Option PV → Env) (hE : ∀ x b, tN i (.d x) (E b) = some (E (some (.d x)))) (hs : ∀ x, P x → s (E (some (.d x))) m = .nx (E (some (.d x))) m) : ∀ (xs : List D) (b : Option PV), (∀ x ∈ xs, P x) →
    ∃ c, forL (tN i) s xs (E b) m = .nx (E c) m
  | [], b, _ => ⟨b, rfl⟩
  | x :: xs, b, h => by
    obtain ⟨c, e⟩ := slot_loop i m E hE hs xs (some (.d x)) fun y hy => h y (by simp [hy])
    exact ⟨c, by rw [for_nx (hE x b) (hs x (h x (by simp))), e]⟩
theorem k_abc_SG : ∀ c ∈ k_abcdefgh, SG.contains c = true := by decide
theorem text_tb {t : List Char} (h : t.length ≤ 24) (hc : ∀ c ∈ t, c ∈ k_abcdefgh) : isTB t = true := by
  unfold isTB
  rw [Bool.and_eq_true]
  exact ⟨decide_eq_true h, List.all_eq_true.mpr fun c hm => k_abc_SG c (hc c hm)⟩
theorem DeckAt.app {m l : Mem} {i : Nat} {n : Int} (h : DeckAt m i n) : DeckAt (m ++ l) i n := by
  obtain ⟨a, b, c, e, r⟩ := h
  exact ⟨a, b, c, by rw [List.getElem?_append_left (List.getElem?_eq_some_iff.mp e).1]; exact e, r⟩
theorem DeckAt.lt {m : Mem} {i : Nat} {n : Int} (h : DeckAt m i n) : i < m.length := by
  obtain ⟨a, b, c, e, r⟩ := h
  exact (List.getElem?_eq_some_iff.mp e).1
/-- the law's cells -/
theorem cells_hit (k : Nat) (ns : List Int) (hn : ns.length ≤ 63) (ρ : Env) (m : Mem) (h : ρ[0]? = some (some (.d (.lst (ns.map .int))))) : iV (eSl dSl (e2 dAdd (eFz (nLst [eC (.int 0)])) (eV 0)) oN (oS (eC (.int (k : Int))))) ρ m = .ok (((0 :: ns).take k).map .int) m := by
  have e1 : cutD (D.int 0 :: ns.map .int) none (some (k : Int)) = ((0 :: ns).take k).map .int := by
    rw [cut_to, List.map_take]
    rfl
  have : 1 + ns.length ≤ 16777216 := by omega
  simp [-List.take_succ_cons, this, h]
  rw [e1, List.map_take]
  rfl
theorem tup_keep [Nil0] {m m' : Mem} {i : Nat} {n : Int} {v : PV} {xs : List D} (h : tupOf m v = some xs) (d : DeckAt m i n) (k : ∀ j, j ≠ i → m'[j]? = m[j]?) : tupOf m' v = some xs := by
  cases v with
  | d y => cases h
  | raw b => exact h
  | obj j =>
    unfold tupOf at h ⊢
    dsimp only at h ⊢
    have : j ≠ i := by
      rintro rfl
      obtain ⟨a, b, c, e, _⟩ := d
      rw [e] at h; cases h
    rw [k j this]
    exact h
theorem tup_l1 [Nil0] {m : Mem} {i : Nat} {v : PV} {xs ys : List D} {o : MO} (h : tupOf m v = some xs) (d : m[i]? = some (.l1 ys)) : tupOf (m.set i o) v = some xs := by
  cases v with
  | d y => cases h
  | raw b => exact h
  | obj j =>
    unfold tupOf at h ⊢
    dsimp only at h ⊢
    have : j ≠ i := by
      rintro rfl
      rw [d] at h; cases h
    rw [List.getElem?_set_ne (Ne.symm this)]
    exact h
end DI
namespace DI
open Ft
/-! facts and fates -/
theorem asc_pw : ∀ {hs : List (Nat × Int)}, hs.Pairwise (fun p q => p.1 < q.1) → ∀ q ∈ hs.zip (hs.drop 1), q.1.1 < q.2.1
  | [], _, q, h => by simp at h
  | [a], _, q, h => by simp at h
  | a :: b :: r, hp, q, h => by
    rw [List.pairwise_cons] at hp
    rw [show (a :: b :: r).drop 1 = b :: r from rfl, List.zip_cons_cons] at h
    rcases List.mem_cons.mp h with rfl | h
    · exact hp.1 b (by simp)
    · exact asc_pw (hs := b :: r) hp.2 q h
section
variable {one other : List Char} {own : List Int} {hs : List (Nat × Int)}
theorem cost_told (one other : List Char) (f g : Nat → Option Int) (es : List Int) : (Fx.mk one other f).cost 0 0 es = (Fx.mk one other g).cost 0 0 es := by
  have ch : ∀ l e, (Fx.mk one other f).ch l e = (Fx.mk one other g).ch l e := fun _ _ => rfl
  have cg : ∀ (es : List Int) (i : Nat), (Fx.mk one other f).chg i es = (Fx.mk one other g).chg i es := by
    intro es
    induction es with
    | nil => intro i; rfl
    | cons e es ih => intro i; simp only [Fx.chg, ch, ih]
  simp only [Fx.cost, cg]
  rfl
theorem ok_told {one other : List Char} (es : List Int) : (fxe one other hs).Ok 0 0 es ↔ (Fx.mk one other fun _ => none).Ok 0 0 es ∧ ∀ l e, es[l]? = some e → (fxe one other hs).fate l e := by
  rw [ok_facts (F := fxe one other hs) es 0 0]
  constructor
  · exact fun h => ⟨h.1, fun l e z => by have := h.2 l e z; rwa [Nat.zero_add] at this⟩
  · exact fun h => ⟨h.1, fun l e z => by have := h.2 l e z; rwa [Nat.zero_add]⟩
/-- with facts fewer rows are there -/
theorem K_less {l : Nat} {e c : Int} (h : (fxe one other hs).K l e c) : (fxe one other []).K l e c := by
  obtain ⟨es, k1, k2, k3⟩ := h
  refine ⟨es, (ok_told (hs := []) es).mpr ⟨((ok_told es).mp k1).1, fun l e _ f z => by cases z⟩, k2, ?_⟩
  rw [← k3]
  exact cost_told ..
end
theorem tup_apps [Nil0] {m l : Mem} {v : PV} {xs : List D} (h : tupOf m v = some xs) : tupOf (m ++ l) v = some xs := by
  cases v with
  | d y => cases h
  | raw b => exact h
  | obj i =>
    unfold tupOf at h ⊢
    dsimp only at h ⊢
    cases hm : m[i]? with
    | none => rw [hm] at h; cases h
    | some o =>
      rw [hm] at h
      rw [List.getElem?_append_left (List.getElem?_eq_some_iff.mp hm).1, hm]
      exact h
end DI
namespace DI
open Ft
section
variable [Nil0] {F : Fx} {hs : List (Nat × Int)} {m0 : Mem} {v : PV}
omit [Nil0] in
theorem lookup_nodup : ∀ {hs : List (Nat × Int)}, (∀ q ∈ hs.zip (hs.drop 1), q.1.1 < q.2.1) → (hs.map (·.1)).Nodup ∧ ∀ p, hs.head? = some p → ∀ q ∈ hs, p.1 ≤ q.1
  | [], _ => ⟨by simp, by simp⟩
  | [a], _ => ⟨by simp, by simp⟩
  | a :: b :: r, h => by
    have hab : a.1 < b.1 := h (a, b) (by simp)
    obtain ⟨i1, i2⟩ := lookup_nodup (hs := b :: r) fun q hq => h q (by
      rw [show (a :: b :: r).drop 1 = b :: r from rfl, List.zip_cons_cons]
      exact List.mem_cons_of_mem _ hq)
    have i3 := i2 b rfl
    refine ⟨?_, fun p hp q hq => ?_⟩
    · rw [List.map_cons, List.nodup_cons]
      refine ⟨fun hm => ?_, i1⟩
      rw [List.mem_map] at hm
      obtain ⟨x, hx, e⟩ := hm
      have := i3 x hx
      omega
    · have : p = a := by simpa using hp.symm
      subst this
      rcases List.mem_cons.mp hq with rfl | hq
      · exact Nat.le_refl _
      · have := i3 q hq; omega
omit [Nil0] in
theorem Facts.nd (h : Facts F hs) : (hs.map (·.1)).Nodup := (lookup_nodup h.asc).1
theorem sp_need_pair (t1 : isTB F.one = true) (t2 : isTB F.other = true) (m : Mem) : F_need_pair [.d (.str F.one), .d (.str F.other)] m = .ok (.d .non) m := by
  simp [F_need_pair, s_need_pair, mkFn, sp_need_text t1, sp_need_text t2]
end
end DI
namespace DI
open Ft
/-! one fact more, in its place -/
theorem mem_putI {kvs : List (Int × Int)} {k v : Int} {q : Int × Int} : q ∈ putI kvs k v ↔ q = (k, v) ∨ (q ∈ kvs ∧ q.1 ≠ k) := by
  unfold putI
  by_cases h : (kvs.any fun kv => decide (kv.1 = k)) = true
  · rw [if_pos h, List.mem_map]
    obtain ⟨x, hx, ex⟩ := List.any_eq_true.mp h
    have ex := of_decide_eq_true ex
    constructor
    · rintro ⟨y, hy, rfl⟩
      by_cases z : y.1 = k
      · rw [if_pos z, z]; exact .inl rfl
      · rw [if_neg z]; exact .inr ⟨hy, z⟩
    · rintro (rfl | ⟨h1, h2⟩)
      · exact ⟨x, hx, by rw [if_pos ex, ex]⟩
      · exact ⟨q, h1, by rw [if_neg h2]⟩
  · rw [if_neg h, List.mem_append]
    have hn : ∀ y ∈ kvs, y.1 ≠ k := fun y hy z => h (List.any_eq_true.mpr ⟨y, hy, decide_eq_true z⟩)
    constructor
    · rintro (h1 | h1)
      · exact .inr ⟨h1, hn q h1⟩
      · exact .inl (by simpa using h1)
    · rintro (rfl | ⟨h1, _⟩)
      · exact .inr (by simp)
      · exact .inl h1
theorem keys_putI {kvs : List (Int × Int)} {k v : Int} (nd : (kvs.map (·.1)).Nodup) : ((putI kvs k v).map (·.1)).Nodup := by
  unfold putI
  by_cases h : (kvs.any fun kv => decide (kv.1 = k)) = true
  · rw [if_pos h, List.map_map]
    rw [show (Prod.fst ∘ fun (kv : Int × Int) => if kv.1 = k then (kv.1, v) else kv) = Prod.fst from by funext y; simp only [Function.comp]; split <;> rfl]
    exact nd
  · rw [if_neg h, List.map_append, List.nodup_append]
    refine ⟨nd, by simp, fun a ha b hb => ?_⟩
    obtain ⟨y, hy, rfl⟩ := List.mem_map.mp ha
    have : b = k := by simpa using hb
    subst this
    exact fun z => h (List.any_eq_true.mpr ⟨y, hy, decide_eq_true z⟩)
theorem len_putI (kvs : List (Int × Int)) (k v : Int) : (putI kvs k v).length ≤ kvs.length + 1 := by
  unfold putI
  split <;> simp
theorem mergeI_nodup : ∀ (kvs acc : List (Int × Int)), (acc.map (·.1) ++ kvs.map (·.1)).Nodup → mergeI acc kvs = acc ++ kvs
  | [], acc, _ => by simp [mergeI]
  | p :: kvs, acc, h => by
    have hp : (acc.any fun kv => decide (kv.1 = p.1)) = false := by
      rw [List.any_eq_false]
      intro x hx
      rw [decide_eq_true_eq]
      intro e
      rw [List.map_cons, List.nodup_append] at h
      exact h.2.2 x.1 (List.mem_map.mpr ⟨x, hx, rfl⟩) p.1 (by simp) e
    have e : mergeI acc (p :: kvs) = mergeI (acc ++ [p]) kvs := by
      show mergeI (putI acc p.1 p.2) kvs = _
      unfold putI
      rw [hp]
      rfl
    rw [e, mergeI_nodup kvs (acc ++ [p]) (by simpa using h)]
    simp
theorem leP_pw (kvs : List (Int × Int)) : (kvs.mergeSort leP).Pairwise (fun a b => leP a b = true) := by
  refine List.pairwise_mergeSort (le := leP) (fun a b c h1 h2 => ?_) (fun a b => ?_) kvs
  · have h1 := of_decide_eq_true h1
    have h2 := of_decide_eq_true h2
    exact decide_eq_true (by omega)
  · unfold leP
    rw [Bool.or_eq_true, decide_eq_true_eq, decide_eq_true_eq]
    omega
theorem srt_keys {kvs : List (Int × Int)} (nd : (kvs.map (·.1)).Nodup) : (kvs.mergeSort leP).Pairwise (fun a b => a.1 < b.1) := by
  have p := leP_pw kvs
  have nd2 : ((kvs.mergeSort leP).map (·.1)).Nodup := (((List.mergeSort_perm kvs leP).map _).nodup_iff).mpr nd
  rw [List.nodup_iff_pairwise_ne, List.pairwise_map] at nd2
  refine (p.and nd2).imp fun ⟨h1, h2⟩ => ?_
  have h1 := of_decide_eq_true h1
  omega
def hCast (hs : List (Nat × Int)) : List (Int × Int) := hs.map fun p => ((p.1 : Int), p.2)
/-- facts with one more -/
def putH (hs : List (Nat × Int)) (l : Nat) (e : Int) : List (Nat × Int) := ((putI (hCast hs) (l : Int) e).mergeSort leP).map fun q => (q.1.toNat, q.2)
section
variable {hs : List (Nat × Int)} {l : Nat} {e : Int}
theorem put_pos : ∀ q ∈ (putI (hCast hs) (l : Int) e).mergeSort leP, 0 ≤ q.1 := by
  intro q hq
  have hq := (List.mergeSort_perm _ _).mem_iff.mp hq
  rcases mem_putI.mp hq with rfl | ⟨h, _⟩
  · exact Int.natCast_nonneg _
  · obtain ⟨p, _, rfl⟩ := List.mem_map.mp h
    exact Int.natCast_nonneg _
theorem put_hD : ((putI (hCast hs) (l : Int) e).mergeSort leP).map kvD = (putH hs l e).map hD := by
  unfold putH
  rw [List.map_map]
  apply List.map_congr_left
  intro q hq
  have := put_pos q hq
  simp only [Function.comp, kvD, hD]
  rw [Int.toNat_of_nonneg this]
theorem mem_putH {p : Nat × Int} : p ∈ putH hs l e ↔ p = (l, e) ∨ (p ∈ hs ∧ p.1 ≠ l) := by
  unfold putH
  rw [List.mem_map]
  constructor
  · rintro ⟨q, hq, rfl⟩
    have hq := (List.mergeSort_perm _ _).mem_iff.mp hq
    rcases mem_putI.mp hq with rfl | ⟨h, h2⟩
    · exact .inl (by simp)
    · obtain ⟨p, hp, rfl⟩ := List.mem_map.mp h
      refine .inr ⟨by simpa using hp, fun z => h2 ?_⟩
      have z : ((p.1 : Int)).toNat = l := z
      show (p.1 : Int) = l
      omega
  · rintro (rfl | ⟨h, h2⟩)
    · exact ⟨((l : Int), e), (List.mergeSort_perm _ _).mem_iff.mpr (mem_putI.mpr (.inl rfl)), by simp⟩
    · refine ⟨((p.1 : Int), p.2), (List.mergeSort_perm _ _).mem_iff.mpr (mem_putI.mpr (.inr ⟨List.mem_map.mpr ⟨p, h, rfl⟩, ?_⟩)), by simp⟩
      show ¬ (p.1 : Int) = l
      omega
theorem hCast_nd (nd : (hs.map (·.1)).Nodup) : ((hCast hs).map (·.1)).Nodup := nodup_cast nd
theorem putH_pw (nd : (hs.map (·.1)).Nodup) : (putH hs l e).Pairwise (fun a b => a.1 < b.1) := by
  unfold putH
  rw [List.pairwise_map]
  have := srt_keys (keys_putI (k := (l : Int)) (v := e) (hCast_nd nd))
  refine List.Pairwise.imp_of_mem (fun {a b} ha hb h => ?_) this
  have h1 := put_pos a ha
  have h2 := put_pos b hb
  show a.1.toNat < b.1.toNat
  omega
theorem putH_nd (nd : (hs.map (·.1)).Nodup) : ((putH hs l e).map (·.1)).Nodup := by
  rw [List.nodup_iff_pairwise_ne, List.pairwise_map]
  exact (putH_pw nd).imp fun h => Nat.ne_of_lt h
theorem putH_len : (putH hs l e).length ≤ hs.length + 1 := by
  unfold putH
  rw [List.length_map, List.length_mergeSort]
  have := len_putI (hCast hs) (l : Int) e
  unfold hCast at this ⊢
  rw [List.length_map] at this
  exact this
theorem putH_look (nd : (hs.map (·.1)).Nodup) (k : Nat) : lookH (putH hs l e) k = if k = l then some e else lookH hs k := by
  by_cases z : k = l
  · rw [if_pos z, look_mem (putH_nd nd)]
    exact mem_putH.mpr (.inl (by rw [z]))
  · rw [if_neg z]
    apply Option.ext
    intro f
    rw [look_mem (putH_nd nd), look_mem nd, mem_putH]
    constructor
    · rintro (h | ⟨h, _⟩)
      · exact absurd (congrArg Prod.fst h) z
      · exact h
    · exact fun h => .inr ⟨h, z⟩
variable {one other : List Char}
theorem putH_facts (fs : Facts (fxe one other hs) hs) (hl : l < one.length) (he : -1 ≤ e ∧ e < (other.length : Int)) (hm : hs.length < 1000) : Facts (fxe one other (putH hs l e)) (putH hs l e) := by
  refine ⟨fun p hp => ?_, fun p hp => ?_, asc_pw (putH_pw fs.nd), ?_⟩
  · rcases mem_putH.mp hp with rfl | ⟨h, _⟩
    · exact hl
    · exact fs.lo p h
  · rcases mem_putH.mp hp with rfl | ⟨h, _⟩
    · exact he
    · exact fs.hi p h
  · have := putH_len (hs := hs) (l := l) (e := e)
    omega
/-- with one fact more: the rows with this fate -/
theorem put_ok (nd : (hs.map (·.1)).Nodup) (hl : l < one.length) {c0 : Int} (h0 : (fxe one other hs).K l e c0) (es : List Int) : (fxe one other (putH hs l e)).Ok 0 0 es ↔ (fxe one other hs).Ok 0 0 es ∧ es[l]? = some e := by
  rw [ok_told, ok_told]
  have fa : ∀ k x, (fxe one other (putH hs l e)).fate k x ↔ if k = l then x = e else (fxe one other hs).fate k x := by
    intro k x
    unfold Fx.fate
    show (∀ f, lookH (putH hs l e) k = some f → f = x) ↔ _
    rw [putH_look nd]
    by_cases z : k = l
    · rw [if_pos z, if_pos z]
      exact ⟨fun h => (h e rfl).symm, fun h f hf => by rw [h]; exact (Option.some.inj hf).symm⟩
    · rw [if_neg z, if_neg z]
      rfl
  constructor
  · rintro ⟨f1, f2⟩
    have hle : es.length = one.length := ok_len f1
    have hlt : l < es.length := by omega
    have e1 : es[l] = e := by
      have := (fa l es[l]).mp (f2 l es[l] (List.getElem?_eq_getElem hlt))
      rwa [if_pos rfl] at this
    refine ⟨⟨f1, fun k x hx => ?_⟩, by rw [List.getElem?_eq_getElem hlt, e1]⟩
    by_cases z : k = l
    · subst z
      rw [List.getElem?_eq_getElem hlt] at hx
      have hx := Option.some.inj hx
      rw [e1] at hx
      subst hx
      obtain ⟨es0, k1, k2, _⟩ := h0
      exact ((ok_told es0).mp k1).2 k e k2
    · have := (fa k x).mp (f2 k x hx)
      rwa [if_neg z] at this
  · rintro ⟨⟨f1, f2⟩, e1⟩
    refine ⟨f1, fun k x hx => (fa k x).mpr ?_⟩
    by_cases z : k = l
    · subst z
      rw [if_pos rfl]
      rw [e1] at hx
      exact (Option.some.inj hx).symm
    · rw [if_neg z]
      exact f2 k x hx
theorem put_S (nd : (hs.map (·.1)).Nodup) (hl : l < one.length) {c0 : Int} (h0 : (fxe one other hs).K l e c0) (c : Int) : (fxe one other (putH hs l e)).S 0 0 c ↔ (fxe one other hs).K l e c := by
  constructor
  · rintro ⟨es, k1, k2⟩
    obtain ⟨q1, q2⟩ := (put_ok nd hl h0 es).mp k1
    exact ⟨es, q1, q2, by rw [← k2]; exact cost_told ..⟩
  · rintro ⟨es, k1, k2, k3⟩
    exact ⟨es, (put_ok nd hl h0 es).mpr ⟨k1, k2⟩, by rw [← k3]; exact cost_told ..⟩
theorem put_K (nd : (hs.map (·.1)).Nodup) (hl : l < one.length) {c0 : Int} (h0 : (fxe one other hs).K l e c0) (x c : Int) : (fxe one other (putH hs l e)).K l x c ↔ x = e ∧ (fxe one other hs).K l e c := by
  constructor
  · rintro ⟨es, k1, k2, k3⟩
    obtain ⟨q1, q2⟩ := (put_ok nd hl h0 es).mp k1
    rw [k2] at q2
    have := Option.some.inj q2
    subst this
    exact ⟨rfl, es, q1, k2, by rw [← k3]; exact cost_told ..⟩
  · rintro ⟨rfl, es, k1, k2, k3⟩
    exact ⟨es, (put_ok nd hl h0 es).mpr ⟨k1, k2⟩, k2, by rw [← k3]; exact cost_told ..⟩
end
end DI
namespace DI
open Ft
/-! costs within a number; sorted -/
def okO (o : Option Int) (most : Int) : Bool := match o with
  | some c => decide (c ≤ most)
  | none => false
theorem sp_need_number {i : Int} (h : 0 ≤ i ∧ i ≤ 48) (m : Mem) : F_need_number [.d (.int i), .d (.int 0), .d (.int 48)] m = .ok (.d .non) m := by
  simp only [F_need_number, s_need_number, mkFn]
  simp [sp_is_from, h.1, h.2]
theorem eq_nil_ints (ns : List Int) : dEq (.lst (ns.map .int)) (.lst []) = some (.bl (decide (ns = []))) := by
  cases ns with
  | nil => rfl
  | cons a r => simp [dEq, D.dep, D.depAll, D.eqv, D.eqvAll, depAll_i]
theorem filt_nil (xs : List Int) (most : Int) : decide ((xs.filter fun x => decide (x ≤ most)) = []) = !(xs.any fun x => decide (x ≤ most)) := by
  rw [Bool.eq_iff_iff]
  simp
theorem le_loop {i : Nat} (most : Int) (xs : List Int) {ρ : Env} {m : Mem} (h : ∀ x : Int, ∃ ρ1, tN i (.d (.int x)) ρ = some ρ1 ∧ e2 dLe (eV i) (eV 2) ρ1 m = .ok (.d (.bl (decide (x ≤ most)))) m ∧ eV i ρ1 m = .ok (.d (.int x)) m) : lcL (tN i) (e2 dLe (eV i) (eV 2)) (eV i) (xs.map .int) ρ m [] = .ok ((xs.filter fun x => decide (x ≤ most)).map .int) m := by
  rw [lcL_map (p := fun x : Int => decide (x ≤ most)) (g := D.int), List.nil_append]
  intro x _
  obtain ⟨ρ1, h1, h2, h3⟩ := h x
  exact ⟨ρ1, h1, h2, fun _ => h3⟩
theorem any_minL (most : Int) : ∀ ns : List Int, (ns.any fun x => decide (x ≤ most)) = okO (minL ns) most := by
  intro ns
  have h := minL_min ns
  cases e : minL ns with
  | none =>
    rw [minL_none.mp e]
    rfl
  | some c =>
    rw [e] at h
    rw [Bool.eq_iff_iff, List.any_eq_true]
    unfold okO
    rw [decide_eq_true_iff]
    constructor
    · rintro ⟨x, hx, hc⟩
      have := h.2 x hx
      have := of_decide_eq_true hc
      omega
    · exact fun hc => ⟨c, h.1, decide_eq_true hc⟩
theorem insI_mem {x y : Int} : ∀ {l : List Int}, y ∈ insI x l ↔ y = x ∨ y ∈ l
  | [] => by simp [insI]
  | z :: l => by
    have ih := insI_mem (x := x) (y := y) (l := l)
    unfold insI
    split
    · simp
    · simp [ih]
      constructor
      · rintro (h | h | h)
        · exact .inr (.inl h)
        · exact .inl h
        · exact .inr (.inr h)
      · rintro (h | h | h)
        · exact .inr (.inl h)
        · exact .inl h
        · exact .inr (.inr h)
theorem sortI_mem {y : Int} : ∀ {l : List Int}, y ∈ sortI l ↔ y ∈ l
  | [] => by simp [sortI]
  | x :: l => by
    unfold sortI
    rw [insI_mem, sortI_mem, List.mem_cons]
theorem insI_head (x : Int) : ∀ l : List Int, (insI x l).head? = match l.head? with
    | none => some x
    | some y => some (if y < x then y else x)
  | [] => rfl
  | y :: l => by
    unfold insI
    by_cases h : x ≤ y
    · rw [if_pos h]
      simp
      omega
    · rw [if_neg h]
      simp
      omega
theorem sortI_head : ∀ l : List Int, (sortI l).head? = minL l
  | [] => rfl
  | x :: l => by
    have e : minL (x :: l) = match minL l with
      | none => some x
      | some c => some (if c < x then c else x) := rfl
    rw [e, ← sortI_head l]
    exact insI_head x (sortI l)
theorem any_sort (most : Int) (ns : List Int) : ((sortI ns).any fun x => decide (x ≤ most)) = okO (minL ns) most := by
  rw [← any_minL, Bool.eq_iff_iff, List.any_eq_true, List.any_eq_true]
  constructor
  · rintro ⟨x, h, e⟩; exact ⟨x, sortI_mem.mp h, e⟩
  · rintro ⟨x, h, e⟩; exact ⟨x, sortI_mem.mpr h, e⟩
theorem insI_len (x : Int) : ∀ l : List Int, (insI x l).length = l.length + 1
  | [] => rfl
  | y :: l => by
    unfold insI
    split
    · rfl
    · simp [insI_len x l]
theorem sortI_len : ∀ l : List Int, (sortI l).length = l.length
  | [] => rfl
  | x :: l => by unfold sortI; rw [insI_len, sortI_len l]; rfl
theorem o_sort (ns : List Int) : dSort (.lst (ns.map .int)) = some (.lst ((sortI ns).map .int)) := by
  show (intsD (ns.map .int)).map _ = _
  rw [intsD_map]
  rfl
theorem okO_iff {o : Option Int} {P : Int → Prop} (h : IsMin o P) (most : Int) : okO o most = true ↔ ∃ c, c ≤ most ∧ P c := by
  cases o with
  | none =>
    exact Iff.intro (fun z => by cases z) (fun ⟨c, _, hc⟩ => absurd hc (h c))
  | some d =>
    show decide (d ≤ most) = true ↔ _
    rw [decide_eq_true_iff]
    exact ⟨fun z => ⟨d, z, h.1⟩, fun ⟨c, hc, hp⟩ => Int.le_trans (h.2 c hp) hc⟩
theorem eqvAll_i : ∀ xs : List Int, D.eqvAll (xs.map .int) (xs.map .int) = true
  | [] => rfl
  | x :: xs => by simp [D.eqvAll, D.eqv, eqvAll_i xs]
theorem ne_ints_self (xs : List Int) : dNe (.lst (xs.map .int)) (.lst (xs.map .int)) = some (.bl false) := by
  unfold dNe
  rw [if_pos (by simp [D.dep, depAll_i])]
  simp [D.eqv, eqvAll_i]
end DI

namespace DI
open Ft
/-! fates within a cost, and their word -/
def fatesL (lost : Option Int) (kept : List (Option Int)) (most : Int) : List Int := (if okO lost most = true then [-1] else []) ++ ((kept.zipIdx.filter fun q => okO q.1 most).map fun q => (q.2 : Int))
section
variable {F : Fx} {l : Nat} {lost : Option Int} {kept : List (Option Int)}
theorem fatesL_mem (co : CostsOf F l lost kept) (most e : Int) : e ∈ fatesL lost kept most ↔ ∃ c, c ≤ most ∧ F.K l e c := by
  unfold fatesL
  rw [List.mem_append]
  constructor
  · rintro (h | h)
    · by_cases z : okO lost most = true
      · rw [if_pos z] at h
        have : e = -1 := by simpa using h
        subst this
        exact (okO_iff co.lo most).mp z
      · rw [if_neg z] at h; cases h
    · obtain ⟨⟨o, p⟩, hq, rfl⟩ := List.mem_map.mp h
      obtain ⟨h1, h2⟩ := List.mem_filter.mp hq
      have h3 := List.mem_zipIdx' h1
      have hp : p < F.n := by rw [← co.len]; exact h3.1
      obtain ⟨o', e', hm⟩ := co.at_ p hp
      rw [List.getElem?_eq_getElem h3.1, ← h3.2] at e'
      have := Option.some.inj e'
      subst this
      exact (okO_iff hm most).mp h2
  · rintro ⟨c, hc, hk⟩
    obtain ⟨es, k1, k2, k3⟩ := id hk
    rcases ok_range k1 k2 with rfl | ⟨p, hp, rfl⟩
    · left
      rw [if_pos ((okO_iff co.lo most).mpr ⟨c, hc, hk⟩)]
      simp
    · right
      obtain ⟨o, e', hm⟩ := co.at_ p hp
      refine List.mem_map.mpr ⟨(o, p), List.mem_filter.mpr ⟨?_, (okO_iff hm most).mpr ⟨c, hc, hk⟩⟩, rfl⟩
      rw [List.mem_zipIdx_iff_getElem?]
      exact e'
end
theorem zip_rise {α : Type} : ∀ (xs : List α) (k : Nat), ((xs.zipIdx k).map fun q => (q.2 : Int)).Pairwise (· < ·) ∧ ∀ x ∈ (xs.zipIdx k).map (fun q => (q.2 : Int)), (k : Int) ≤ x
  | [], k => by simp
  | x :: xs, k => by
    obtain ⟨h1, h2⟩ := zip_rise xs (k + 1)
    rw [List.zipIdx_cons, List.map_cons]
    refine ⟨List.pairwise_cons.mpr ⟨fun y hy => ?_, h1⟩, fun y hy => ?_⟩
    · have := h2 y hy
      show (k : Int) < y
      omega
    · rcases List.mem_cons.mp hy with e | hy
      · subst e; exact Int.le_refl _
      · have := h2 y hy; omega
theorem fatesL_rise (lost : Option Int) (kept : List (Option Int)) (most : Int) : (fatesL lost kept most).Pairwise (· < ·) := by
  unfold fatesL
  have z := zip_rise kept 0
  have sub : ((kept.zipIdx.filter fun q => okO q.1 most).map fun q => (q.2 : Int)).Sublist (kept.zipIdx.map fun q => (q.2 : Int)) := List.Sublist.map _ List.filter_sublist
  rw [List.pairwise_append]
  refine ⟨?_, z.1.sublist sub, fun a ha b hb => ?_⟩
  · split
    · exact List.pairwise_singleton ..
    · exact List.Pairwise.nil
  · have hb := z.2 b (sub.subset hb)
    split at ha
    · have : a = -1 := by simpa using ha
      omega
    · cases ha
theorem fatesL_ge (lost : Option Int) (kept : List (Option Int)) (most : Int) : ∀ x ∈ fatesL lost kept most, -1 ≤ x := by
  intro x hx
  unfold fatesL at hx
  rcases List.mem_append.mp hx with h | h
  · split at h
    · have : x = -1 := by simpa using h
      omega
    · cases h
  · obtain ⟨q, _, rfl⟩ := List.mem_map.mp h
    omega
theorem fatesL_len (lost : Option Int) (kept : List (Option Int)) (most : Int) : (fatesL lost kept most).length ≤ kept.length + 1 := by
  unfold fatesL
  rw [List.length_append, List.length_map]
  have := List.length_filter_le (fun q : Option Int × Nat => okO q.1 most) kept.zipIdx
  rw [List.length_zipIdx] at this
  split <;> simp <;> omega
theorem ev_nEnum {a : SE} {ρ : Env} {m : Mem} : nEnum a ρ m = (iV a ρ m).bind fun xs m => if xs.length ≤ lineL then .ok (xs.mapIdx fun i x => .tup [.int i, x]) m else .no := rfl
section
variable [Nil0] {F : Fx} {hs : List (Nat × Int)} {v : PV}
theorem sp_fates_with (hF : F.told = lookH hs) (h1 : F.m ≤ 1000) (h2 : F.n ≤ 1000) (nd : (hs.map (·.1)).Nodup) {l : Nat} (hl : l < F.m) (most : Int) (m0 : Mem) (hv : tupOf m0 v = some (hs.map hD)) :
    ∃ lost kept, F_fates_with [.d (.str F.one), .d (.str F.other), .d (.int (l : Int)), .d (.int most), v] m0 = .ok (.d (.lst ((fatesL lost kept most).map .int))) m0 ∧ CostsOf F l lost kept := by
  obtain ⟨lost, kept, e, co⟩ := sp_costs_with hF h1 h2 nd hl m0 hv
  refine ⟨lost, kept, ?_, co⟩
  have hkl := co.len
  simp only [F_fates_with, s_fates_with, mkFn]
  let rr : Option PV → Option PV → Option PV → Env := fun x7 x8 x9 => [some (.d (.str F.one)), some (.d (.str F.other)), some (.d (.int (l : Int))), some (.d (.int most)), some v, some (.d (oD lost)), some (.d (.tup (kept.map oD))), x7, x8, x9]
  let ps : List (Int × Option Int) := (-1, lost) :: kept.zipIdx.map fun q => ((q.2 : Int), q.1)
  have s1 : sAsg (tT [5, 6]) (eCall F_costs_with [eV 0, eV 1, eV 2, eV 4]) ([PV.d (.str F.one), PV.d (.str F.other), PV.d (.int (l : Int)), PV.d (.int most), v].map some ++ List.replicate (10 - [PV.d (.str F.one), PV.d (.str F.other), PV.d (.int (l : Int)), PV.d (.int most), v].length) none) m0 = .nx (rr none none none) m0 := by
    simp [e, rr]
  have q2 : eFz (nEnum (eV 6)) (rr none none none) m0 = .ok (.d (.lst (kept.zipIdx.map fun q => D.tup [.int (q.2 : Int), oD q.1]))) m0 := by
    have iv : iV (eV 6) (rr none none none) m0 = .ok (kept.map oD) m0 := rfl
    rw [ev_eFz, ev_nEnum, iv, Res.bind_ok, if_pos (small (by rw [List.length_map]; omega)), enum_o]
    rfl
  have q1 : eFz (nLst [eTup [e1 dNeg (eC (.int 1)), eV 5]]) (rr none none none) m0 = .ok (.d (.lst [.tup [.int (-1), oD lost]])) m0 := by
    simp [rr]
  have eps : (.tup [.int (-1), oD lost] :: kept.zipIdx.map fun q => D.tup [.int (q.2 : Int), oD q.1]) = ps.map fun p => D.tup [.int p.1, oD p.2] := by
    simp [ps]
  have s2 : sAsg (tN 7) (e2 dAdd (eFz (nLst [eTup [e1 dNeg (eC (.int 1)), eV 5]])) (eFz (nEnum (eV 6)))) (rr none none none) m0 = .nx (rr (some (.d (.lst (ps.map fun p => D.tup [.int p.1, oD p.2])))) none none) m0 := by
    rw [ev_asg, ev_e2, q1, Res.bind_ok, q2, Res.bind_ok]
    show ((ofO (dAdd (.lst _) (.lst _)) m0).run _) = _
    rw [o_addl, if_pos (small (by simp; omega)), List.singleton_append, eps]
    rfl
  have lc : ∀ x7, lcL (tT [8, 9]) (eAnd (e1 dNotN (eV 9)) (e2 dLe (eV 9) (eV 3))) (eV 8) (ps.map fun p => D.tup [.int p.1, oD p.2]) (rr x7 none none) m0 [] = .ok ((ps.filter fun p => okO p.2 most).map fun p => .int p.1) m0 := by
    intro x7
    rw [lcL_map (p := fun p : Int × Option Int => okO p.2 most) (g := fun p => D.int p.1), List.nil_append]
    intro p _
    refine ⟨rr x7 (some (.d (.int p.1))) (some (.d (oD p.2))), rfl, ?_, fun _ => rfl⟩
    obtain ⟨a, o⟩ := p
    cases o <;> simp [rr, oD, okO, dNotN]
  have fin : ((ps.filter fun p => okO p.2 most).map fun p => D.int p.1) = (fatesL lost kept most).map .int := by
    unfold fatesL
    simp only [ps, List.filter_cons, List.filter_map, List.map_append, List.map_map]
    by_cases z : okO lost most = true
    · rw [if_pos z, if_pos z]
      simp [List.map_map, Function.comp_def]
    · rw [if_neg z, if_neg z]
      simp [List.map_map, Function.comp_def]
  rw [ev_seq, s1, at_nx, ev_seq, s2, at_nx, ev_ret, ev_eFz, ev_nLc, show ∀ x, iV (eV 7) (rr (some (.d (.lst x))) none none) m0 = .ok x m0 from fun _ => rfl, Res.bind_ok, lcG_ok (by simp [ps]; omega), show ∀ x7, wipeE (rr x7 none none) [8, 9] = rr x7 none none from fun _ => rfl, lc, fin]
  simp
end
end DI
namespace DI
open Ft
/-! tuples of fates, one line after the other -/
theorem lt_cons {a b : Int} {x y : List Int} (h : a < b) : a :: x < b :: y := List.cons_lt_cons_iff.mpr (.inl h)
theorem lt_cons' {a : Int} {x y : List Int} (h : x < y) : a :: x < a :: y := List.cons_lt_cons_iff.mpr (.inr ⟨rfl, h⟩)
theorem leL_lt {a b : List Int} (h : a < b) : leL a b = true := decide_eq_true (List.le_of_lt h)
theorem lt_ne {a b : List Int} (h : a < b) : a ≠ b := fun e => List.lt_irrefl b (e ▸ h)
def asI (p : Nat × Int) : List Int := [(p.1 : Int), p.2]
theorem intsTs_h : ∀ hs : List (Nat × Int), intsTs (hs.map hD) = some (hs.map asI)
  | [] => rfl
  | p :: hs => by
    show ((intsD [.int (p.1 : Int), .int p.2]).bind fun ns => (intsTs (hs.map hD)).map (ns :: ·)) = _
    rw [intsTs_h hs]
    rfl
theorem tupI_h (hs : List (Nat × Int)) : (hs.map asI).map tupI = hs.map hD := by
  rw [List.map_map]
  rfl
theorem asI_inj {p q : Nat × Int} (h : asI p = asI q) : p = q := by
  unfold asI at h
  simp at h
  exact Prod.ext (by omega) h.2
section
variable {hs : List (Nat × Int)} {l : Nat} {e : Int}
/-- sorting what is left and one more: the facts with one more -/
theorem put_sort (nd : (hs.map (·.1)).Nodup) : (((hs.filter fun p => decide (p.1 ≠ l)) ++ [(l, e)]).map asI).mergeSort leL = (putH hs l e).map asI := by
  have nd2 : hs.Nodup := by
    rw [List.nodup_iff_pairwise_ne, List.pairwise_map] at nd
    exact List.nodup_iff_pairwise_ne.mpr (nd.imp fun h z => h (by rw [z]))
  have mapnd : ∀ {L : List (Nat × Int)}, L.Nodup → (L.map asI).Nodup := fun h => by
    rw [List.nodup_iff_pairwise_ne, List.pairwise_map]
    exact (List.nodup_iff_pairwise_ne.mp h).imp fun h z => h (asI_inj z)
  refine leL_uniq (leL_pw _) ?_ ((List.mergeSort_perm _ _).trans ?_)
  · rw [List.pairwise_map]
    refine (putH_pw nd).imp fun {a b} h => leL_lt ?_
    exact lt_cons (by omega)
  · refine List.Perm.map _ ((List.perm_ext_iff_of_nodup ?_ ?_).mpr fun p => ?_)
    · rw [List.nodup_append]
      refine ⟨nd2.filter _, by simp, fun a ha b hb => ?_⟩
      have : b = (l, e) := by simpa using hb
      subst this
      rw [List.mem_filter] at ha
      have := of_decide_eq_true ha.2
      exact fun z => this (by rw [z])
    · have := putH_nd (l := l) (e := e) nd
      rw [List.nodup_iff_pairwise_ne, List.pairwise_map] at this
      exact List.nodup_iff_pairwise_ne.mpr (this.imp fun h z => h (by rw [z]))
    · rw [mem_putH, List.mem_append, List.mem_filter, decide_eq_true_eq]
      simp only [List.mem_singleton]
      constructor
      · rintro (h | h)
        · exact .inr h
        · exact .inl h
      · rintro (h | h)
        · exact .inr h
        · exact .inl h
end
section
variable [Nil0] {hs : List (Nat × Int)} {v : PV} {m : Mem}
theorem sp_more_facts (nd : (hs.map (·.1)).Nodup) (hl : hs.length ≤ 1000) (hv : tupOf m v = some (hs.map hD)) (l : Nat) (e : Int) : F_more_facts [v, .d (.int (l : Int)), .d (.int e)] m = .ok (.obj m.length) (m ++ [.tp ((putH hs l e).map hD)]) := by
  let R : Option PV → Env := fun x => [some v, some (.d (.int (l : Int))), some (.d (.int e)), x]
  have it : iV (eTD (eV 0)) (R none) m = .ok (hs.map hD) m := by
    show (eTD (eV 0) (R none) m).bind _ = _
    rw [td_at (v := v) (hs := hs) rfl hv]
    rfl
  have lc : lcL (tN 3) (e2 dNe (e2 dIx (eV 3) (eC (.int 0))) (eV 1)) (eV 3) (hs.map hD) (R none) m [] = .ok ((hs.filter fun p => decide (p.1 ≠ l)).map hD) m := by
    rw [lcL_map (p := fun p : Nat × Int => decide (p.1 ≠ l)) (g := hD), List.nil_append]
    intro p _
    refine ⟨R (some (.d (hD p))), rfl, ?_, fun _ => rfl⟩
    have ix : e2 dIx (eV 3) (eC (.int 0)) (R (some (.d (hD p)))) m = .ok (.d (.int (p.1 : Int))) m := rfl
    rw [ev_e2, ix, Res.bind_ok, show eV 1 (R (some (.d (hD p)))) m = .ok (.d (.int (l : Int))) m from rfl, Res.bind_ok]
    show ofO (dNe (.int (p.1 : Int)) (.int (l : Int))) m = _
    rw [o_nei]
    show Res.ok (PV.d (.bl (!((p.1 : Int) == (l : Int))))) m = _
    have : (!((p.1 : Int) == (l : Int))) = decide (p.1 ≠ l) := by
      by_cases z : p.1 = l
      · simp [z]
      · have : ¬ ((p.1 : Int) = (l : Int)) := by omega
        simp [z, this]
    rw [this]
  have cat : e2 dAdd (eFz (nLc [3] (iV (eTD (eV 0))) (tN 3) (e2 dNe (e2 dIx (eV 3) (eC (.int 0))) (eV 1)) (eV 3))) (eFz (nLst [eTup [eV 1, eV 2]])) (R none) m = .ok (.d (.lst (((hs.filter fun p => decide (p.1 ≠ l)) ++ [(l, e)]).map hD))) m := by
    rw [ev_e2, ev_eFz, ev_nLc, it, Res.bind_ok, lcG_ok (by rw [List.length_map]; omega), show wipeE (R none) [3] = R none from rfl, lc, Res.bind_ok, Res.bind_ok]
    have q : eFz (nLst [eTup [eV 1, eV 2]]) (R none) m = .ok (.d (.lst [hD (l, e)])) m := rfl
    rw [q, Res.bind_ok]
    show ofO (dAdd (.lst _) (.lst _)) m = _
    have := List.length_filter_le (fun p : Nat × Int => decide (p.1 ≠ l)) hs
    rw [o_addl, if_pos (small (by rw [List.length_map, List.length_singleton]; omega)), List.map_append]
    rfl
  have sd : dSortT (.lst (((hs.filter fun p => decide (p.1 ≠ l)) ++ [(l, e)]).map hD)) = some (.lst ((putH hs l e).map hD)) := by
    show ((intsTs _).bind _) = _
    have := List.length_filter_le (fun p : Nat × Int => decide (p.1 ≠ l)) hs
    have al : ((((hs.filter fun p => decide (p.1 ≠ l)) ++ [(l, e)]).map asI).all fun b => !b.isEmpty) = true := by
      rw [List.all_eq_true]
      intro b hb
      obtain ⟨p, _, rfl⟩ := List.mem_map.mp hb
      rfl
    rw [intsTs_h, Option.bind_some, if_pos ⟨al, by rw [List.length_map, List.length_append, List.length_singleton]; omega⟩, put_sort nd, tupI_h]
  simp only [F_more_facts, s_more_facts, mkFn]
  show fnR m.length (sRet _ (R none) m) = _
  rw [ev_ret, ev_tupOf, ev_e1, cat, Res.bind_ok]
  rw [show ((vw m (PV.d (D.lst (List.map hD ((hs.filter fun p => decide (p.1 ≠ l)) ++ [(l, e)]))))).bind dSortT) = some (.lst ((putH hs l e).map hD)) from sd]
  simp
end
end DI
namespace DI
open Ft
def onL (es : List Int) (ls : List Nat) : List Int := ls.map fun l => es.getD l 0
def lnD (ls : List Nat) : List D := ls.map fun (l : Nat) => D.int (l : Int)
structure Joint (F : Fx) (most : Int) (ls : List Nat) (L : List (List Int)) : Prop where
  pw : L.Pairwise (fun a b => a < b)
  mem : ∀ r, r ∈ L ↔ ∃ es, F.Ok 0 0 es ∧ F.cost 0 0 es ≤ most ∧ onL es ls = r
  len : L.length ≤ 25 ^ ls.length
theorem eq_tnil (l : Nat) (ls : List Nat) : dEq (.tup (lnD (l :: ls))) (.tup []) = some (.bl false) := by
  have d : ∀ ls, D.depAll (lnD ls) = 0 := fun ls => by
    induction ls with
    | nil => rfl
    | cons a t ih =>
      show D.depAll (D.int (a : Int) :: lnD t) = 0
      simp [D.depAll, D.dep, ih]
  unfold dEq
  rw [if_pos (by simp [D.dep, d, D.depAll])]
  rfl
section
variable [Nil0] {one other : List Char} {hs : List (Nat × Int)} {v : PV} {m : Mem} {most : Int} {l : Nat} {ls : List Nat}
/-- with this fate of the line, these of the others -/
def GoodT (F : Fx) (most : Int) (l : Nat) (ls : List Nat) (e : Int) (r : List Int) : Prop := ∃ es, F.Ok 0 0 es ∧ F.cost 0 0 es ≤ most ∧ es[l]? = some e ∧ onL es ls = r
abbrev jBody (Fr : Fn) : SS := (sSeq (sAsg (tN 7) (eCall Fr [eV 0, eV 1, eSl dSl (eV 2) (oS (eC (.int 1))) oN, eV 3, eCall F_more_facts [eV 4, e2 dIx (eV 2) (eC (.int 0)), eV 6]])) (sExt (eV 5) (nLc [8] (iV (eV 7)) (tN 8) (tsY) (e2 dAdd (eTup [eV 6]) (eV 8)))))
abbrev rJ (one other : List Char) (l : Nat) (ls : List Nat) (most : Int) (v : PV) (k : Nat) (x6 x7 : Option PV) : Env := [some (.d (.str one)), some (.d (.str other)), some (.d (.tup (lnD (l :: ls)))), some (.d (.int most)), some v, some (.obj k), x6, x7, none]
theorem j_loop {Fr : Fn} (nd : (hs.map (·.1)).Nodup) (hlen : hs.length ≤ 1000) (hl : l < one.length) (h3 : ls.length ≤ 2) (hll : ls.length ≤ 1000)
    (IH : ∀ e, (∃ c, c ≤ most ∧ (fxe one other hs).K l e c) → ∀ (M : Mem) (v' : PV), tupOf M v' = some ((putH hs l e).map hD) → ∃ Le, Fr [.d (.str one), .d (.str other), .d (.tup (lnD ls)), .d (.int most), v'] M = .ok (.d (.lst (Le.map tupI))) M ∧ Joint (fxe one other (putH hs l e)) most ls Le) (hv : tupOf m v = some (hs.map hD)) :
    ∀ (fs : List Int) (acc : List (List Int)) (extra : Mem) (x6 x7 : Option PV), (∀ e ∈ fs, ∃ c, c ≤ most ∧ (fxe one other hs).K l e c) → fs.Pairwise (fun a b => a < b) → acc.length + fs.length * 625 ≤ 100000 →
      ∃ out extra' y6 y7, forL (tN 6) (jBody Fr) (fs.map .int) (rJ one other l ls most v m.length x6 x7) (m ++ (.l1 (acc.map tupI) :: extra)) = .nx (rJ one other l ls most v m.length y6 y7) (m ++ (.l1 ((acc ++ out).map tupI) :: extra')) ∧
        out.Pairwise (fun a b => a < b) ∧ (∀ x, x ∈ out ↔ ∃ e r, e ∈ fs ∧ x = e :: r ∧ GoodT (fxe one other hs) most l ls e r) ∧ out.length ≤ fs.length * 25 ^ ls.length
  | [], acc, extra, x6, x7, _, _, _ => ⟨[], extra, x6, x7, by rw [List.append_nil]; rfl, .nil, by simp, by simp⟩
  | e :: fs, acc, extra, x6, x7, hf, hpw, hb => by
    rw [List.pairwise_cons] at hpw
    rw [List.length_cons] at hb
    have hk := hf e (by simp)
    obtain ⟨c0, hc0, k0⟩ := id hk
    have p25 : 25 ^ ls.length ≤ 625 := Nat.le_trans (Nat.pow_le_pow_right (by decide) h3) (by decide)
    let M : Mem := m ++ (.l1 (acc.map tupI) :: extra)
    let M1 : Mem := M ++ [.tp ((putH hs l e).map hD)]
    have hvM : tupOf M v = some (hs.map hD) := tup_apps hv
    obtain ⟨Le, er, jt⟩ := IH e hk M1 (.obj M.length) (by simp [M1, tupOf])
    have jl := jt.len
    have mf := sp_more_facts (m := M) nd hlen hvM l e
    have ix : ∀ x6 x7 M', e2 dIx (eV 2) (eC (.int 0)) (rJ one other l ls most v m.length x6 x7) M' = .ok (.d (.int (l : Int))) M' := fun _ _ _ => rfl
    have sl : ∀ x6 x7 M', eSl dSl (eV 2) (oS (eC (.int 1))) oN (rJ one other l ls most v m.length x6 x7) M' = .ok (.d (.tup (lnD ls))) M' := by
      intro x6 x7 M'
      have : cutD (lnD (l :: ls)) (some 1) none = lnD ls := by
        show cutD _ (some ((1 : Nat) : Int)) none = _
        rw [cut_from]
        rfl
      show ofO (dSl (.tup (lnD (l :: ls))) (some 1) none) M' = _
      show ofO (some (.tup (cutD (lnD (l :: ls)) (some 1) none))) M' = _
      rw [this]
      rfl
    have s1 : sAsg (tN 7) (eCall Fr [eV 0, eV 1, eSl dSl (eV 2) (oS (eC (.int 1))) oN, eV 3, eCall F_more_facts [eV 4, e2 dIx (eV 2) (eC (.int 0)), eV 6]]) (rJ one other l ls most v m.length (some (.d (.int e))) x7) M = .nx (rJ one other l ls most v m.length (some (.d (.int e))) (some (.d (.lst (Le.map tupI))))) M1 := by
      have mc : eCall F_more_facts [eV 4, e2 dIx (eV 2) (eC (.int 0)), eV 6] (rJ one other l ls most v m.length (some (.d (.int e))) x7) M = .ok (.obj M.length) M1 := by
        rw [ev_eCall]
        simp only [ev_args, ev_args0, ix, Res.bind_ok, ev_eV]
        exact mf
      have ar : eArgs [eV 0, eV 1, eSl dSl (eV 2) (oS (eC (.int 1))) oN, eV 3, eCall F_more_facts [eV 4, e2 dIx (eV 2) (eC (.int 0)), eV 6]] (rJ one other l ls most v m.length (some (.d (.int e))) x7) M = .ok [.d (.str one), .d (.str other), .d (.tup (lnD ls)), .d (.int most), .obj M.length] M1 := by
        rw [ev_args, show eV 0 (rJ one other l ls most v m.length (some (.d (.int e))) x7) M = .ok (.d (.str one)) M from rfl, Res.bind_ok, ev_args, show eV 1 (rJ one other l ls most v m.length (some (.d (.int e))) x7) M = .ok (.d (.str other)) M from rfl, Res.bind_ok, ev_args, sl, Res.bind_ok, ev_args, show eV 3 (rJ one other l ls most v m.length (some (.d (.int e))) x7) M = .ok (.d (.int most)) M from rfl, Res.bind_ok, ev_args, mc, Res.bind_ok]
        rfl
      rw [ev_asg, ev_eCall, ar, Res.bind_ok, er]
      rfl
    have lc : nLc [8] (iV (eV 7)) (tN 8) (tsY) (e2 dAdd (eTup [eV 6]) (eV 8)) (rJ one other l ls most v m.length (some (.d (.int e))) (some (.d (.lst (Le.map tupI))))) M1 = .ok ((Le.map (e :: ·)).map tupI) M1 := by
      rw [ev_nLc, show iV (eV 7) (rJ one other l ls most v m.length (some (.d (.int e))) (some (.d (.lst (Le.map tupI))))) M1 = .ok (Le.map tupI) M1 from rfl, Res.bind_ok, lcG_ok (by rw [List.length_map]; omega)]
      rw [show wipeE (rJ one other l ls most v m.length (some (.d (.int e))) (some (.d (.lst (Le.map tupI))))) [8] = rJ one other l ls most v m.length (some (.d (.int e))) (some (.d (.lst (Le.map tupI)))) from rfl, lcL_all (k := tupI) (g := fun r => tupI (e :: r)), List.map_map]
      · rfl
      · intro r hr
        refine ⟨_, rfl, ?_⟩
        show ofO (dAdd (.tup [.int e]) (.tup (r.map .int))) M1 = _
        obtain ⟨es, _, _, hr2⟩ := (jt.mem r).mp hr
        have : r.length = ls.length := by rw [← hr2]; unfold onL; rw [List.length_map]
        rw [o_addt, if_pos (small (by rw [List.length_map, List.length_singleton]; omega))]
        rfl
    have at1 : ∀ (a b : Mem) (o : MO), (a ++ (o :: b))[a.length]? = some o := fun a b o => by simp
    have eM1 : M1 = m ++ (.l1 (acc.map tupI) :: (extra ++ [.tp ((putH hs l e).map hD)])) := by simp [M1, M]
    have s2 : sExt (eV 5) (nLc [8] (iV (eV 7)) (tN 8) (tsY) (e2 dAdd (eTup [eV 6]) (eV 8))) (rJ one other l ls most v m.length (some (.d (.int e))) (some (.d (.lst (Le.map tupI))))) M1 = .nx (rJ one other l ls most v m.length (some (.d (.int e))) (some (.d (.lst (Le.map tupI))))) (m ++ (.l1 ((acc ++ Le.map (e :: ·)).map tupI) :: (extra ++ [.tp ((putH hs l e).map hD)]))) := by
      have g : M1[m.length]? = some (.l1 (acc.map tupI)) := by rw [eM1]; exact at1 _ _ _
      unfold sExt
      rw [show eV 5 (rJ one other l ls most v m.length (some (.d (.int e))) (some (.d (.lst (Le.map tupI))))) M1 = .ok (.obj m.length) M1 from rfl, Res.run_ok]
      dsimp only
      rw [g]
      dsimp only
      rw [lc, Res.run_ok, g]
      dsimp only
      rw [if_pos (by simp only [List.length_map]; unfold lineL; omega), eM1]
      congr 1
      simp
    obtain ⟨out, extra', y6, y7, e2, o1, o2, o3⟩ := j_loop nd hlen hl h3 hll IH hv fs (acc ++ Le.map (e :: ·)) (extra ++ [.tp ((putH hs l e).map hD)]) (some (.d (.int e))) (some (.d (.lst (Le.map tupI)))) (fun x hx => hf x (by simp [hx])) hpw.2 (by rw [List.length_append, List.length_map]; omega)
    refine ⟨Le.map (e :: ·) ++ out, extra', y6, y7, ?_, ?_, fun x => ?_, ?_⟩
    · have e1 : jBody Fr (rJ one other l ls most v m.length (some (.d (.int e))) x7) M = .nx (rJ one other l ls most v m.length (some (.d (.int e))) (some (.d (.lst (Le.map tupI))))) (m ++ (.l1 ((acc ++ Le.map (e :: ·)).map tupI) :: (extra ++ [.tp ((putH hs l e).map hD)]))) := by
        unfold jBody
        rw [ev_seq, s1, at_nx, s2]
      rw [List.map_cons, for_nx rfl e1, e2, List.append_assoc]
    · rw [List.pairwise_append]
      refine ⟨?_, o1, fun a ha b hb => ?_⟩
      · rw [List.pairwise_map]
        exact jt.pw.imp fun h => lt_cons' h
      · obtain ⟨ra, _, rfl⟩ := List.mem_map.mp ha
        obtain ⟨x, rb, hx, rfl, _⟩ := (o2 b).mp hb
        exact lt_cons (hpw.1 x hx)
    · have ce : ∀ es, (fxe one other hs).cost 0 0 es = (fxe one other (putH hs l e)).cost 0 0 es := fun es => cost_told ..
      have gd : ∀ r, r ∈ Le ↔ GoodT (fxe one other hs) most l ls e r := fun r => by
        rw [jt.mem]
        constructor
        · rintro ⟨es, k1, k2, k3⟩
          obtain ⟨q1, q2⟩ := (put_ok nd hl k0 es).mp k1
          exact ⟨es, q1, by rw [ce es]; exact k2, q2, k3⟩
        · rintro ⟨es, k1, k2, k3, k4⟩
          exact ⟨es, (put_ok nd hl k0 es).mpr ⟨k1, k3⟩, by rw [← ce es]; exact k2, k4⟩
      rw [List.mem_append, List.mem_map, o2]
      constructor
      · rintro (⟨r, hr, rfl⟩ | ⟨x', r, hx, rfl, g⟩)
        · exact ⟨e, r, by simp, rfl, (gd r).mp hr⟩
        · exact ⟨x', r, by simp [hx], rfl, g⟩
      · rintro ⟨x', r, hx, rfl, g⟩
        rcases List.mem_cons.mp hx with rfl | hx
        · exact .inl ⟨r, (gd r).mpr g, rfl⟩
        · exact .inr ⟨x', r, hx, rfl, g⟩
    · rw [List.length_append, List.length_map, List.length_cons, Nat.add_mul, Nat.one_mul]
      omega
end
end DI
namespace DI
open Ft
section
variable [Nil0] {one other : List Char}
theorem onL_cons {F : Fx} {es : List Int} {l : Nat} {ls : List Nat} : onL es (l :: ls) = es.getD l 0 :: onL es ls := rfl
/-- joint_fates -/
theorem sp_joint (b1 : one.length ≤ 24) (b2 : other.length ≤ 24) {most : Int} : ∀ (ls : List Nat) (r : Nat) (hs : List (Nat × Int)) (v : PV) (m : Mem), ls.length < r → ls.length ≤ 3 → Facts (fxe one other hs) hs → hs.length + ls.length < 900 → (∀ l ∈ ls, l < one.length) → tupOf m v = some (hs.map hD) → (ls = [] → ∃ c, c ≤ most ∧ (fxe one other hs).S 0 0 c) →
    ∃ L, R_joint_fates r [.d (.str one), .d (.str other), .d (.tup (lnD ls)), .d (.int most), v] m = .ok (.d (.lst (L.map tupI))) m ∧ Joint (fxe one other hs) most ls L
  | [], 0, _, _, _, h, _, _, _, _, _, _ => absurd h (by simp)
  | _ :: _, 0, _, _, _, h, _, _, _, _, _, _ => absurd h (by simp)
  | [], r + 1, hs, v, m, _, _, fs, _, _, hv, hex => by
    refine ⟨[[]], ?_, ⟨List.pairwise_singleton .., fun q => ?_, by simp⟩⟩
    · show mkFn 9 (s_joint_fates (R_joint_fates r)) _ m = _
      simp only [s_joint_fates, mkFn]
      have e : dEq (.tup (lnD [])) (.tup []) = some (.bl true) := rfl
      simp [e]
      rfl
    · obtain ⟨c, hc, es, k1, k2⟩ := hex rfl
      rw [List.mem_singleton]
      constructor
      · rintro rfl
        exact ⟨es, k1, by omega, rfl⟩
      · rintro ⟨_, _, _, h⟩
        exact h.symm
  | l :: ls, r + 1, hs, v, m, hr, h3, fs, hlen, hl, hv, _ => by
    rw [List.length_cons] at hr h3 hlen
    have m1 : (fxe one other hs).m ≤ 1000 := by show one.length ≤ 1000; omega
    have m2 : (fxe one other hs).n ≤ 1000 := by show other.length ≤ 1000; omega
    have hll := hl l (by simp)
    have nd := fs.nd
    let M0 : Mem := m ++ [.l1 []]
    have hv0 : tupOf M0 v = some (hs.map hD) := tup_apps hv
    obtain ⟨lost, kept, ef, co⟩ := sp_fates_with (F := fxe one other hs) (hs := hs) rfl m1 m2 nd (l := l) hll most M0 hv0
    have ef : F_fates_with [.d (.str one), .d (.str other), .d (.int (l : Int)), .d (.int most), v] M0 = .ok (.d (.lst ((fatesL lost kept most).map .int))) M0 := ef
    have fl := fatesL_len lost kept most
    have kl : kept.length = other.length := co.len
    obtain ⟨out, extra', y6, y7, eL, o1, o2, o3⟩ := j_loop (Fr := R_joint_fates r) (v := v) (m := m) (most := most) nd (by omega) hll (ls := ls) (by omega) (by omega) (fun e he M v' hv' => by
      obtain ⟨c0, hc0, k0⟩ := id he
      have hr : -1 ≤ e ∧ e < (other.length : Int) := by
        obtain ⟨es, k1, k2, _⟩ := id k0
        rcases ok_range k1 k2 with rfl | ⟨p, hp, rfl⟩
        · omega
        · have hp : p < other.length := hp
          omega
      have pl := putH_len (hs := hs) (l := l) (e := e)
      exact sp_joint b1 b2 ls r (putH hs l e) v' M (by omega) (by omega) (putH_facts fs hll hr (by omega)) (by omega) (fun x hx => hl x (by simp [hx])) hv' fun _ => ⟨c0, hc0, (put_S nd hll k0 c0).mpr k0⟩) hv
      (fatesL lost kept most) [] [] none none (fun e he => (fatesL_mem co most e).mp he) (fatesL_rise lost kept most) (by simp; omega)
    refine ⟨out, ?_, ⟨o1, fun x => ?_, ?_⟩⟩
    · show mkFn 9 (s_joint_fates (R_joint_fates r)) _ m = _
      simp only [s_joint_fates, mkFn]
      let R : Option PV → Option PV → Option PV → Env := fun x5 x6 x7 => [some (.d (.str one)), some (.d (.str other)), some (.d (.tup (lnD (l :: ls)))), some (.d (.int most)), some v, x5, x6, x7, none]
      have s0 : sIf (e2 dEq (eV 2) (eTup [])) (sRet (eFz (nLst [eTup []]))) (sNil) (R none none none) m = .nx (R none none none) m := by
        rw [ev_if, ev_e2, show eV 2 (R none none none) m = .ok (.d (.tup (lnD (l :: ls)))) m from rfl, Res.bind_ok, show eTup [] (R none none none) m = .ok (.d (.tup [])) m from rfl, Res.bind_ok]
        show ifO (ofO (dEq (.tup (lnD (l :: ls))) (.tup [])) m) _ _ _ = _
        rw [eq_tnil]
        rfl
      have s1 : sAsg (tN 5) (eNw (nLst [])) (R none none none) m = .nx (R (some (.obj m.length)) none none) M0 := rfl
      have it : iV (eCall F_fates_with [eV 0, eV 1, e2 dIx (eV 2) (eC (.int 0)), eV 3, eV 4]) (R (some (.obj m.length)) none none) M0 = .ok ((fatesL lost kept most).map .int) M0 := by
        show (eCall F_fates_with [eV 0, eV 1, e2 dIx (eV 2) (eC (.int 0)), eV 3, eV 4] (R (some (.obj m.length)) none none) M0).bind _ = _
        rw [show eCall F_fates_with [eV 0, eV 1, e2 dIx (eV 2) (eC (.int 0)), eV 3, eV 4] (R (some (.obj m.length)) none none) M0 = F_fates_with [.d (.str one), .d (.str other), .d (.int (l : Int)), .d (.int most), v] M0 from rfl, ef]
        rfl
      show fnR m.length ((sSeq _ _) (R none none none) m) = _
      rw [ev_seq, s0, at_nx, ev_seq, s1, at_nx, ev_seq, ev_for, it, Res.run_ok]
      rw [show forL (tN 6) _ ((fatesL lost kept most).map .int) (R (some (.obj m.length)) none none) M0 = _ from eL, at_nx, List.nil_append]
      have g : (m ++ (MO.l1 (out.map tupI) :: extra'))[m.length]? = some (.l1 (out.map tupI)) := by simp
      rw [ev_fz]
      simp only [rJ]
      show fnR m.length (match (m ++ (MO.l1 (out.map tupI) :: extra'))[m.length]? with
        | some (.l1 xs) => _
        | _ => .no) = _
      rw [g]
      simp
    · rw [o2]
      constructor
      · rintro ⟨e, q, he, rfl, es, k1, k2, k3, k4⟩
        refine ⟨es, k1, k2, ?_⟩
        rw [onL_cons (F := fxe one other hs), k4, List.getD_eq_getElem?_getD, k3]
        rfl
      · rintro ⟨es, k1, k2, rfl⟩
        have hlt : l < es.length := by rw [ok_len k1]; exact hll
        have e1 : es[l]? = some (es.getD l 0) := by rw [List.getD_eq_getElem?_getD, List.getElem?_eq_getElem hlt]; rfl
        exact ⟨es.getD l 0, onL es ls, (fatesL_mem co most _).mpr ⟨_, k2, es, k1, e1, rfl⟩, rfl, es, k1, k2, e1, rfl⟩
    · rw [List.length_cons, Nat.pow_succ]
      refine Nat.le_trans o3 (Nat.le_trans (Nat.mul_le_mul_right _ (show (fatesL lost kept most).length ≤ 25 by omega)) ?_)
      omega
/-! how many tuples of fates there are -/
def stepR (a b : Int) : Prop := 0 ≤ a → 0 ≤ b → a < b
theorem ok_step {F : Fx} : ∀ {es : List Int} {i j : Nat}, F.Ok i j es → (∀ e ∈ es, e = -1 ∨ ((j : Int) ≤ e ∧ e < F.n)) ∧ es.Pairwise stepR
  | [], _, _, _ => ⟨by simp, .nil⟩
  | e :: es, i, j, h => by
    obtain ⟨_, _, ⟨rfl, h⟩ | ⟨k, rfl, h1, h2, h⟩⟩ := h
    · obtain ⟨q1, q2⟩ := ok_step h
      refine ⟨fun x hx => ?_, List.pairwise_cons.mpr ⟨fun b _ h0 => absurd h0 (by omega), q2⟩⟩
      rcases List.mem_cons.mp hx with rfl | hx
      · exact .inl rfl
      · exact q1 x hx
    · obtain ⟨q1, q2⟩ := ok_step h
      refine ⟨fun x hx => ?_, List.pairwise_cons.mpr ⟨fun b hb h0 h0' => ?_, q2⟩⟩
      · rcases List.mem_cons.mp hx with rfl | hx
        · exact .inr ⟨by omega, by omega⟩
        · rcases q1 x hx with q | ⟨q, q'⟩
          · exact .inl q
          · exact .inr ⟨by omega, q'⟩
      · rcases q1 b hb with q | ⟨q, _⟩
        · omega
        · omega
def enumV (n : Nat) : Nat → Nat → List (List Int)
  | 0, _ => [[]]
  | k + 1, lo => (enumV n k lo).map ((-1) :: ·) ++ ((List.range (n - lo)).flatMap fun (d : Nat) => (enumV n k (lo + d + 1)).map (((lo + d : Nat) : Int) :: ·))
theorem mem_enumV {n : Nat} : ∀ {xs : List Int} {lo : Nat}, (∀ e ∈ xs, e = -1 ∨ ((lo : Int) ≤ e ∧ e < n)) → xs.Pairwise stepR → xs ∈ enumV n xs.length lo
  | [], lo, _, _ => by simp [enumV]
  | x :: xs, lo, h, p => by
    rw [List.pairwise_cons] at p
    rw [List.length_cons]
    unfold enumV
    rw [List.mem_append]
    rcases h x (by simp) with rfl | ⟨h1, h2⟩
    · exact .inl (List.mem_map.mpr ⟨xs, mem_enumV (fun e he => h e (by simp [he])) p.2, rfl⟩)
    · right
      rw [List.mem_flatMap]
      refine ⟨(x - lo).toNat, List.mem_range.mpr (by omega), List.mem_map.mpr ⟨xs, ?_, by
        have : ((lo + (x - lo).toNat : Nat) : Int) = x := by omega
        rw [this]⟩⟩
      refine mem_enumV (fun e he => ?_) p.2
      rcases h e (by simp [he]) with q | ⟨q, q'⟩
      · exact .inl q
      · have := p.1 e he (by omega) (by omega)
        exact .inr ⟨by omega, q'⟩
theorem enumV_len : ∀ n ≤ 4, ∀ k ≤ 3, (enumV n k 0).length < 63 := by decide +kernel
/-- the fates of ascending lines -/
theorem onL_enum {F : Fx} {es : List Int} (h : F.Ok 0 0 es) {ls : List Nat} (hp : ls.Pairwise (· < ·)) (hl : ∀ l ∈ ls, l < F.m) : onL es ls ∈ enumV F.n ls.length 0 := by
  obtain ⟨q1, q2⟩ := ok_step h
  have hlen := ok_len h
  have e : (onL es ls).length = ls.length := by unfold onL; rw [List.length_map]
  have gd : ∀ l ∈ ls, ∃ hlt : l < es.length, es.getD l 0 = es[l] := fun l hm => ⟨by rw [hlen]; exact hl l hm, by
    have : l < es.length := by rw [hlen]; exact hl l hm
    simp [this]⟩
  rw [← e]
  refine mem_enumV (fun x hx => ?_) ?_
  · obtain ⟨l, hm, rfl⟩ := List.mem_map.mp hx
    obtain ⟨hlt, e⟩ := gd l hm
    rw [e]
    exact q1 _ (List.getElem_mem hlt)
  · unfold onL
    rw [List.pairwise_map]
    refine List.Pairwise.imp_of_mem (fun {a b} ha hb hab => ?_) hp
    obtain ⟨h1, e1⟩ := gd a ha
    obtain ⟨h2, e2⟩ := gd b hb
    rw [e1, e2]
    exact List.pairwise_iff_getElem.mp q2 a b h1 h2 hab
/-- the tuples that are due -/
def dueT (F : Fx) (hs : List (Nat × Int)) (ls : List Nat) (most : Int) : List (List Int) := ((known F hs).filter fun es => decide (F.price es ≤ most)).map fun es => onL es ls
theorem dueT_mem {F : Fx} {hs : List (Nat × Int)} (fs : Facts F hs) (hF : F.told = lookH hs) {ls : List Nat} {most : Int} (x : List Int) : x ∈ dueT F hs ls most ↔ ∃ es, F.Ok 0 0 es ∧ F.cost 0 0 es ≤ most ∧ onL es ls = x := by
  unfold dueT
  rw [List.mem_map]
  constructor
  · rintro ⟨es, h, rfl⟩
    rw [List.mem_filter] at h
    exact ⟨es, (mem_known fs.nd fs.lo hF es).mp h.1, by rw [← price_cost]; exact of_decide_eq_true h.2, rfl⟩
  · rintro ⟨es, k1, k2, rfl⟩
    exact ⟨es, List.mem_filter.mpr ⟨(mem_known fs.nd fs.lo hF es).mpr k1, decide_eq_true (by rw [price_cost]; exact k2)⟩, rfl⟩
theorem dueT_few {F : Fx} {hs : List (Nat × Int)} (fs : Facts F hs) (hF : F.told = lookH hs) {ls : List Nat} {most : Int} (hp : ls.Pairwise (· < ·)) (hl : ∀ l ∈ ls, l < F.m) (h3 : ls.length ≤ 3) (h4 : F.n ≤ 4) : (dedupG (dueT F hs ls most)).length < 63 := by
  refine Nat.lt_of_le_of_lt (nodup_len (dedupG_nd _) (m := enumV F.n ls.length 0) fun x hx => ?_) (enumV_len F.n h4 ls.length h3)
  obtain ⟨es, k1, _, rfl⟩ := (dueT_mem fs hF x).mp (dedupG_mem.mp hx)
  exact onL_enum k1 hp hl
theorem joint_due {F : Fx} {hs : List (Nat × Int)} (fs : Facts F hs) (hF : F.told = lookH hs) {ls : List Nat} {most : Int} {L : List (List Int)} (j : Joint F most ls L) : (dedupG (dueT F hs ls most)).mergeSort leL = L := by
  refine leL_uniq (leL_pw _) (j.pw.imp leL_lt) ((List.mergeSort_perm _ _).trans ?_)
  refine (List.perm_ext_iff_of_nodup (dedupG_nd _) (j.pw.imp lt_ne)).mpr fun x => ?_
  rw [dedupG_mem, dueT_mem fs hF, j.mem]
end
end DI
namespace DI
open Ft
section
variable [Nil0] {one other : List Char} {hs : List (Nat × Int)} {v : PV} {m : Mem} {most : Int} {ls : List Nat}
abbrev rT (one other : List Char) (ls : List Nat) (most : Int) (v : PV) (x5 x6 : Option PV) : Env := [some (.d (.str one)), some (.d (.str other)), some (.d (.tup (lnD ls))), some (.d (.int most)), some v, x5, x6]
theorem zip_ln : ∀ a b : List Nat, ((lnD a).zip (lnD b)).map (fun p => D.tup [p.1, p.2]) = (a.zip b).map fun q => .tup [.int (q.1 : Int), .int (q.2 : Int)]
  | [], _ => by simp [lnD]
  | _ :: _, [] => by simp [lnD]
  | x :: a, y :: b => by
    have := zip_ln a b
    simp [lnD] at this ⊢
    exact this
theorem asc_nat : ∀ {ls : List Nat}, ls.Pairwise (· < ·) → ∀ q ∈ ls.zip (ls.drop 1), q.1 < q.2
  | [], _, q, h => by simp at h
  | [a], _, q, h => by simp at h
  | a :: b :: r, hp, q, h => by
    rw [List.pairwise_cons] at hp
    rw [show (a :: b :: r).drop 1 = b :: r from rfl, List.zip_cons_cons] at h
    rcases List.mem_cons.mp h with rfl | h
    · exact hp.1 b (by simp)
    · exact asc_nat (ls := b :: r) hp.2 q h
theorem sp_together (t1 : isTB one = true) (t2 : isTB other = true) (fs : Facts (fxe one other hs) hs) (hlen : hs.length < 800) (h1 : 1 ≤ ls.length) (h3 : ls.length ≤ 3) (hp : ls.Pairwise (· < ·)) (hl : ∀ l ∈ ls, l < one.length) (hmo : 0 ≤ most ∧ most ≤ 48) (m : Mem) (hv : tupOf m v = some (hs.map hD)) :
    F_together [.d (.str one), .d (.str other), .d (.tup (lnD ls)), .d (.int most), v] m = .ok (.d (.lst (((dedupG (dueT (fxe one other hs) hs ls most)).mergeSort leL).map tupI))) m := by
  have b1 := tb_len t1
  have b2 := tb_len t2
  have b1' : one.length ≤ 16777216 := by omega
  obtain ⟨L, ej, jt⟩ := sp_joint (most := most) b1 b2 ls 4 hs v m (by omega) h3 fs (by omega) hl hv (fun z => by rw [z] at h1; simp at h1)
  rw [joint_due fs rfl jt]
  have m1 : (fxe one other hs).m ≤ 1000 := by show one.length ≤ 1000; omega
  have m2 : (fxe one other hs).n ≤ 1000 := by show other.length ≤ 1000; omega
  have a1 := sp_need_pair (F := fxe one other hs) t1 t2 m
  have a2 := sp_need_facts m1 m2 fs m hv
  have a4 := sp_need_number hmo m
  have ll : (lnD ls).length = ls.length := by unfold lnD; rw [List.length_map]
  let R : Option PV → Option PV → Env := rT one other ls most v
  have s0 : sExpr (eCall F_need_pair [eV 0, eV 1]) (R none none) m = .nx (R none none) m := by
    have a1 : F_need_pair [.d (.str one), .d (.str other)] m = .ok (.d .non) m := a1
    simp [R, a1]
  have s1 : sIf (eOr (eNot (e1 (dIsiP "tuple") (eV 2))) (eNot (eCh dLe dLe (eC (.int 1)) (e1 dLen (eV 2)) (eC (.int 3))))) (sRaise ⟨"InvalidLines", none⟩) (sNil) (R none none) m = .nx (R none none) m := by
    have d1 : decide ((1 : Int) ≤ (ls.length : Int)) = true := decide_eq_true (by omega)
    have d2 : decide ((ls.length : Int) ≤ 3) = true := decide_eq_true (by omega)
    have c : eOr (eNot (e1 (dIsiP "tuple") (eV 2))) (eNot (eCh dLe dLe (eC (.int 1)) (e1 dLen (eV 2)) (eC (.int 3)))) (R none none) m = .ok (.d (.bl false)) m := by
      have q1 : e1 (dIsiP "tuple") (eV 2) (R none none) m = .ok (.d (.bl true)) m := rfl
      have q2 : eCh dLe dLe (eC (.int 1)) (e1 dLen (eV 2)) (eC (.int 3)) (R none none) m = .ok (.d (.bl true)) m := by
        have q3 : e1 dLen (eV 2) (R none none) m = .ok (.d (.int (ls.length : Int))) m := by
          show ofO (some (D.int ((lnD ls).length : Int))) m = _
          rw [ll]
          rfl
        unfold eCh
        rw [show eC (.int 1) (R none none) m = .ok (.d (.int 1)) m from rfl, Res.bind_ok, q3, Res.bind_ok]
        show (ofO (some (D.bl (decide ((1 : Int) ≤ (ls.length : Int))))) m).bind _ = _
        rw [d1]
        show ofO (some (D.bl (decide ((ls.length : Int) ≤ 3)))) m = _
        rw [d2]
        rfl
      rw [ev_eOr, ev_eNot, q1, Res.bind_ok, tst_bl, Res.bind_ok, tst_bl, if_neg (by decide), ev_eNot, q2, Res.bind_ok, tst_bl]
      rfl
    rw [ev_if, c, if_f]
    rfl
  have iv : ∀ x5 x6, iV (eV 2) (R x5 x6) m = .ok (lnD ls) m := fun _ _ => rfl
  have s2 : sIf (eNot (e1 dAll (eFz (nLc [5] (iV (eV 2)) (tN 5) (tsY) (eCall F_is_from [eV 5, eC (.int 0), e2 dSub (e1 dLen (eV 0)) (eC (.int 1))]))))) (sRaise ⟨"InvalidLines", none⟩) (sNil) (R none none) m = .nx (R none none) m := by
    have lc : lcL (tN 5) tsY (eCall F_is_from [eV 5, eC (.int 0), e2 dSub (e1 dLen (eV 0)) (eC (.int 1))]) (lnD ls) (R none none) m [] = .ok (ls.map fun _ => .bl true) m := lcL_all (k := fun (l : Nat) => D.int (l : Int)) (g := fun _ => .bl true) ls fun l hm => by
      have := hl l hm
      have d0 : decide ((0 : Int) ≤ (l : Int)) = true := decide_eq_true (by omega)
      have d1 : decide ((l : Int) ≤ (one.length : Int) - 1) = true := decide_eq_true (by omega)
      exact ⟨R (some (.d (.int (l : Int)))) none, rfl, by simp [R, sp_is_from, b1', d0, d1]⟩
    have c : eNot (e1 dAll (eFz (nLc [5] (iV (eV 2)) (tN 5) (tsY) (eCall F_is_from [eV 5, eC (.int 0), e2 dSub (e1 dLen (eV 0)) (eC (.int 1))])))) (R none none) m = .ok (.d (.bl false)) m := by
      rw [ev_eNot, ev_e1, ev_eFz, ev_nLc, iv, Res.bind_ok, lcG_ok (by rw [ll]; omega), show wipeE (R none none) [5] = R none none from rfl, lc]
      show (ofO (dAll (.lst (ls.map fun _ => .bl true))) m).bind _ = _
      rw [o_all]
      simp [ofO]
    rw [ev_if, c, if_f]
    rfl
  have s3 : sIf (e1 dAny (eFz (nLc [5, 6] (iZip (eV 2) (eSl dSl (eV 2) (oS (eC (.int 1))) oN)) (tT [5, 6]) (tsY) (e2 dGe (eV 5) (eV 6))))) (sRaise ⟨"InvalidLines", none⟩) (sNil) (R none none) m = .nx (R none none) m := by
    have iz : iZip (eV 2) (eSl dSl (eV 2) (oS (eC (.int 1))) oN) (R none none) m = .ok ((ls.zip (ls.drop 1)).map fun q => .tup [.int (q.1 : Int), .int (q.2 : Int)]) m := by
      have sl : eSl dSl (eV 2) (oS (eC (.int 1))) oN (R none none) m = .ok (.d (.tup (lnD (ls.drop 1)))) m := by
        rw [ev_eSl, show eV 2 (R none none) m = .ok (.d (.tup (lnD ls))) m from rfl, Res.bind_ok]
        simp [cut_1, lnD, List.map_drop]
      rw [ev_iZip, show eV 2 (R none none) m = .ok (.d (.tup (lnD ls))) m from rfl, Res.bind_ok, sl, Res.bind_ok]
      dsimp only
      rw [ev_itt, ev_itt]
      dsimp only
      rw [zip_ln]
    have hz : (ls.zip (ls.drop 1)).length ≤ 16777216 := by rw [List.length_zip]; omega
    have lz : lcL (tT [5, 6]) tsY (e2 dGe (eV 5) (eV 6)) ((ls.zip (ls.drop 1)).map fun q => .tup [.int (q.1 : Int), .int (q.2 : Int)]) (R none none) m [] = .ok ((ls.zip (ls.drop 1)).map fun q => .bl false) m := lcL_all _ fun q hq => by
      have := asc_nat hp q hq
      exact ⟨R (some (.d (.int (q.1 : Int)))) (some (.d (.int (q.2 : Int)))), rfl, by
        have d : ¬ ((q.2 : Int) ≤ (q.1 : Int)) := by omega
        simp [R, rT, d]⟩
    have c : e1 dAny (eFz (nLc [5, 6] (iZip (eV 2) (eSl dSl (eV 2) (oS (eC (.int 1))) oN)) (tT [5, 6]) (tsY) (e2 dGe (eV 5) (eV 6)))) (R none none) m = .ok (.d (.bl false)) m := by
      rw [ev_e1, ev_eFz, ev_nLc, iz, Res.bind_ok, lcG_ok (by rw [List.length_map]; exact hz), show wipeE (R none none) [5, 6] = R none none from rfl, lz]
      show ofO (dAny (.lst ((ls.zip (ls.drop 1)).map fun q => .bl false))) m = _
      rw [o_any (fun _ => false)]
      simp [ofO]
    rw [ev_if, c, if_f]
    rfl
  have s4 : sExpr (eCall F_need_number [eV 3, eC (.int 0), eC (.int 48)]) (R none none) m = .nx (R none none) m := by
    simp [R, rT, a4]
  have s5 : sExpr (eCall F_need_facts [eV 0, eV 1, eV 4]) (R none none) m = .nx (R none none) m := by
    have a2 : F_need_facts [.d (.str one), .d (.str other), v] m = .ok (.d .non) m := a2
    simp [R, rT, a2]
  simp only [F_together, s_together, mkFn]
  show fnR m.length ((sSeq _ _) (R none none) m) = _
  rw [ev_seq, s0, at_nx, ev_seq, s1, at_nx, ev_seq, s2, at_nx, ev_seq, s3, at_nx, ev_seq, s4, at_nx, ev_seq, s5, at_nx, ev_ret]
  rw [show eCall F_joint_fates [eV 0, eV 1, eV 2, eV 3, eV 4] (R none none) m = R_joint_fates 4 [.d (.str one), .d (.str other), .d (.tup (lnD ls)), .d (.int most), v] m from rfl, ej]
  simp
/-! what are no lines -/
def oddL (x : D) : Prop := ∀ (b : Nat) (m : Mem), F_together [.d (.str ['a', 'b', 'c', 'd']), .d (.str ['b']), .d x, .d .non, .raw b] m = .ex ⟨"InvalidLines", none⟩ m
theorem np (m : Mem) : F_need_pair [.d (.str ['a', 'b', 'c', 'd']), .d (.str ['b'])] m = .ok (.d .non) m := sp_need_pair (F := ⟨['a', 'b', 'c', 'd'], ['b'], fun _ => none⟩) (by decide) (by decide) m
theorem isf_b (b : Bool) (hi : Int) (m : Mem) : F_is_from [.d (.bl b), .d (.int 0), .d (.int hi)] m = .ok (.d (.bl false)) m := by
  simp only [F_is_from, s_is_from, mkFn]
  simp [dIsiP, tyP]
theorem ol1 : oddL .non := fun b m => by
  simp only [F_together, s_together, mkFn]
  simp [np, dIsiP, tyP, sRaise, fnR]
theorem ol2 : oddL (.tup []) := fun b m => by
  simp only [F_together, s_together, mkFn]
  simp [np, dIsiP, tyP, sRaise, fnR, eCh]
theorem ol3 : oddL (.lst [.int 0]) := fun b m => by
  simp only [F_together, s_together, mkFn]
  simp [np, dIsiP, tyP, sRaise, fnR]
theorem ol4 : oddL (.tup [.int 0, .int 0]) := fun b m => by
  simp only [F_together, s_together, mkFn]
  simp [np, dIsiP, tyP, sRaise, fnR, eCh, sp_is_from, isf_b, cut_1, lcL, dAll, dAny, bls]
theorem ol5 : oddL (.tup [.int 1, .int 0]) := fun b m => by
  simp only [F_together, s_together, mkFn]
  simp [np, dIsiP, tyP, sRaise, fnR, eCh, sp_is_from, isf_b, cut_1, lcL, dAll, dAny, bls]
theorem ol6 : oddL (.tup [.int 0, .int 4]) := fun b m => by
  simp only [F_together, s_together, mkFn]
  simp [np, dIsiP, tyP, sRaise, fnR, eCh, sp_is_from, isf_b, cut_1, lcL, dAll, dAny, bls]
theorem ol7 : oddL (.tup [.int (-1)]) := fun b m => by
  simp only [F_together, s_together, mkFn]
  simp [np, dIsiP, tyP, sRaise, fnR, eCh, sp_is_from, isf_b, cut_1, lcL, dAll, dAny, bls]
theorem ol8 : oddL (.tup [.int 0, .int 1, .int 2, .int 3]) := fun b m => by
  simp only [F_together, s_together, mkFn]
  simp [np, dIsiP, tyP, sRaise, fnR, eCh, sp_is_from, isf_b, cut_1, lcL, dAll, dAny, bls]
theorem ol9 : oddL (.tup [.bl true]) := fun b m => by
  simp only [F_together, s_together, mkFn]
  simp [np, dIsiP, tyP, sRaise, fnR, eCh, sp_is_from, isf_b, cut_1, lcL, dAll, dAny, bls]
theorem ol10 : oddL (.int 0) := fun b m => by
  simp only [F_together, s_together, mkFn]
  simp [np, dIsiP, tyP, sRaise, fnR, eCh, sp_is_from, isf_b, cut_1, lcL, dAll, dAny, bls]
end
end DI
namespace DI
open Ft
/-! the law's own pairings -/
def tD (es : List Int) : D := .tup (es.map .int)
def extL (n : Nat) (es : List Int) : List (List Int) := (nexts n es).map fun e => es ++ [e]
theorem max_top : ∀ (es : List Int), maxI (-1 :: es) = some (top1 es)
  | [] => rfl
  | [e] => by
    show (match maxI [e] with | some b => some (if (-1 : Int) < b then b else -1) | none => none) = some (if e < -1 then -1 else e)
    show some (if (-1 : Int) < e then e else -1) = _
    congr 1
    repeat' split
    all_goals first | rfl | omega
  | e :: f :: r => by
    have ih := max_top (f :: r)
    have e1 : maxI (-1 :: e :: f :: r) = match maxI (e :: f :: r) with
      | some b => some (if (-1 : Int) < b then b else -1)
      | none => none := rfl
    have e2 : maxI (e :: f :: r) = match maxI (f :: r) with
      | some b => some (if e < b then b else e)
      | none => none := rfl
    have e3 : maxI (-1 :: f :: r) = match maxI (f :: r) with
      | some b => some (if (-1 : Int) < b then b else -1)
      | none => none := rfl
    rw [e3] at ih
    cases h : maxI (f :: r) with
    | none => rw [h] at ih; cases ih
    | some b =>
      rw [h] at ih
      have ih := Option.some.inj ih
      rw [e1, e2, h]
      dsimp only
      show some _ = some (if e < top1 (f :: r) then top1 (f :: r) else e)
      rw [← ih]
      congr 1
      repeat' split
      all_goals first | rfl | omega
section
variable {m0 : Mem} {n : Nat}
abbrev rP (M : Int) (n : Nat) (got : PV) (x3 : Option PV) (acc : List (List Int)) (x5 x6 x7 : Option PV) : Env := [some (.d (.int M)), some (.d (.int n)), some got, x3, some (.d (.lst (acc.map tD))), x5, x6, x7]
abbrev pBody : SS := sSeq (sAsg (tN 6) (e2 dAdd (e1 dMaxT (e2 dAdd (eTup [e1 dNeg (eC (.int 1))]) (eV 5))) (eC (.int 1)))) (sAsg (tN 4) (e2 dAdd (eV 4) (eFz (nLc [7] (iV (e2 dAdd (eFz (nLst [e1 dNeg (eC (.int 1))])) (eFz (nRg2 (eV 6) (eV 1))))) (tN 7) (tsY) (e2 dAdd (eV 5) (eTup [eV 7]))))))
theorem top1_bd {es : List Int} {n : Nat} (h : ∀ x ∈ es, x < (n : Int)) (hn : n ≤ 1000) : -1 ≤ top1 es ∧ top1 es ≤ 1000 := by
  have h1 := (top1_ge es).1
  have h2 := top1_lt h
  omega
theorem p_body {M : Int} {got : PV} {x3 x6 x7 : Option PV} {acc : List (List Int)} {es : List Int} (hn : n ≤ 1000) (hx : ∀ x ∈ es, x < (n : Int)) (hl : es.length ≤ 1000) (ha : acc.length + (extL n es).length ≤ 1000000) :
    ∃ y6 y7, pBody (rP M n got x3 acc (some (.d (tD es))) x6 x7) m0 = .nx (rP M n got x3 (acc ++ extL n es) (some (.d (tD es))) y6 y7) m0 := by
  obtain ⟨b1, b2⟩ := top1_bd hx hn
  refine ⟨some (.d (.int (top1 es + 1))), x7, ?_⟩
  have q1 : sAsg (tN 6) (e2 dAdd (e1 dMaxT (e2 dAdd (eTup [e1 dNeg (eC (.int 1))]) (eV 5))) (eC (.int 1))) (rP M n got x3 acc (some (.d (tD es))) x6 x7) m0 = .nx (rP M n got x3 acc (some (.d (tD es))) (some (.d (.int (top1 es + 1)))) x7) m0 := by
    have hl2 : 1 + es.length ≤ 16777216 := by omega
    have hm : dMaxT (.tup (.int (-1) :: es.map .int)) = some (.int (top1 es)) := by
      show ((intsD ((-1 :: es).map D.int)).bind fun ns => (maxI ns).map D.int) = _
      rw [intsD_map, Option.bind_some, max_top]
      rfl
    have e5 : e2 dAdd (eTup [e1 dNeg (eC (.int 1))]) (eV 5) (rP M n got x3 acc (some (.d (tD es))) x6 x7) m0 = .ok (.d (.tup (.int (-1) :: es.map .int))) m0 := by
      have hl3 : es.length ≤ 16777215 := by omega
      rw [ev_e2]
      simp [tD, hl2, hl3, Nat.add_comm]
    rw [ev_asg, ev_e2, ev_e1, e5, Res.bind_ok]
    simp [hm]
  unfold pBody
  rw [ev_seq, q1, at_nx]
  have hi : iV (e2 dAdd (eFz (nLst [e1 dNeg (eC (.int 1))])) (eFz (nRg2 (eV 6) (eV 1)))) (rP M n got x3 acc (some (.d (tD es))) (some (.d (.int (top1 es + 1)))) x7) m0 = .ok ((nexts n es).map .int) m0 := by
    have r : nRg2 (eV 6) (eV 1) (rP M n got x3 acc (some (.d (tD es))) (some (.d (.int (top1 es + 1)))) x7) m0 = .ok (rng (top1 es + 1) (n - (top1 es + 1)).toNat) m0 := by
      unfold nRg2
      have c : (top1 es + 1).natAbs ≤ 1000000 ∧ ((n : Int)).natAbs ≤ 1000000 := by omega
      simp only [ev_eV]
      show (if (top1 es + 1).natAbs ≤ 1000000 ∧ ((n : Int)).natAbs ≤ 1000000 then Res.ok (rng (top1 es + 1) ((n : Int) - (top1 es + 1)).toNat) m0 else Res.no) = _
      rw [if_pos c]
    have e : (nexts n es).map D.int = .int (-1) :: rng (top1 es + 1) (n - (top1 es + 1)).toNat := by
      unfold nexts rng
      rw [List.map_cons, List.map_map]
      rfl
    have l : eFz (nLst [e1 dNeg (eC (.int 1))]) (rP M n got x3 acc (some (.d (tD es))) (some (.d (.int (top1 es + 1)))) x7) m0 = .ok (.d (.lst [.int (-1)])) m0 := by simp
    have rr : eFz (nRg2 (eV 6) (eV 1)) (rP M n got x3 acc (some (.d (tD es))) (some (.d (.int (top1 es + 1)))) x7) m0 = .ok (.d (.lst (rng (top1 es + 1) (n - (top1 es + 1)).toNat))) m0 := by rw [ev_eFz, r]; rfl
    have len : [D.int (-1)].length + (rng (top1 es + 1) (n - (top1 es + 1)).toNat).length ≤ lineL := small (by rw [rng_len]; show 1 + _ ≤ 1000000; omega)
    rw [ev_iV, ev_e2, l, Res.bind_ok, rr, Res.bind_ok, e]
    show (ofO (dAdd (.lst [D.int (-1)]) (.lst (rng (top1 es + 1) (n - (top1 es + 1)).toNat))) m0).bind _ = _
    rw [o_addl, if_pos len]
    rfl
  have hnl : (nexts n es).length = (extL n es).length := by simp [extL]
  have lc : lcL (tN 7) tsY (e2 dAdd (eV 5) (eTup [eV 7])) ((nexts n es).map .int) (rP M n got x3 acc (some (.d (tD es))) (some (.d (.int (top1 es + 1)))) none) m0 [] = .ok ((extL n es).map tD) m0 := by
    rw [lcL_all (g := fun e => tD (es ++ [e]))]
    · unfold extL; rw [List.map_map]; rfl
    · intro e _
      refine ⟨rP M n got x3 acc (some (.d (tD es))) (some (.d (.int (top1 es + 1)))) (some (.d (.int e))), rfl, ?_⟩
      have hl3 : es.length ≤ 16777215 := by omega
      rw [ev_e2]
      simp [tD, hl3]
  have q2 : eFz (nLc [7] (iV (e2 dAdd (eFz (nLst [e1 dNeg (eC (.int 1))])) (eFz (nRg2 (eV 6) (eV 1))))) (tN 7) (tsY) (e2 dAdd (eV 5) (eTup [eV 7]))) (rP M n got x3 acc (some (.d (tD es))) (some (.d (.int (top1 es + 1)))) x7) m0 = .ok (.d (.lst ((extL n es).map tD))) m0 := by
    rw [ev_eFz, ev_nLc, hi, Res.bind_ok, lcG_ok (by rw [List.length_map, hnl]; exact Nat.le_trans (by omega : _ ≤ 1000000) (by decide)), show wipeE (rP M n got x3 acc (some (.d (tD es))) (some (.d (.int (top1 es + 1)))) x7) [7] = rP M n got x3 acc (some (.d (tD es))) (some (.d (.int (top1 es + 1)))) none from rfl, lc]
    rfl
  have v4 : eV 4 (rP M n got x3 acc (some (.d (tD es))) (some (.d (.int (top1 es + 1)))) x7) m0 = .ok (.d (.lst (acc.map tD))) m0 := rfl
  rw [ev_asg, ev_e2, v4, Res.bind_ok, q2, Res.bind_ok]
  show ((ofO (dAdd (.lst (acc.map tD)) (.lst ((extL n es).map tD))) m0).run _) = _
  rw [o_addl, if_pos (small (by rw [List.length_map, List.length_map]; exact ha)), ← List.map_append]
  rfl
theorem p_inner {M : Int} {got : PV} {x3 : Option PV} (hn : n ≤ 1000) : ∀ (gs acc : List (List Int)) (x5 x6 x7 : Option PV), (∀ es ∈ gs, (∀ x ∈ es, x < (n : Int)) ∧ es.length ≤ 1000) → acc.length + (gs.flatMap (extL n)).length ≤ 1000000 →
    ∃ y5 y6 y7, forL (tN 5) pBody (gs.map tD) (rP M n got x3 acc x5 x6 x7) m0 = .nx (rP M n got x3 (acc ++ gs.flatMap (extL n)) y5 y6 y7) m0
  | [], acc, x5, x6, x7, _, _ => ⟨x5, x6, x7, by simp⟩
  | es :: gs, acc, x5, x6, x7, h, hl => by
    obtain ⟨h1, h2⟩ := h es (by simp)
    rw [List.flatMap_cons, List.length_append] at hl
    obtain ⟨y6, y7, e⟩ := p_body (m0 := m0) (M := M) (got := got) (x3 := x3) (x6 := x6) (x7 := x7) (acc := acc) hn h1 h2 (by omega)
    obtain ⟨z5, z6, z7, e2⟩ := p_inner hn gs (acc ++ extL n es) (some (.d (tD es))) y6 y7 (fun x hx => h x (by simp [hx])) (by rw [List.length_append]; omega)
    refine ⟨z5, z6, z7, ?_⟩
    rw [List.map_cons, for_nx (ρ1 := rP M n got x3 acc (some (.d (tD es))) x6 x7) rfl e, e2, List.flatMap_cons, List.append_assoc]
theorem pairs_bd : ∀ (k : Nat) (es : List Int), es ∈ pairs n k → (∀ x ∈ es, x < (n : Int)) ∧ es.length = k
  | 0, es, h => by
    have : es = [] := by simpa [pairs] using h
    subst this
    simp
  | k + 1, es, h => by
    have h : es ∈ (pairs n k).flatMap fun es => (nexts n es).map fun e => es ++ [e] := h
    rw [List.mem_flatMap] at h
    obtain ⟨t, ht, hm⟩ := h
    rw [List.mem_map] at hm
    obtain ⟨e, he, rfl⟩ := hm
    obtain ⟨i1, i2⟩ := pairs_bd k t ht
    rw [mem_nexts] at he
    refine ⟨fun x hx => ?_, by simp [i2]⟩
    rcases List.mem_append.mp hx with hx | hx
    · exact i1 x hx
    · have : x = e := by simpa using hx
      subst this
      rcases he with rfl | ⟨q, rfl, hq, _⟩
      · omega
      · omega
/-- how many there are at most -/
def fits (n m : Nat) : Prop := ∀ k, k ≤ m → (pairs n k).length ≤ 1000000
theorem p_outer {M : Int} (hn : n ≤ 1000) {m : Nat} (hm : m ≤ 1000) (hf : fits n m) : ∀ (j k : Nat), k + j = m → ∀ (x3 x4 x5 x6 x7 : Option PV) (lo : Nat),
    ∃ y3 y4 y5 y6 y7, forL (tN 3) (sSeq (sAsg (tN 4) (eFz (nLst []))) (sSeq (sFor (tN 5) (iV (eV 2)) pBody) (sAsg (tN 2) (eV 4)))) (up lo j) [some (.d (.int M)), some (.d (.int n)), some (.d (.lst ((pairs n k).map tD))), x3, x4, x5, x6, x7] m0
      = .nx [some (.d (.int M)), some (.d (.int n)), some (.d (.lst ((pairs n m).map tD))), y3, y4, y5, y6, y7] m0
  | 0, k, hk, x3, x4, x5, x6, x7, lo => by
    have : k = m := by omega
    subst this
    exact ⟨x3, x4, x5, x6, x7, rfl⟩
  | j + 1, k, hk, x3, x4, x5, x6, x7, lo => by
    have e0 : (pairs n k).flatMap (extL n) = pairs n (k + 1) := rfl
    obtain ⟨y5, y6, y7, e⟩ := p_inner (m0 := m0) (M := M) (got := .d (.lst ((pairs n k).map tD))) (x3 := some (.d (.int (lo : Int)))) hn (pairs n k) [] x5 x6 x7 (fun es he => by
      obtain ⟨q1, q2⟩ := pairs_bd k es he
      exact ⟨q1, by omega⟩) (by rw [e0]; have := hf (k + 1) (by omega); simpa using this)
    rw [e0, List.nil_append] at e
    obtain ⟨z3, z4, z5, z6, z7, e2⟩ := p_outer hn hm hf j (k + 1) (by omega) (some (.d (.int (lo : Int)))) (some (.d (.lst ((pairs n (k + 1)).map tD)))) y5 y6 y7 (lo + 1)
    refine ⟨z3, z4, z5, z6, z7, ?_⟩
    have hb : sSeq (sAsg (tN 4) (eFz (nLst []))) (sSeq (sFor (tN 5) (iV (eV 2)) pBody) (sAsg (tN 2) (eV 4))) [some (.d (.int M)), some (.d (.int n)), some (.d (.lst ((pairs n k).map tD))), some (.d (.int (lo : Int))), x4, x5, x6, x7] m0 = .nx [some (.d (.int M)), some (.d (.int n)), some (.d (.lst ((pairs n (k + 1)).map tD))), some (.d (.int (lo : Int))), some (.d (.lst ((pairs n (k + 1)).map tD))), y5, y6, y7] m0 := by
      rw [ev_seq, show sAsg (tN 4) (eFz (nLst [])) [some (.d (.int M)), some (.d (.int n)), some (.d (.lst ((pairs n k).map tD))), some (.d (.int (lo : Int))), x4, x5, x6, x7] m0 = .nx (rP M n (.d (.lst ((pairs n k).map tD))) (some (.d (.int (lo : Int)))) [] x5 x6 x7) m0 from rfl, at_nx, ev_seq, ev_for]
      rw [show iV (eV 2) (rP M n (.d (.lst ((pairs n k).map tD))) (some (.d (.int (lo : Int)))) [] x5 x6 x7) m0 = .ok ((pairs n k).map tD) m0 from rfl, Res.run_ok, e, at_nx]
      rfl
    rw [show up lo (j + 1) = .int (lo : Int) :: up (lo + 1) j from rfl, for_nx (ρ1 := [some (.d (.int M)), some (.d (.int n)), some (.d (.lst ((pairs n k).map tD))), some (.d (.int (lo : Int))), x4, x5, x6, x7]) rfl hb]
    exact e2
theorem sp_pairings {m : Nat} (hm : m ≤ 1000) (hn : n ≤ 1000) (hf : fits n m) (m0 : Mem) : F__law_pairings [.d (.int (m : Int)), .d (.int (n : Int))] m0 = .ok (.d (.lst ((pairs n m).map tD))) m0 := by
  obtain ⟨y3, y4, y5, y6, y7, e⟩ := p_outer (m0 := m0) (M := (m : Int)) hn hm hf m 0 (by omega) none none none none none 0
  simp only [F__law_pairings, s__law_pairings, mkFn]
  have h1 : sAsg (tN 2) (eFz (nLst [eTup []])) ([PV.d (.int (m : Int)), PV.d (.int (n : Int))].map some ++ List.replicate (8 - [PV.d (.int (m : Int)), PV.d (.int (n : Int))].length) none) m0 = .nx [some (.d (.int (m : Int))), some (.d (.int n)), some (.d (.lst ((pairs n 0).map tD))), none, none, none, none, none] m0 := rfl
  have h2 : ∀ ρ : Env, ρ[0]? = some (some (.d (.int (m : Int)))) → iR1 (eV 0) ρ m0 = .ok (up 0 m) m0 := by
    intro ρ h
    have : r1K (.d (.int (m : Int))) m0 = .ok (rng 0 (m : Int).toNat) m0 := r1K_int (fits62_int (by omega)) m0
    rw [Int.toNat_natCast, show rng 0 m = up 0 m from rng_up m 0] at this
    simp [h, this]
  rw [ev_seq, h1, at_nx, ev_seq, ev_for, h2 _ rfl, Res.run_ok, e, at_nx]
  simp
end
end DI
namespace DI
open Ft
theorem ext_len (n : Nat) (es : List Int) : (extL n es).length ≤ n + 1 := by
  have := (top1_ge es).1
  simp [extL, nexts]
  omega
theorem flat_le {α β : Type} (f : α → List β) (c : Nat) (h : ∀ a, (f a).length ≤ c) : ∀ xs : List α, (xs.flatMap f).length ≤ xs.length * c
  | [] => by simp
  | a :: xs => by
    have := flat_le f c h xs
    have := h a
    rw [List.flatMap_cons, List.length_append, List.length_cons, Nat.add_mul]
    omega
theorem pairs_len (n : Nat) : ∀ k : Nat, (pairs n k).length ≤ (n + 1) ^ k
  | 0 => by simp [pairs]
  | k + 1 => by
    have h := flat_le (extL n) (n + 1) (ext_len n) (pairs n k)
    have e : pairs n (k + 1) = (pairs n k).flatMap (extL n) := rfl
    rw [e, Nat.pow_succ]
    exact Nat.le_trans h (Nat.mul_le_mul_right _ (pairs_len n k))
theorem fits_4 {n m : Nat} (hn : n ≤ 4) (hm : m ≤ 4) : fits n m := fun k hk =>
  Nat.le_trans (pairs_len n k) (Nat.le_trans (Nat.pow_le_pow_left (show n + 1 ≤ 5 by omega) k) (Nat.le_trans (Nat.pow_le_pow_right (by decide) (show k ≤ 4 by omega)) (by decide)))
end DI
namespace DI
open Ft
/-! the law's random facts -/
theorem asc_of : ∀ {hs : List (Nat × Int)}, hs.Pairwise (fun p q => p.1 < q.1) → ∀ q ∈ hs.zip (hs.drop 1), q.1.1 < q.2.1
  | [], _, q, h => by simp at h
  | [a], _, q, h => by simp at h
  | a :: b :: r, hp, q, h => by
    rw [List.pairwise_cons] at hp
    rw [show (a :: b :: r).drop 1 = b :: r from rfl, List.zip_cons_cons] at h
    rcases List.mem_cons.mp h with rfl | h
    · exact hp.1 b (by simp)
    · exact asc_of (hs := b :: r) hp.2 q h
/-- facts of the lines ahead of lo -/
structure FLow (n lo : Nat) (hs : List (Nat × Int)) : Prop where
  lt : ∀ p ∈ hs, p.1 < lo
  hi : ∀ p ∈ hs, -1 ≤ p.2 ∧ p.2 < (n : Int)
  pw : hs.Pairwise (fun p q => p.1 < q.1)
  len : hs.length ≤ lo
theorem FLow.up {n lo : Nat} {hs : List (Nat × Int)} (h : FLow n lo hs) : FLow n (lo + 1) hs := ⟨fun p hp => by have := h.lt p hp; omega, h.hi, h.pw, by have := h.len; omega⟩
theorem FLow.add {n lo : Nat} {hs : List (Nat × Int)} (h : FLow n lo hs) {e : Int} (h1 : -1 ≤ e) (h2 : e < n) : FLow n (lo + 1) (hs ++ [(lo, e)]) :=
  ⟨fun p hp => by
    rcases List.mem_append.mp hp with hp | hp
    · have := h.lt p hp; omega
    · have : p = (lo, e) := by simpa using hp
      subst this; show lo < lo + 1; omega,
  fun p hp => by
    rcases List.mem_append.mp hp with hp | hp
    · exact h.hi p hp
    · have : p = (lo, e) := by simpa using hp
      subst this; exact ⟨h1, h2⟩,
  by
    rw [List.pairwise_append]
    refine ⟨h.pw, List.pairwise_singleton .., fun a ha b hb => ?_⟩
    have : b = (lo, e) := by simpa using hb
    subst this
    exact h.lt a ha,
  by rw [List.length_append]; have := h.len; simp; omega⟩
theorem FLow.facts {F : Fx} {hs : List (Nat × Int)} (h : FLow F.n F.m hs) (hm : F.m ≤ 1000) : Facts F hs := ⟨h.lt, h.hi, asc_of h.pw, by have := h.len; omega⟩
section
variable {F : Fx} {i : Nat}
abbrev rF (F : Fx) (i j : Nat) (x4 : Option PV) : Env := [some (.obj i), some (.d (.str F.one)), some (.d (.str F.other)), some (.obj j), x4]
abbrev fBody : SS := sIf (e2 dEq (eCall F__law_pick [eV 0, eC (.int 5)]) (eC (.int 0))) (sApp (eV 3) (eTup [eV 4, e2 dSub (eCall F__law_pick [eV 0, e2 dAdd (e1 dLen (eV 2)) (eC (.int 1))]) (eC (.int 1))])) (sNil)
theorem f_body (h2 : F.n ≤ 1000) {j : Nat} (hij : i ≠ j) {n : Int} (hn : n ≤ 1000000) {M : Mem} {lo : Nat} {hs : List (Nat × Int)} (d : DeckAt M i n) (hj : M[j]? = some (.l1 (hs.map hD))) (fl : FLow F.n lo hs) (hlo : lo ≤ 1000) :
    ∃ hs' M', fBody (rF F i j (some (.d (.int (lo : Int))))) M = .nx (rF F i j (some (.d (.int (lo : Int))))) M' ∧ DeckAt M' i (n + 2) ∧ M'[j]? = some (.l1 (hs'.map hD)) ∧ FLow F.n (lo + 1) hs' ∧ M'.length = M.length ∧ ∀ k, k ≠ i → k ≠ j → M'[k]? = M[k]? := by
  have h2' : F.other.length ≤ 16777216 := by unfold Fx.n at h2; omega
  obtain ⟨g1, m1, p1, a1, b1, d1, l1, x1⟩ := sp_pick (lim := 5) d (by omega) (by decide) (by decide)
  by_cases hg : g1 = 0
  · subst hg
    obtain ⟨g2, m2, p2, a2, b2, d2, l2, x2⟩ := sp_pick (lim := (F.other.length : Int) + 1) d1 (by omega) (by omega) (by unfold Fx.n at h2; omega)
    have q1 : m1[j]? = some (.l1 (hs.map hD)) := by rw [x1 j (Ne.symm hij)]; exact hj
    have q2 : m2[j]? = some (.l1 (hs.map hD)) := by rw [x2 j (Ne.symm hij)]; exact q1
    have hl : hs.length < 16777216 := by have := fl.len; omega
    have hj2 : j < m2.length := (List.getElem?_eq_some_iff.mp q2).1
    refine ⟨hs ++ [(lo, g2 - 1)], m2.set j (.l1 ((hs ++ [(lo, g2 - 1)]).map hD)), ?_, ?_, ?_, fl.add (by omega) (by unfold Fx.n; omega), by simp [l1, l2], fun k k1 k2 => ?_⟩
    · simp [p1, q1, h2', p2, q2, hl, hD]
    · obtain ⟨a, b, c, e, r⟩ := d2
      exact ⟨a, b, c, by rw [List.getElem?_set_ne (Ne.symm hij)]; exact e, r.1, r.2.1, r.2.2.1, by omega⟩
    · rw [List.getElem?_set_self hj2]
    · rw [List.getElem?_set_ne (Ne.symm k2), x2 k k1, x1 k k1]
  · refine ⟨hs, m1, ?_, d1.mono (by omega), by rw [x1 j (Ne.symm hij)]; exact hj, fl.up, l1, fun k k1 _ => x1 k k1⟩
    have hb : (g1 == 0) = false := by simpa using hg
    simp [p1, hb]
theorem f_loop (h2 : F.n ≤ 1000) {j : Nat} (hij : i ≠ j) : ∀ (k lo : Nat) (n : Int) (M : Mem) (hs : List (Nat × Int)) (x4 : Option PV), lo + k ≤ 1000 → n + 2 * k ≤ 1000000 → DeckAt M i n → M[j]? = some (.l1 (hs.map hD)) → FLow F.n lo hs →
    ∃ hs' M' y4, forL (tN 4) fBody (up lo k) (rF F i j x4) M = .nx (rF F i j y4) M' ∧ DeckAt M' i (n + 2 * k) ∧ M'[j]? = some (.l1 (hs'.map hD)) ∧ FLow F.n (lo + k) hs' ∧ M'.length = M.length ∧ ∀ k, k ≠ i → k ≠ j → M'[k]? = M[k]?
  | 0, lo, n, M, hs, x4, _, hn, d, hj, fl => ⟨hs, M, x4, rfl, by simpa using d, hj, fl, rfl, fun _ _ _ => rfl⟩
  | k + 1, lo, n, M, hs, x4, hlo, hn, d, hj, fl => by
    obtain ⟨h1, M1, e1, d1, q1, f1, l1, x1⟩ := f_body h2 hij (by omega) d hj fl (by omega)
    obtain ⟨h3, M2, y4, e2, d2, q2, f2, l2, x2⟩ := f_loop h2 hij k (lo + 1) (n + 2) M1 h1 (some (.d (.int (lo : Int)))) (by omega) (by omega) d1 q1 f1
    refine ⟨h3, M2, y4, ?_, d2.mono (by omega), q2, by rw [show lo + (k + 1) = lo + 1 + k by omega]; exact f2, by omega, fun q a b => (x2 q a b).trans (x1 q a b)⟩
    rw [show up lo (k + 1) = .int (lo : Int) :: up (lo + 1) k from rfl, for_nx (ρ1 := rF F i j (some (.d (.int (lo : Int))))) rfl e1, e2]
theorem sp_facts [Nil0] (h1 : F.m ≤ 900) (h2 : F.n ≤ 1000) {n : Int} (hn : n ≤ 100000) {m : Mem} (d : DeckAt m i n) : ∃ hs m' j, F__law_facts [.obj i, .d (.str F.one), .d (.str F.other)] m = .ok (.obj j) m' ∧ tupOf m' (.obj j) = some (hs.map hD) ∧ FLow F.n F.m hs ∧ DeckAt m' i (n + 2 * F.m + 1) ∧ m.length ≤ m'.length ∧ ∀ k, k < m.length → k ≠ i → m'[k]? = m[k]? := by
  have h1' : F.one.length ≤ 16777216 := by unfold Fx.m at h1; omega
  have hi : i < m.length := by obtain ⟨a, b, c, e, _⟩ := d; exact (List.getElem?_eq_some_iff.mp e).1
  have d0 : DeckAt (m ++ [.l1 []]) i n := by
    obtain ⟨a, b, c, e, r⟩ := d
    exact ⟨a, b, c, by rw [List.getElem?_append_left hi]; exact e, r⟩
  obtain ⟨hs, M, y4, e, d1, q1, f1, l1, x1⟩ := f_loop (F := F) h2 (j := m.length) (by omega) F.m 0 n (m ++ [.l1 []]) [] none (by omega) (by omega) d0 (by simp) ⟨by simp, by simp, List.Pairwise.nil, by simp⟩
  rw [Nat.zero_add] at f1
  rw [List.length_append, List.length_singleton] at l1
  have dM : DeckAt (M.set m.length (.fz (hs.map hD))) i (n + 2 * F.m) := by
    obtain ⟨a, b, c, e, r⟩ := d1
    exact ⟨a, b, c, by rw [List.getElem?_set_ne (by omega)]; exact e, r⟩
  obtain ⟨g, m2, p, a2, b2, d2, l2, x2⟩ := sp_pick (lim := 2) dM (by omega) (by decide) (by decide)
  have lS : (M.set m.length (.fz (hs.map hD))).length = m.length + 1 := by simp [l1]
  have hv2 : vw m2 (.d (.lst (hs.map hD))) = some (.lst (hs.map hD)) := rfl
  have s0 : sAsg (tN 3) (eNw (nLst [])) ([PV.obj i, PV.d (.str F.one), PV.d (.str F.other)].map some ++ List.replicate (5 - [PV.obj i, PV.d (.str F.one), PV.d (.str F.other)].length) none) m = .nx (rF F i m.length none) (m ++ [.l1 []]) := rfl
  have r : iR1 (e1 dLen (eV 1)) (rF F i m.length none) (m ++ [.l1 []]) = .ok (up 0 F.m) (m ++ [.l1 []]) := by
    have k : r1K (.d (.int (F.m : Int))) (m ++ [.l1 []]) = .ok (rng 0 (F.m : Int).toNat) (m ++ [.l1 []]) := r1K_int (fits62_int (by omega)) _
    rw [Int.toNat_natCast, show rng 0 F.m = up 0 F.m from rng_up F.m 0] at k
    rw [ev_iR1]
    simp [h1']
    exact k
  have ext : ∀ (x : MO) (k : Nat), k < m.length → k ≠ i → (m2 ++ [x])[k]? = m[k]? := fun x k hk hki => by
    rw [List.getElem?_append_left (by omega), x2 k hki, List.getElem?_set_ne (by omega), x1 k hki (by omega), List.getElem?_append_left hk]
  have dk : ∀ x : MO, DeckAt (m2 ++ [x]) i (n + 2 * F.m + 1) := fun x => by
    obtain ⟨a, b, c, e, r⟩ := d2
    exact ⟨a, b, c, by rw [List.getElem?_append_left (by omega)]; exact e, r⟩
  simp only [F__law_facts, s__law_facts, mkFn]
  rw [ev_seq, s0, at_nx, ev_seq, ev_for, r, Res.run_ok, e, at_nx]
  by_cases hg : g = 0
  · subst hg
    refine ⟨hs, m2 ++ [.tp (hs.map hD)], m2.length, ?_, by simp [tupOf], f1, dk _, by rw [List.length_append]; omega, ext _⟩
    rw [ev_fz]
    dsimp only [rF]
    simp [q1, p]
    omega
  · refine ⟨[], m2 ++ [.tp []], m2.length, ?_, by simp [tupOf], ⟨by simp, by simp, List.Pairwise.nil, by simp⟩, dk _, by rw [List.length_append]; omega, ext _⟩
    rw [ev_fz]
    dsimp only [rF]
    have hb : (g == 0) = false := by simpa using hg
    simp [q1, p, hb]
    omega
end
end DI
namespace DI
/-! _law_same -/
def srt : D → Int
  | .bl _ => 1 | .int _ => 2 | .str _ => 3 | .lst _ => 4 | .tup _ => 5 | _ => 6
def D.plain : D → Bool
  | .dct _ _ => false | .ins _ _ _ => false | _ => true
theorem sp_sort {x : D} (h : x.plain = true) (m : Mem) : F__law_sort [.d x] m = .ok (.d (.int (srt x))) m := by
  simp only [F__law_sort, s__law_sort, mkFn]
  cases x with
  | dct _ _ => cases h
  | ins _ _ _ => cases h
  | _ => simp [dIsiP, tyP, srt]
theorem eqv_self : ∀ b : Bool, D.eqv (.bl b) (.bl b) = true := by intro b; cases b <;> rfl
/-- what is no list, no tuple -/
def D.one : D → Bool
  | .bl _ => true | .int _ => true | .str _ => true | .non => true | _ => false
theorem same_one (r : Nat) {x : D} (h : x.one = true) (m : Mem) : R__law_same (r + 1) [.d x, .d x] m = .ok (.d (.bl true)) m := by
  have hp : x.plain = true := by cases x <;> first | rfl | cases h
  have e : dEq x x = some (.bl true) := by
    cases x with
    | bl b => cases b <;> rfl
    | int i => simp
    | str s => simp
    | non => rfl
    | _ => cases h
  show mkFn 4 (s__law_same (R__law_same r)) [.d x, .d x] m = _
  simp only [s__law_same, mkFn]
  have hs : ¬ (3 < srt x ∧ srt x < 6) := by cases x <;> simp [srt] <;> cases h
  by_cases h3 : 3 < srt x
  · have h6 : ¬ srt x < 6 := fun z => hs ⟨h3, z⟩
    simp [sp_sort hp, h3, h6, e]
  · simp [sp_sort hp, h3, e]
theorem same_seq (r : Nat) {x : D} {xs : List D} (h : x = .lst xs ∨ x = .tup xs) (hl : xs.length ≤ 1000000) (m : Mem) (hx : ∀ y ∈ xs, R__law_same r [.d y, .d y] m = .ok (.d (.bl true)) m) : R__law_same (r + 1) [.d x, .d x] m = .ok (.d (.bl true)) m := by
  have hp : x.plain = true := by rcases h with rfl | rfl <;> rfl
  have h3 : 3 < srt x := by rcases h with rfl | rfl <;> simp [srt]
  have h6 : srt x < 6 := by rcases h with rfl | rfl <;> simp [srt]
  have hl2 : xs.length ≤ 16777216 := by omega
  have hlen : dLen x = some (.int xs.length) := by rcases h with rfl | rfl <;> simp [hl2]
  have hit : itD x = some xs := by rcases h with rfl | rfl <;> rfl
  have hix : ∀ i : Nat, (hi : i < xs.length) → dIx x (.int i) = some xs[i] := by
    intro i hi
    rcases h with rfl | rfl
    · rw [o_ixl, atD_nat]; simp [hi]
    · rw [o_ixt, atD_nat]; simp [hi]
  show mkFn 4 (s__law_same (R__law_same r)) [.d x, .d x] m = _
  simp only [s__law_same, mkFn]
  have hml : (xs.mapIdx fun i x => D.tup [.int i, x]).length ≤ 16777216 := by simp [hl2]
  have hme : (xs.mapIdx fun i x => D.tup [.int i, x]) = (List.range xs.length).map fun (i : Nat) => D.tup [.int (i : Int), xs.getD i .non] := by
    apply List.ext_getElem
    · simp
    · intro i h1 h2
      have : i < xs.length := by simpa using h1
      simp [this]
  have hlc : lcL (tT [2, 3]) (eNot (eCall (R__law_same r) [eV 3, e2 dIx (eV 1) (eV 2)])) (eV 2) (xs.mapIdx fun i x => D.tup [.int i, x]) [some (.d x), some (.d x), none, none] m [] = .ok [] m := by
    rw [hme]
    rw [lcL_map (p := fun _ => false) (g := fun _ => D.non) (k := fun (i : Nat) => D.tup [.int (i : Int), xs.getD i .non]) _ _ (fun i hi => ?_)]
    · simp
    · have hi' : i < xs.length := by simpa using hi
      refine ⟨_, rfl, ?_, fun z => nomatch z⟩
      have := hx xs[i] (List.getElem_mem hi')
      simp [hix i hi', hi', this]
  have hen : dEq (.lst []) (.lst []) = some (.bl true) := by rfl
  simp [sp_sort hp, h3, h6, hlen, hit, hlc, hen, hl2]
theorem same_int (i : Int) (m : Mem) : F__law_same [.d (.int i), .d (.int i)] m = .ok (.d (.bl true)) m := same_one 3 rfl m
theorem same_str (s : List Char) (m : Mem) : F__law_same [.d (.str s), .d (.str s)] m = .ok (.d (.bl true)) m := same_one 3 rfl m
theorem same_ints {xs : List Int} (h : xs.length ≤ 1000000) (m : Mem) : F__law_same [.d (.lst (xs.map .int)), .d (.lst (xs.map .int))] m = .ok (.d (.bl true)) m :=
  same_seq 3 (.inl rfl) (by simpa using h) m fun y hy => by
    obtain ⟨i, _, rfl⟩ := List.mem_map.mp hy
    exact same_one 2 rfl m
end DI
namespace DI
abbrev QN : String := "law.<locals>.<lambda>"
theorem try_ex {T : Nat} {q : String} {b : SE} {ρ : Env} {m m1 : Mem} {c : String} {s : List Char} (h0 : m[0]? = some (.tab T q)) (hb : b ρ m = .ex ⟨c, none⟩ m1) (hn : nmOf c = some s) : eTry T q nmOf b ρ m = .ok (.d (.str s)) m1 := by
  unfold eTry
  rw [h0]
  dsimp only
  rw [if_pos ⟨rfl, rfl⟩, hb]
  dsimp only
  rw [hn]
end DI
namespace DI
open Ft
/-! the law's price -/
theorem sty_len : ∀ es : List Int, (((es.filter fun e => decide (0 ≤ e)).length : Nat) : Int) = sty es
  | [] => rfl
  | e :: es => by
    have ih := sty_len es
    show _ = (if 0 ≤ e then 1 else 0) + sty es
    by_cases h : 0 ≤ e
    · rw [List.filter_cons_of_pos (by simpa using h), if_pos h, List.length_cons]
      omega
    · rw [List.filter_cons_of_neg (by simpa using h), if_neg h]
      omega
variable {F : Fx}
def chB (F : Fx) (q : Int × Nat) : Bool := decide (0 ≤ q.1) && !decide (F.one[q.2]? = F.other[q.1.toNat]?)
theorem chB_ch (q : Int × Nat) : F.ch q.2 q.1 = if chB F q = true then 1 else 0 := by
  unfold chB Fx.ch
  by_cases h : 0 ≤ q.1 <;> by_cases h2 : F.one[q.2]? = F.other[q.1.toNat]? <;> simp [h, h2]
theorem chg_len : ∀ (es : List Int) (i : Nat), ((((es.zipIdx i).filter (chB F)).length : Nat) : Int) = F.chg i es
  | [], i => rfl
  | e :: es, i => by
    have ih := chg_len es (i + 1)
    rw [List.zipIdx_cons]
    show _ = F.ch i e + F.chg (i + 1) es
    have c := chB_ch (F := F) (e, i)
    by_cases h : chB F (e, i) = true
    · rw [if_pos h] at c
      rw [List.filter_cons_of_pos h, List.length_cons]
      dsimp only at c
      omega
    · rw [if_neg h] at c
      rw [List.filter_cons_of_neg h]
      dsimp only at c
      omega
theorem enum_zip (es : List Int) : (es.map D.int).mapIdx (fun i x => D.tup [.int (i : Int), x]) = es.zipIdx.map fun q => D.tup [.int (q.2 : Int), .int q.1] := by
  apply List.ext_getElem?
  intro i
  simp [List.getElem?_mapIdx, List.getElem?_zipIdx]
  cases es[i]? <;> simp
theorem sp_price {es : List Int} (h1 : F.m ≤ 1000) (h2 : F.n ≤ 1000) (hl : es.length = F.m) (hx : ∀ x ∈ es, x < (F.n : Int)) (m0 : Mem) : F__law_price [.d (.str F.one), .d (.str F.other), .d (tD es)] m0 = .ok (.d (.int (F.price es))) m0 := by
  have h1' : F.one.length ≤ 16777216 := by unfold Fx.m at h1; omega
  have h2' : F.other.length ≤ 16777216 := by unfold Fx.n at h2; omega
  let rr : Option PV → Option PV → Option PV → Option PV → Env := fun x3 x4 x5 x6 => [some (.d (.str F.one)), some (.d (.str F.other)), some (.d (tD es)), x3, x4, x5, x6]
  have lc1 : lcL (tN 5) (e2 dGe (eV 5) (eC (.int 0))) (eV 5) (es.map .int) (rr none none none none) m0 [] = .ok ((es.filter fun e => decide (0 ≤ e)).map .int) m0 := by
    rw [lcL_map (p := fun e : Int => decide (0 ≤ e)) (g := D.int), List.nil_append]
    intro e _
    exact ⟨rr none none (some (.d (.int e))) none, rfl, by simp [rr], fun _ => by simp [rr]⟩
  have lc2 : ∀ x3, lcL (tT [6, 5]) (eAnd (e2 dGe (eV 5) (eC (.int 0))) (e2 dNe (e2 dIx (eV 0) (eV 6)) (e2 dIx (eV 1) (eV 5)))) (eV 6) (es.zipIdx.map fun q => D.tup [.int (q.2 : Int), .int q.1]) (rr x3 none none none) m0 [] = .ok ((es.zipIdx.filter (chB F)).map fun q => .int (q.2 : Int)) m0 := by
    intro x3
    rw [lcL_map (p := chB F) (g := fun q => D.int (q.2 : Int)), List.nil_append]
    rintro ⟨e, i⟩ hq
    have hi := List.mem_zipIdx hq
    have hil : i < F.one.length := by
      have := hi.2.1
      unfold Fx.m at hl
      omega
    have hem : e ∈ es := by
      rw [hi.2.2]
      exact List.getElem_mem _
    refine ⟨rr x3 none (some (.d (.int e))) (some (.d (.int (i : Int)))), rfl, ?_, fun _ => by simp [rr]⟩
    by_cases h0 : 0 ≤ e
    · have hb := hx e hem
      have hel : e.toNat < F.other.length := by unfold Fx.n at hb; omega
      have e1 : atD F.one (i : Int) = some F.one[i] := by rw [atD_nat, List.getElem?_eq_getElem hil]
      have e2' : atD F.other e = some F.other[e.toNat] := by
        have := atD_nat (xs := F.other) (n := e.toNat)
        rw [Int.toNat_of_nonneg h0] at this
        rw [this, List.getElem?_eq_getElem hel]
      have e3 : chB F (e, i) = !decide (F.one[i] = F.other[e.toNat]) := by
        unfold chB
        simp [h0, List.getElem?_eq_getElem hil, List.getElem?_eq_getElem hel]
      rw [e3]
      by_cases z : F.one[i] = F.other[e.toNat] <;> simp [rr, h0, e1, e2', h1', h2', z]
    · have e3 : chB F (e, i) = false := by unfold chB; simp [h0]
      rw [e3]
      simp [rr, h0]
  simp only [F__law_price, s__law_price, mkFn]
  have iv : ∀ x3 x4 x5 x6, iV (eV 2) (rr x3 x4 x5 x6) m0 = .ok (es.map .int) m0 := fun _ _ _ _ => rfl
  have hes : es.length ≤ 16777216 := by omega
  have s1 : sAsg (tN 3) (eFz (nLc [5] (iV (eV 2)) (tN 5) (e2 dGe (eV 5) (eC (.int 0))) (eV 5))) (rr none none none none) m0 = .nx (rr (some (.d (.lst ((es.filter fun e => decide (0 ≤ e)).map .int)))) none none none) m0 := by
    rw [ev_asg, ev_eFz, ev_nLc, iv, Res.bind_ok, lcG_ok (by rw [List.length_map]; exact hes), show wipeE (rr none none none none) [5] = rr none none none none from rfl, lc1]
    rfl
  have s2 : ∀ x3, sAsg (tN 4) (eFz (nLc [6, 5] (iEnum (eV 2)) (tT [6, 5]) (eAnd (e2 dGe (eV 5) (eC (.int 0))) (e2 dNe (e2 dIx (eV 0) (eV 6)) (e2 dIx (eV 1) (eV 5)))) (eV 6))) (rr x3 none none none) m0 = .nx (rr x3 (some (.d (.lst ((es.zipIdx.filter (chB F)).map fun q => .int (q.2 : Int))))) none none) m0 := by
    intro x3
    rw [ev_asg, ev_eFz, ev_nLc, ev_iEnum, iv, Res.bind_ok, Res.bind_ok, enum_zip, lcG_ok (by rw [List.length_map, List.length_zipIdx]; exact hes), show wipeE (rr x3 none none none) [6, 5] = rr x3 none none none from rfl, lc2]
    rfl
  show fnR m0.length (sSeq _ (sSeq _ _) (rr none none none none) m0) = _
  rw [ev_seq, s1, at_nx, ev_seq, s2, at_nx]
  have k1 := sty_len es
  have k2 := chg_len (F := F) es 0
  have k3 : (es.filter fun e => decide (0 ≤ e)).length ≤ 1000 := Nat.le_trans (List.length_filter_le ..) (by omega)
  simp only [Fx.price]
  rw [← k1, ← k2]
  generalize (es.filter fun e => decide (0 ≤ e)) = st at *
  generalize es.zipIdx.filter (chB F) = cs at *
  simp [rr, h1', h2', small64, Fx.m, Fx.n]
end DI
namespace DI
open Ft
/-! the law's known fates -/
theorem tup_app [Nil0] {m : Mem} {x : MO} {v : PV} {xs : List D} (h : tupOf m v = some xs) : tupOf (m ++ [x]) v = some xs := by
  cases v with
  | d y => cases h
  | raw b => exact h
  | obj i =>
    unfold tupOf at h ⊢
    dsimp only at h ⊢
    cases hm : m[i]? with
    | none => rw [hm] at h; cases h
    | some o =>
      rw [hm] at h
      have hi := (List.getElem?_eq_some_iff.mp hm).1
      rw [List.getElem?_append_left hi, hm]
      exact h
def kD (F : Fx) (es : List Int) : D := .tup [.int (F.price es), tD es]
section
variable [Nil0] {F : Fx} {hs : List (Nat × Int)} {m0 : Mem} {v : PV}
theorem one_nil (k : Nat) : dEq (.lst (List.replicate k (.int 1))) (.lst []) = some (.bl (decide (k = 0))) := by
  have e : List.replicate k (D.int 1) = (List.replicate k 1).map D.int := by simp
  have := ne_nil_ints (List.replicate k 1)
  rw [← e] at this
  unfold dNe at this
  unfold dEq
  cases k with
  | zero => rfl
  | succ k => simp [List.replicate_succ, D.eqv, D.eqvAll, D.dep, D.depAll, depAll_i, e] at this ⊢; exact this
abbrev rK (F : Fx) (v : PV) (m0 : Mem) (x4 x5 x6 : Option PV) : Env := [some (.d (.str F.one)), some (.d (.str F.other)), some v, some (.obj m0.length), x4, x5, x6]
abbrev kBody : SS := sIf (e2 dEq (eFz (nLc [5, 6] (iV (eTD (eV 2))) (tT [5, 6]) (e2 dNe (e2 dIx (eV 4) (eV 5)) (eV 6)) (eC (.int 1)))) (eFz (nLst []))) (sApp (eV 3) (eTup [eCall F__law_price [eV 0, eV 1, eV 4], eV 4])) (sNil)
theorem k_body (h1 : F.m ≤ 1000) (h2 : F.n ≤ 1000) (fs : Facts F hs) (hv : tupOf m0 v = some (hs.map hD)) {es : List Int} (hl : es.length = F.m) (hx : ∀ x ∈ es, x < (F.n : Int)) {acc : List D} (ha : acc.length < 1000000) (x5 x6 : Option PV) :
    kBody (rK F v m0 (some (.d (tD es))) x5 x6) (m0 ++ [.l1 acc]) = .nx (rK F v m0 (some (.d (tD es))) x5 x6) (m0 ++ [.l1 (acc ++ if tells hs es = true then [kD F es] else [])]) := by
  have iv : iV (eTD (eV 2)) (rK F v m0 (some (.d (tD es))) x5 x6) (m0 ++ [.l1 acc]) = .ok (hs.map hD) (m0 ++ [.l1 acc]) := by
    rw [ev_iV, td_at (v := v) (hs := hs) (by rfl) (tup_app hv)]
    rfl
  have lc : lcL (tT [5, 6]) (e2 dNe (e2 dIx (eV 4) (eV 5)) (eV 6)) (eC (.int 1)) (hs.map hD) (rK F v m0 (some (.d (tD es))) none none) (m0 ++ [.l1 acc]) [] = .ok (List.replicate (hs.filter fun p => !(es[p.1]? == some p.2)).length (.int 1)) (m0 ++ [.l1 acc]) := by
    rw [lcL_map (p := fun p : Nat × Int => !(es[p.1]? == some p.2)) (g := fun _ => D.int 1), List.nil_append, List.map_const']
    intro p hp
    have hlt : p.1 < es.length := by rw [hl]; exact fs.lo p hp
    refine ⟨rK F v m0 (some (.d (tD es))) (some (.d (.int (p.1 : Int)))) (some (.d (.int p.2))), rfl, ?_, fun _ => rfl⟩
    have e1 : atD (es.map D.int) (p.1 : Int) = some (.int es[p.1]) := by rw [atD_nat, List.getElem?_map, List.getElem?_eq_getElem hlt]; rfl
    rw [List.getElem?_eq_getElem hlt]
    simp [tD, e1]
  have hlen : hs.length ≤ 16777216 := by have := fs.len; omega
  have c : e2 dEq (eFz (nLc [5, 6] (iV (eTD (eV 2))) (tT [5, 6]) (e2 dNe (e2 dIx (eV 4) (eV 5)) (eV 6)) (eC (.int 1)))) (eFz (nLst [])) (rK F v m0 (some (.d (tD es))) x5 x6) (m0 ++ [.l1 acc]) = .ok (.d (.bl (tells hs es))) (m0 ++ [.l1 acc]) := by
    rw [ev_e2, ev_eFz, ev_nLc, iv, Res.bind_ok, lcG_ok (by rw [List.length_map]; exact hlen), show wipeE (rK F v m0 (some (.d (tD es))) x5 x6) [5, 6] = rK F v m0 (some (.d (tD es))) none none from rfl, lc, Res.bind_ok, Res.bind_ok]
    show ofO (dEq _ (.lst [])) _ = _
    rw [one_nil]
    show Res.ok _ _ = _
    congr 3
    unfold tells
    rw [Bool.eq_iff_iff]
    simp
  have pr := sp_price h1 h2 hl hx (m0 ++ [.l1 acc])
  unfold kBody
  rw [ev_if, c]
  cases ht : tells hs es with
  | true =>
    rw [if_t]
    have ha' : acc.length < 16777216 := by omega
    simp [pr, kD, ha']
  | false =>
    rw [if_f]
    simp
theorem k_loop (h1 : F.m ≤ 1000) (h2 : F.n ≤ 1000) (fs : Facts F hs) (hv : tupOf m0 v = some (hs.map hD)) : ∀ (gs : List (List Int)) (acc : List D) (x4 : Option PV), (∀ es ∈ gs, es.length = F.m ∧ ∀ x ∈ es, x < (F.n : Int)) → acc.length + gs.length ≤ 1000000 →
    ∃ y4, forL (tN 4) kBody (gs.map tD) (rK F v m0 x4 none none) (m0 ++ [.l1 acc]) = .nx (rK F v m0 y4 none none) (m0 ++ [.l1 (acc ++ (gs.filter (tells hs)).map (kD F))])
  | [], acc, x4, _, _ => ⟨x4, by simp⟩
  | es :: gs, acc, x4, h, hl => by
    obtain ⟨q1, q2⟩ := h es (by simp)
    rw [List.length_cons] at hl
    have e := k_body h1 h2 fs hv q1 q2 (acc := acc) (by omega) none none
    obtain ⟨y4, e2⟩ := k_loop h1 h2 fs hv gs (acc ++ if tells hs es = true then [kD F es] else []) (some (.d (tD es))) (fun x hx => h x (by simp [hx])) (by rw [List.length_append]; split <;> simp <;> omega)
    refine ⟨y4, ?_⟩
    rw [List.map_cons, for_nx (ρ1 := rK F v m0 (some (.d (tD es))) none none) rfl e, e2, List.append_assoc]
    congr 4
    by_cases ht : tells hs es = true
    · rw [if_pos ht, List.filter_cons_of_pos ht]; rfl
    · rw [if_neg ht, List.filter_cons_of_neg ht]; rfl
theorem sp_known (h1 : F.m ≤ 1000) (h2 : F.n ≤ 1000) (hf : fits F.n F.m) (fs : Facts F hs) (m0 : Mem) (hv : tupOf m0 v = some (hs.map hD)) : F__law_known [.d (.str F.one), .d (.str F.other), v] m0 = .ok (.d (.lst ((known F hs).map (kD F)))) m0 := by
  have h1' : F.one.length ≤ 16777216 := by unfold Fx.m at h1; omega
  have h2' : F.other.length ≤ 16777216 := by unfold Fx.n at h2; omega
  obtain ⟨y4, e⟩ := k_loop h1 h2 fs hv (pairs F.n F.m) [] none (fun es he => by
    obtain ⟨a, b⟩ := pairs_bd F.m es he
    exact ⟨b, a⟩) (by have := hf F.m (Nat.le_refl _); simpa using this)
  simp only [F__law_known, s__law_known, mkFn]
  have s1 : sAsg (tN 3) (eNw (nLst [])) ([PV.d (.str F.one), PV.d (.str F.other), v].map some ++ List.replicate (7 - [PV.d (.str F.one), PV.d (.str F.other), v].length) none) m0 = .nx (rK F v m0 none none none) (m0 ++ [.l1 []]) := rfl
  have s2 : iV (eCall F__law_pairings [e1 dLen (eV 0), e1 dLen (eV 1)]) (rK F v m0 none none none) (m0 ++ [.l1 []]) = .ok ((pairs F.n F.m).map tD) (m0 ++ [.l1 []]) := by
    have p := sp_pairings h1 h2 hf (m0 ++ [.l1 []])
    have q : eCall F__law_pairings [e1 dLen (eV 0), e1 dLen (eV 1)] (rK F v m0 none none none) (m0 ++ [.l1 []]) = .ok (.d (.lst ((pairs F.n F.m).map tD))) (m0 ++ [.l1 []]) := by
      rw [← p]
      simp [h1', h2', Fx.m, Fx.n]
    rw [ev_iV, q]
    rfl
  rw [ev_seq, s1, at_nx, ev_seq, ev_for, s2, Res.run_ok, e, at_nx]
  rw [ev_fz]
  simp [known]
end
end DI
namespace DI
open Ft
structure Ready (F : Fx) (hs : List (Nat × Int)) : Prop where
  hF : F.told = lookH hs
  t1 : isTB F.one = true
  t2 : isTB F.other = true
  h1 : F.m ≤ 4
  h2 : F.n ≤ 4
  fs : Facts F hs
theorem Ready.kn {F : Fx} {hs : List (Nat × Int)} (r : Ready F hs) : (known F hs).length ≤ 1000 := by
  unfold known
  refine Nat.le_trans (List.length_filter_le ..) (Nat.le_trans (pairs_len F.n F.m) (Nat.le_trans (Nat.pow_le_pow_left (show F.n + 1 ≤ 5 by have := r.h2; omega) F.m) (Nat.le_trans (Nat.pow_le_pow_right (by decide) r.h1) (by decide))))
theorem same_tups {L : List (List Int)} (h : L.length ≤ 1000000) (hx : ∀ x ∈ L, x.length ≤ 1000000) (m : Mem) : F__law_same [.d (.lst (L.map tupI)), .d (.lst (L.map tupI))] m = .ok (.d (.bl true)) m :=
  same_seq 3 (.inl rfl) (by simpa using h) m fun y hy => by
    obtain ⟨x, hm, rfl⟩ := List.mem_map.mp hy
    exact same_seq 2 (.inr rfl) (by simpa using hx x hm) m fun z hz => by
      obtain ⟨i, _, rfl⟩ := List.mem_map.mp hz
      exact same_one 1 rfl m
theorem intsD_ints (ns : List Int) : intsD (ns.map .int) = some ns := intsD_map ns
theorem intsTs_t : ∀ L : List (List Int), intsTs (L.map tupI) = some L
  | [] => rfl
  | x :: L => by
    show ((intsD (x.map .int)).bind fun ns => (intsTs (L.map tupI)).map (ns :: ·)) = _
    rw [intsD_ints, intsTs_t L]
    rfl
theorem o_sortSetT {L : List (List Int)} (h0 : ∀ x ∈ L, x ≠ []) (h1 : (dedupG L).length < 63) (h2 : L.length ≤ 1000) : dSortSetT (.lst (L.map tupI)) = some (.lst (((dedupG L).mergeSort leL).map tupI)) := by
  show (intsTs (L.map tupI)).bind _ = _
  have al : (L.all fun b => !b.isEmpty) = true := by
    rw [List.all_eq_true]
    intro x hx
    obtain ⟨a, r, e⟩ := List.exists_cons_of_ne_nil (h0 x hx)
    rw [e]
    rfl
  rw [intsTs_t, Option.bind_some, if_pos ⟨al, h1, h2⟩]
section
variable [Nil0]
abbrev dueS : SE := e1 dSortSetT (eFz (nLc [13, 14] (iV (eV 6)) (tT [13, 14]) (e2 dLe (eV 13) (eV 9)) (e1 dTupOf (eFz (nLc [12] (iV (eV 8)) (tN 12) (tsY) (e2 dIx (eV 14) (eV 12)))))))
abbrev ckS : SS := (sSeq (sAsg (tN 10) dueS) (sIf (eNot (eCall F__law_same [eCall F_together ([eV 3, eV 4, e1 dTupOf (eV 8), eV 9] ++ [eV 5]), eV 10])) (sRet (eC (.bl false))) (sNil)))
abbrev lnE : SE := eSl dSl (eFz (nLc [12] (iR1 (e1 dLen (eV 3))) (tN 12) (e2 dEq (eCall F__law_pick [eV 2, eC (.int 2)]) (eC (.int 0))) (eV 12))) oN (oS (eC (.int 3)))
abbrev moE : SE := e2 dIx (eFz (nLst [eCall F__law_pick [eV 2, eC (.int 6)], eCall F__law_pick [eV 2, eC (.int 9)], eC (.int 48)])) (eCall F__law_pick [eV 2, eC (.int 3)])
abbrev trS : SS := (sSeq (sAsg (tN 8) lnE) (sSeq (sAsg (tN 9) moE) (sIf (e2 dNe (eV 8) (eFz (nLst []))) ckS (sNil))))
abbrev cellS : SS := (sSeq (sAsg (tN 2) (eCall F__law_deck [eV 1, eC (.int 7)])) (sSeq (sPar [3, 4] [eCall F__law_text [eV 2, eC (.int 4)], eCall F__law_text [eV 2, eC (.int 4)]]) (sSeq (sAsg (tN 5) (eCall F__law_facts [eV 2, eV 3, eV 4])) (sSeq (sAsg (tN 6) (eCall F__law_known [eV 3, eV 4, eV 5])) (sFor (tN 7) (iR1 (eC (.int 4))) trS)))))
abbrev oddS (T0 : Nat) : SS := (sIf (e2 dNe (eTry T0 "law.<locals>.<lambda>" nmOf (eCall F_together ([eC (.str ['a', 'b', 'c', 'd']), eC (.str ['b']), eV 11, eC .non] ++ [eDf "together"]))) (eC (.str k_Lines_))) (sRet (eC (.bl false))) (sNil))
abbrev rL (F : Fx) (hs : List (Nat × Int)) (v : PV) (i : Nat) (a0 a1 a11 : Option PV) (x7 x8 x9 x10 : Option PV) : Env := [a0, a1, some (.obj i), some (.d (.str F.one)), some (.d (.str F.other)), some v, some (.d (.lst ((known F hs).map (kD F)))), x7, x8, x9, x10, a11, none, none, none]
variable {F : Fx} {hs : List (Nat × Int)} {v : PV} {i : Nat}
/-- some of the lines -/
theorem lc_ln (a0 a1 a3 a4 a5 a6 a7 a8 a9 a10 a11 : Option PV) : ∀ (k lo : Nat) (n : Int) (m : Mem) (acc : List D), DeckAt m i n → n + k ≤ 100000000 →
    ∃ (ls : List Nat) (m' : Mem), lcL (tN 12) (e2 dEq (eCall F__law_pick [eV 2, eC (.int 2)]) (eC (.int 0))) (eV 12) (up lo k) [a0, a1, some (.obj i), a3, a4, a5, a6, a7, a8, a9, a10, a11, none, none, none] m acc = .ok (acc ++ lnD ls) m' ∧ ls.Pairwise (· < ·) ∧ (∀ l ∈ ls, lo ≤ l ∧ l < lo + k) ∧ DeckAt m' i (n + k) ∧ m'.length = m.length ∧ ∀ j, j ≠ i → m'[j]? = m[j]?
  | 0, lo, n, m, acc, d, _ => ⟨[], m, by simp [lcL, up, lnD], .nil, by simp, d.mono (by simp), rfl, fun _ _ => rfl⟩
  | k + 1, lo, n, m, acc, d, hn => by
    obtain ⟨g, m1, p, a1', b1, d1, l1, x1⟩ := sp_pick (lim := 2) d (by omega) (by decide) (by decide)
    rw [show up lo (k + 1) = .int (lo : Int) :: up (lo + 1) k from rfl]
    have tg : tN 12 (.d (.int (lo : Int))) [a0, a1, some (.obj i), a3, a4, a5, a6, a7, a8, a9, a10, a11, none, none, none] = some [a0, a1, some (.obj i), a3, a4, a5, a6, a7, a8, a9, a10, a11, some (.d (.int (lo : Int))), none, none] := rfl
    by_cases hg : g = 0
    · subst hg
      obtain ⟨ls, m', hrec, q1, q2, d2, l2, x2⟩ := lc_ln a0 a1 a3 a4 a5 a6 a7 a8 a9 a10 a11 k (lo + 1) (n + 1) m1 (acc ++ [.int (lo : Int)]) d1 (by omega)
      refine ⟨lo :: ls, m', ?_, List.pairwise_cons.mpr ⟨fun b hb => by have := q2 b hb; omega, q1⟩, fun l hl => ?_, d2.mono (by omega), by omega, fun j hj => (x2 j hj).trans (x1 j hj)⟩
      · unfold lcL
        rw [tg]
        dsimp only
        have q : e2 dEq (eCall F__law_pick [eV 2, eC (.int 2)]) (eC (.int 0)) [a0, a1, some (.obj i), a3, a4, a5, a6, a7, a8, a9, a10, a11, some (.d (.int (lo : Int))), none, none] m = .ok (.d (.bl true)) m1 := by simp [p]
        rw [q]
        dsimp only
        rw [show eV 12 [a0, a1, some (.obj i), a3, a4, a5, a6, a7, a8, a9, a10, a11, some (.d (.int (lo : Int))), none, none] m1 = .ok (.d (.int (lo : Int))) m1 from rfl]
        dsimp only
        rw [hrec]
        simp [lnD]
      · rcases List.mem_cons.mp hl with rfl | hl
        · omega
        · have := q2 l hl; omega
    · obtain ⟨ls, m', hrec, q1, q2, d2, l2, x2⟩ := lc_ln a0 a1 a3 a4 a5 a6 a7 a8 a9 a10 a11 k (lo + 1) (n + 1) m1 acc d1 (by omega)
      refine ⟨ls, m', ?_, q1, fun l hl => by have := q2 l hl; omega, d2.mono (by omega), by omega, fun j hj => (x2 j hj).trans (x1 j hj)⟩
      have hb : (g == 0) = false := by simpa using hg
      unfold lcL
      rw [tg]
      dsimp only
      have q : e2 dEq (eCall F__law_pick [eV 2, eC (.int 2)]) (eC (.int 0)) [a0, a1, some (.obj i), a3, a4, a5, a6, a7, a8, a9, a10, a11, some (.d (.int (lo : Int))), none, none] m = .ok (.d (.bl false)) m1 := by simp [p, hb]
      rw [q]
      dsimp only
      rw [hrec]
theorem due_ok (r : Ready F hs) {ls : List Nat} (hne : ls ≠ []) (hp : ls.Pairwise (· < ·)) (hl : ∀ l ∈ ls, l < F.m) (h3 : ls.length ≤ 3) (most : Int) (m : Mem) (a0 a1 a11 x7 x10 : Option PV) :
    dueS (rL F hs v i a0 a1 a11 x7 (some (.d (.lst (lnD ls)))) (some (.d (.int most))) x10) m = .ok (.d (.lst (((dedupG (dueT F hs ls most)).mergeSort leL).map tupI))) m := by
  have kn := r.kn
  let E : Option PV → Option PV → Option PV → Env := fun x12 x13 x14 => [a0, a1, some (.obj i), some (.d (.str F.one)), some (.d (.str F.other)), some v, some (.d (.lst ((known F hs).map (kD F)))), x7, some (.d (.lst (lnD ls))), some (.d (.int most)), x10, a11, x12, x13, x14]
  have lc : lcL (tT [13, 14]) (e2 dLe (eV 13) (eV 9)) (e1 dTupOf (eFz (nLc [12] (iV (eV 8)) (tN 12) (tsY) (e2 dIx (eV 14) (eV 12))))) ((known F hs).map (kD F)) (E none none none) m [] = .ok ((dueT F hs ls most).map tupI) m := by
    rw [lcL_map (p := fun es => decide (F.price es ≤ most)) (g := fun es => tupI (onL es ls)), List.nil_append]
    · unfold dueT
      rw [List.map_map]
      rfl
    intro es he
    have hlen : es.length = F.m := ok_len ((mem_known r.fs.nd r.fs.lo r.hF es).mp he)
    refine ⟨E none (some (.d (.int (F.price es)))) (some (.d (tD es))), rfl, by simp [E], fun _ => ?_⟩
    have inner : lcL (tN 12) tsY (e2 dIx (eV 14) (eV 12)) (lnD ls) (E none (some (.d (.int (F.price es)))) (some (.d (tD es)))) m [] = .ok (ls.map fun l => D.int (es.getD l 0)) m := lcL_all (k := fun (l : Nat) => D.int (l : Int)) ls fun l hm => by
      have hlt : l < es.length := by rw [hlen]; exact hl l hm
      have e1' : atD (es.map D.int) (l : Int) = some (.int es[l]) := by rw [atD_nat, List.getElem?_map, List.getElem?_eq_getElem hlt]; rfl
      exact ⟨E (some (.d (.int (l : Int)))) (some (.d (.int (F.price es)))) (some (.d (tD es))), rfl, by simp [E, tD, e1', hlt]⟩
    rw [ev_e1, ev_eFz, ev_nLc, show iV (eV 8) (E none (some (.d (.int (F.price es)))) (some (.d (tD es)))) m = .ok (lnD ls) m from rfl, Res.bind_ok, lcG_ok (by unfold lnD; rw [List.length_map]; omega), show wipeE (E none (some (.d (.int (F.price es)))) (some (.d (tD es)))) [12] = E none (some (.d (.int (F.price es)))) (some (.d (tD es))) from rfl, inner]
    show ofO (some (D.tup (ls.map fun l => D.int (es.getD l 0)))) m = _
    unfold tupI onL
    rw [List.map_map]
    rfl
  have dl : (dueT F hs ls most).length ≤ 1000 := by
    unfold dueT
    rw [List.length_map]
    exact Nat.le_trans (List.length_filter_le ..) kn
  have d0 : ∀ x ∈ dueT F hs ls most, x ≠ [] := fun x hx z => by
    obtain ⟨es, _, _, e⟩ := (dueT_mem r.fs r.hF x).mp hx
    rw [z] at e
    unfold onL at e
    exact hne (List.map_eq_nil_iff.mp e)
  show e1 dSortSetT _ (E none none none) m = _
  rw [ev_e1, ev_eFz, ev_nLc, show iV (eV 6) (E none none none) m = .ok ((known F hs).map (kD F)) m from rfl, Res.bind_ok, lcG_ok (by rw [List.length_map]; omega), show wipeE (E none none none) [13, 14] = E none none none from rfl, lc, Res.bind_ok, Res.bind_ok]
  show ofO (dSortSetT (.lst _)) m = _
  rw [o_sortSetT d0 (dueT_few r.fs r.hF hp hl h3 r.h2) dl]
  rfl
theorem tr_ok (r : Ready F hs) (hlen : hs.length < 800) {n : Int} (hn : n ≤ 1000000) {m : Mem} (d : DeckAt m i n) (hv : tupOf m v = some (hs.map hD)) (a0 a1 a11 x7 x8 x9 x10 : Option PV) :
    ∃ y8 y9 y10 m', trS (rL F hs v i a0 a1 a11 x7 x8 x9 x10) m = .nx (rL F hs v i a0 a1 a11 x7 y8 y9 y10) m' ∧ DeckAt m' i (n + 10) ∧ m'.length = m.length ∧ ∀ j, j ≠ i → m'[j]? = m[j]? := by
  have b1 := r.h1
  have b2 := r.h2
  have hF : F = fxe F.one F.other hs := by
    cases F with
    | mk a b t =>
      have : t = lookH hs := r.hF
      subst this
      rfl
  obtain ⟨lk, m1, u1, p1, q1, d1, l1, x1⟩ := lc_ln (i := i) a0 a1 (some (.d (.str F.one))) (some (.d (.str F.other))) (some v) (some (.d (.lst ((known F hs).map (kD F))))) x7 x8 x9 x10 a11 F.m 0 n m [] d (by omega)
  rw [List.nil_append] at u1
  have lkl : lk.length ≤ 1000 := by
    have := nodup_len (l := lk) (m := List.range F.m) (p1.imp fun h => Nat.ne_of_lt h) fun x hx => List.mem_range.mpr (by have := q1 x hx; omega)
    rw [List.length_range] at this
    omega
  have hml : F.one.length ≤ 16777216 := by
    have : F.one.length = F.m := rfl
    omega
  have s1 : sAsg (tN 8) lnE (rL F hs v i a0 a1 a11 x7 x8 x9 x10) m = .nx (rL F hs v i a0 a1 a11 x7 (some (.d (.lst (lnD (lk.take 3))))) x9 x10) m1 := by
    have rg : iR1 (e1 dLen (eV 3)) (rL F hs v i a0 a1 a11 x7 x8 x9 x10) m = .ok (up 0 F.m) m := by
      have k : r1K (.d (.int (F.one.length : Int))) m = .ok (rng 0 (F.one.length : Int).toNat) m := r1K_int (fits62_int (by have : F.one.length = F.m := rfl; omega)) _
      rw [Int.toNat_natCast, show rng 0 F.one.length = up 0 F.one.length from rng_up F.one.length 0] at k
      rw [ev_iR1]
      simp [hml]
      exact k
    have upl : ∀ k lo, (up lo k).length = k := fun k => by
      induction k with
      | zero => intro _; rfl
      | succ k ih => intro lo; show (up (lo + 1) k).length + 1 = _; rw [ih]
    have q : eFz (nLc [12] (iR1 (e1 dLen (eV 3))) (tN 12) (e2 dEq (eCall F__law_pick [eV 2, eC (.int 2)]) (eC (.int 0))) (eV 12)) (rL F hs v i a0 a1 a11 x7 x8 x9 x10) m = .ok (.d (.lst (lnD lk))) m1 := by
      rw [ev_eFz, ev_nLc, rg, Res.bind_ok, lcG_ok (by rw [upl]; omega), show wipeE (rL F hs v i a0 a1 a11 x7 x8 x9 x10) [12] = rL F hs v i a0 a1 a11 x7 x8 x9 x10 from rfl]
      simp only [rL]
      rw [u1]
      rfl
    have ct : cutD (lnD lk) none (some ((3 : Nat) : Int)) = lnD (lk.take 3) := by
      rw [cut_to]
      unfold lnD
      rw [List.map_take]
    rw [ev_asg, lnE, ev_eSl, q, Res.bind_ok]
    show ((ofO (some (D.lst (cutD (lnD lk) none (some ((3 : Nat) : Int))))) m1).run _) = _
    rw [ct]
    rfl
  obtain ⟨g1, m2, e2', a2, c2, d2, l2, x2⟩ := sp_pick (lim := 6) d1 (by omega) (by decide) (by decide)
  obtain ⟨g2, m3, e3, a3, c3, d3, l3, x3⟩ := sp_pick (lim := 9) d2 (by omega) (by decide) (by decide)
  obtain ⟨g3, m4, e4, a4, c4, d4, l4, x4⟩ := sp_pick (lim := 3) d3 (by omega) (by decide) (by decide)
  obtain ⟨most, hm1, hm2, s2⟩ : ∃ most : Int, 0 ≤ most ∧ most ≤ 48 ∧ ∀ x8, sAsg (tN 9) moE (rL F hs v i a0 a1 a11 x7 x8 x9 x10) m1 = .nx (rL F hs v i a0 a1 a11 x7 x8 (some (.d (.int most))) x10) m4 := by
    have : g3 = 0 ∨ g3 = 1 ∨ g3 = 2 := by omega
    rcases this with rfl | rfl | rfl
    · exact ⟨g1, by omega, by omega, fun x8 => by simp [e2', e3, e4]⟩
    · exact ⟨g2, by omega, by omega, fun x8 => by simp [e2', e3, e4]⟩
    · exact ⟨48, by omega, by omega, fun x8 => by simp [e2', e3, e4]⟩
  have keep : ∀ j, j ≠ i → m4[j]? = m[j]? := fun j hj => by rw [x4 j hj, x3 j hj, x2 j hj, x1 j hj]
  have hv4 : tupOf m4 v = some (hs.map hD) := tup_keep hv d keep
  generalize hls : lk.take 3 = ls at s1
  have lp : ls.Pairwise (· < ·) := by rw [← hls]; exact p1.sublist (List.take_sublist 3 lk)
  have ll : ∀ l ∈ ls, l < F.m := fun l hl => by
    rw [← hls] at hl
    have := q1 l (List.mem_of_mem_take hl)
    omega
  have l3' : ls.length ≤ 3 := by rw [← hls, List.length_take]; omega
  by_cases z : ls = []
  · refine ⟨some (.d (.lst (lnD ls))), some (.d (.int most)), x10, m4, ?_, d4.mono (by omega), by omega, keep⟩
    have c : e2 dNe (eV 8) (eFz (nLst [])) (rL F hs v i a0 a1 a11 x7 (some (.d (.lst (lnD ls)))) (some (.d (.int most))) x10) m4 = .ok (.d (.bl false)) m4 := by rw [z]; rfl
    unfold trS
    rw [ev_seq, s1, at_nx, ev_seq, s2, at_nx, ev_if, c, if_f]
    rfl
  · refine ⟨some (.d (.lst (lnD ls))), some (.d (.int most)), some (.d (.lst (((dedupG (dueT F hs ls most)).mergeSort leL).map tupI))), m4, ?_, d4.mono (by omega), by omega, keep⟩
    have c : e2 dNe (eV 8) (eFz (nLst [])) (rL F hs v i a0 a1 a11 x7 (some (.d (.lst (lnD ls)))) (some (.d (.int most))) x10) m4 = .ok (.d (.bl true)) m4 := by
      obtain ⟨a, t, e⟩ := List.exists_cons_of_ne_nil z
      have ne : dNe (.lst (lnD (a :: t))) (.lst []) = some (.bl true) := by
        have dd : ∀ ls, D.depAll (lnD ls) = 0 := fun ls => by
          induction ls with
          | nil => rfl
          | cons a t ih =>
            show D.depAll (D.int (a : Int) :: lnD t) = 0
            simp [D.depAll, D.dep, ih]
        unfold dNe
        rw [if_pos (by simp [D.dep, dd, D.depAll])]
        rfl
      rw [e, ev_e2, show eV 8 (rL F hs v i a0 a1 a11 x7 (some (.d (.lst (lnD (a :: t))))) (some (.d (.int most))) x10) m4 = .ok (.d (.lst (lnD (a :: t)))) m4 from rfl, Res.bind_ok, show eFz (nLst []) (rL F hs v i a0 a1 a11 x7 (some (.d (.lst (lnD (a :: t))))) (some (.d (.int most))) x10) m4 = .ok (.d (.lst [])) m4 from rfl, Res.bind_ok]
      show ofO (dNe (.lst (lnD (a :: t))) (.lst [])) m4 = _
      rw [ne]
      rfl
    have du := due_ok (v := v) (i := i) r z lp ll l3' most m4 a0 a1 a11 x7 x10
    have tg : F_together [.d (.str F.one), .d (.str F.other), .d (.tup (lnD ls)), .d (.int most), v] m4 = .ok (.d (.lst (((dedupG (dueT F hs ls most)).mergeSort leL).map tupI))) m4 := by
      have hFs : Facts (fxe F.one F.other hs) hs := by rw [← hF]; exact r.fs
      have := sp_together (one := F.one) (other := F.other) (hs := hs) (v := v) (ls := ls) (most := most) r.t1 r.t2 hFs hlen (List.length_pos_iff.mpr z) l3' lp ll ⟨hm1, hm2⟩ m4 hv4
      rw [← hF] at this
      exact this
    have few := dueT_few (most := most) r.fs r.hF lp ll l3' r.h2
    have sm := same_tups (L := (dedupG (dueT F hs ls most)).mergeSort leL) (by rw [List.length_mergeSort]; omega) (fun x hx => by
      have hx := dedupG_mem.mp ((List.mergeSort_perm _ _).mem_iff.mp hx)
      obtain ⟨es, _, _, rfl⟩ := (dueT_mem r.fs r.hF x).mp hx
      unfold onL
      rw [List.length_map]
      omega) m4
    unfold trS
    rw [ev_seq, s1, at_nx, ev_seq, s2, at_nx, ev_if, c, if_t]
    unfold ckS
    rw [ev_seq, ev_asg, du]
    show ((Out.nx (rL F hs v i a0 a1 a11 x7 (some (.d (.lst (lnD ls)))) (some (.d (.int most))) (some (.d (.lst (((dedupG (dueT F hs ls most)).mergeSort leL).map tupI))))) m4).andThen _) = _
    rw [at_nx]
    generalize ((dedupG (dueT F hs ls most)).mergeSort leL).map tupI = W at *
    have c2 : eNot (eCall F__law_same [eCall F_together ([eV 3, eV 4, e1 dTupOf (eV 8), eV 9] ++ [eV 5]), eV 10]) (rL F hs v i a0 a1 a11 x7 (some (.d (.lst (lnD ls)))) (some (.d (.int most))) (some (.d (.lst W)))) m4 = .ok (.d (.bl false)) m4 := by
      have tc : eCall F_together ([eV 3, eV 4, e1 dTupOf (eV 8), eV 9] ++ [eV 5]) (rL F hs v i a0 a1 a11 x7 (some (.d (.lst (lnD ls)))) (some (.d (.int most))) (some (.d (.lst W)))) m4 = .ok (.d (.lst W)) m4 := tg
      rw [ev_eNot, ev_eCall, ev_args, tc, Res.bind_ok, ev_args, show eV 10 (rL F hs v i a0 a1 a11 x7 (some (.d (.lst (lnD ls)))) (some (.d (.int most))) (some (.d (.lst W)))) m4 = .ok (.d (.lst W)) m4 from rfl, Res.bind_ok, ev_args0, Res.bind_ok, Res.bind_ok, Res.bind_ok, sm]
      rfl
    rw [ev_if, c2, if_f]
    rfl
theorem tr_loop (r : Ready F hs) (hlen : hs.length < 800) (a0 a1 a11 : Option PV) : ∀ (k lo : Nat) (n : Int) (m : Mem) (x7 x8 x9 x10 : Option PV), n + 10 * k ≤ 1000000 → DeckAt m i n → tupOf m v = some (hs.map hD) →
    ∃ y7 y8 y9 y10 m', forL (tN 7) trS (up lo k) (rL F hs v i a0 a1 a11 x7 x8 x9 x10) m = .nx (rL F hs v i a0 a1 a11 y7 y8 y9 y10) m' ∧ m'.length = m.length ∧ ∀ q, q ≠ i → m'[q]? = m[q]?
  | 0, lo, n, m, x7, x8, x9, x10, _, _, _ => ⟨x7, x8, x9, x10, m, rfl, rfl, fun _ _ => rfl⟩
  | k + 1, lo, n, m, x7, x8, x9, x10, hn, d, hv => by
    obtain ⟨y8, y9, y10, m1, e, d1, l1, x1⟩ := tr_ok r hlen (n := n) (by omega) d hv a0 a1 a11 (some (.d (.int (lo : Int)))) x8 x9 x10
    obtain ⟨z7, z8, z9, z10, m', e2, l2, x2⟩ := tr_loop r hlen a0 a1 a11 k (lo + 1) (n + 10) m1 (some (.d (.int (lo : Int)))) y8 y9 y10 (by omega) d1 (tup_keep hv d x1)
    refine ⟨z7, z8, z9, z10, m', ?_, by omega, fun q hq => (x2 q hq).trans (x1 q hq)⟩
    rw [show up lo (k + 1) = .int (lo : Int) :: up (lo + 1) k from rfl, for_nx (ρ1 := rL F hs v i a0 a1 a11 (some (.d (.int (lo : Int)))) x8 x9 x10) rfl e]
    exact e2
theorem cell_ok (cell : Int) (m : Mem) (hm : 0 < m.length) (a0 a2 a3 a4 a5 a6 a7 a8 a9 a10 a11 : Option PV) :
    ∃ b2 b3 b4 b5 b6 b7 b8 b9 b10 m', cellS [a0, some (.d (.int cell)), a2, a3, a4, a5, a6, a7, a8, a9, a10, a11, none, none, none] m = .nx [a0, some (.d (.int cell)), b2, b3, b4, b5, b6, b7, b8, b9, b10, a11, none, none, none] m' ∧ m'[0]? = m[0]? ∧ 0 < m'.length := by
  obtain ⟨m1, u1, d1, l1, x1⟩ := sp_deck cell 7 (by decide) m
  obtain ⟨one, m2, u2, ht1, ht2, d2, l2, x2⟩ := sp_text (most := 4) d1 (by decide) (by decide) (by decide)
  obtain ⟨other, m3, u3, hu1, hu2, d3, l3, x3⟩ := sp_text (most := 4) d2 (by decide) (by decide) (by decide)
  have n0 : 0 ≠ m.length := by omega
  have T1 : isTB one = true := text_tb (by omega) ht2
  have T2 : isTB other = true := text_tb (by omega) hu2
  have z1 : one.length ≤ 4 := by omega
  have z2 : other.length ≤ 4 := by omega
  obtain ⟨hs, m5, j, e5, tv, fl, d5, l5, x5⟩ := sp_facts (F := fxe one other []) (by show one.length ≤ 900; omega) (by show other.length ≤ 1000; omega) (by decide) d3
  have e5' : F__law_facts [.obj m.length, .d (.str one), .d (.str other)] m3 = .ok (.obj j) m5 := e5
  have fs : Facts (fxe one other hs) hs := FLow.facts (F := fxe one other hs) fl (by show one.length ≤ 1000; omega)
  have hsl : hs.length < 800 := by have : hs.length ≤ one.length := fl.len; omega
  have rd : Ready (fxe one other hs) hs := ⟨rfl, T1, T2, z1, z2, fs⟩
  have kn : F__law_known [.d (.str one), .d (.str other), .obj j] m5 = .ok (.d (.lst ((known (fxe one other hs) hs).map (kD (fxe one other hs))))) m5 := sp_known (F := fxe one other hs) (by show one.length ≤ 1000; omega) (by show other.length ≤ 1000; omega) (fits_4 (by show other.length ≤ 4; omega) (by show one.length ≤ 4; omega)) fs m5 tv
  obtain ⟨y7, y8, y9, y10, m6, e6, l6, x6⟩ := tr_loop (F := fxe one other hs) (hs := hs) (v := .obj j) (i := m.length) rd hsl a0 (some (.d (.int cell))) a11 4 0 (7 + 2 + 4 + 2 + 4 + 2 * (fxe one other []).m + 1) m5 a7 a8 a9 a10 (by show (7 + 2 + 4 + 2 + 4 + 2 * ((one.length : Nat) : Int) + 1) + 10 * ((4 : Nat) : Int) ≤ 1000000; omega) (d5.mono (by omega)) tv
  refine ⟨some (.obj m.length), some (.d (.str one)), some (.d (.str other)), some (.obj j), some (.d (.lst ((known (fxe one other hs) hs).map (kD (fxe one other hs))))), y7, y8, y9, y10, m6, ?_, ?_, by omega⟩
  · have r : iR1 (eC (.int 4)) (rL (fxe one other hs) hs (.obj j) m.length a0 (some (.d (.int cell))) a11 a7 a8 a9 a10) m5 = .ok (up 0 4) m5 := rfl
    have s1 : ∀ t : SS, (sSeq (sAsg (tN 2) (eCall F__law_deck [eV 1, eC (.int 7)])) (sSeq (sPar [3, 4] [eCall F__law_text [eV 2, eC (.int 4)], eCall F__law_text [eV 2, eC (.int 4)]]) (sSeq (sAsg (tN 5) (eCall F__law_facts [eV 2, eV 3, eV 4])) (sSeq (sAsg (tN 6) (eCall F__law_known [eV 3, eV 4, eV 5])) t)))) [a0, some (.d (.int cell)), a2, a3, a4, a5, a6, a7, a8, a9, a10, a11, none, none, none] m = t (rL (fxe one other hs) hs (.obj j) m.length a0 (some (.d (.int cell))) a11 a7 a8 a9 a10) m5 := by
      intro t
      simp [u1, u2, u3, e5', kn]
      rfl
    rw [cellS, s1, ev_for, r, Res.run_ok]
    exact e6
  · rw [x6 0 n0, x5 0 (by omega) n0, x3 0 n0, x2 0 n0, x1 0 hm]
theorem nmL : nmOf "InvalidLines" = some k_nInvalidLines := by simp [nmOf]
theorem odd_ok {T0 : Nat} {x : D} (h : oddL x) {m : Mem} (h0 : m[0]? = some (.tab T0 QN)) (a0 a1 a2 a3 a4 a5 a6 a7 a8 a9 a10 : Option PV) :
    oddS T0 [a0, a1, a2, a3, a4, a5, a6, a7, a8, a9, a10, some (.d x), none, none, none] m = .nx [a0, a1, a2, a3, a4, a5, a6, a7, a8, a9, a10, some (.d x), none, none, none] m := by
  have e : eCall F_together [eC (.str ['a', 'b', 'c', 'd']), eC (.str ['b']), eV 11, eC .non, eDf "together"] [a0, a1, a2, a3, a4, a5, a6, a7, a8, a9, a10, some (.d x), none, none, none] m = .ex ⟨"InvalidLines", none⟩ m := by
    simp [h (Nil0.adr "together") m]
  have e2 := try_ex h0 e nmL
  have e3 : k_nInvalidLines = k_Lines_ := rfl
  simp [e2, e3]
abbrev lastS (T0 : Nat) : SS := (sSeq (sFor (tN 11) (iV (eTup [eC .non, eTup [], eFz (nLst [eC (.int 0)]), eTup [eC (.int 0), eC (.int 0)], eTup [eC (.int 1), eC (.int 0)], eTup [eC (.int 0), eC (.int 4)], eTup [e1 dNeg (eC (.int 1))], eTup [eC (.int 0), eC (.int 1), eC (.int 2), eC (.int 3)], eTup [eC (.bl true)], eC (.int 0)])) (oddS T0)) (sRet (eAnd (e2 dEq (eCall F_together ([eC (.str ['a', 'b']), eC (.str ['b']), eTup [eC (.int 0), eC (.int 1)], eC (.int 2)] ++ [eDf "together"])) (eFz (nLst [eTup [e1 dNeg (eC (.int 1)), eC (.int 0)], eTup [eC (.int 0), e1 dNeg (eC (.int 1))]]))) (e2 dEq (eCall F_together ([eC (.str ['a', 'b']), eC (.str ['b', 'a']), eTup [eC (.int 0), eC (.int 1)], eC (.int 1)] ++ [eDf "together"])) (eFz (nLst []))))))
theorem last_ok {T0 : Nat} {m : Mem} (h0 : m[0]? = some (.tab T0 QN)) (a0 a1 a2 a3 a4 a5 a6 a7 a8 a9 a10 : Option PV) : lastS T0 [a0, a1, a2, a3, a4, a5, a6, a7, a8, a9, a10, none, none, none, none] m = .rt (.d (.bl true)) m := by
  obtain ⟨c1, w1⟩ := slot_loop 11 (s := oddS T0) (P := oddL) m (fun b => [a0, a1, a2, a3, a4, a5, a6, a7, a8, a9, a10, b, none, none, none]) (fun _ _ => rfl) (fun x hx => odd_ok hx h0 ..)
    [.non, .tup [], .lst [.int 0], .tup [.int 0, .int 0], .tup [.int 1, .int 0], .tup [.int 0, .int 4], .tup [.int (-1)], .tup [.int 0, .int 1, .int 2, .int 3], .tup [.bl true], .int 0] none (by
      intro x hx
      simp only [List.mem_cons, List.not_mem_nil, or_false] at hx
      rcases hx with rfl | rfl | rfl | rfl | rfl | rfl | rfl | rfl | rfl | rfl
      · exact ol1
      · exact ol2
      · exact ol3
      · exact ol4
      · exact ol5
      · exact ol6
      · exact ol7
      · exact ol8
      · exact ol9
      · exact ol10)
  have s1 : F_together [.d (.str ['a', 'b']), .d (.str ['b']), .d (.tup [.int 0, .int 1]), .d (.int 2), .raw (Nil0.adr "together")] m = .ok (.d (.lst [.tup [.int (-1), .int 0], .tup [.int 0, .int (-1)]])) m := by
    have e := sp_together (one := ['a', 'b']) (other := ['b']) (hs := []) (v := .raw (Nil0.adr "together")) (ls := [0, 1]) (most := 2) (by decide) (by decide) (no_facts _) (by decide) (by decide) (by decide) (by decide) (by decide) (by decide) m (tup_df _ _)
    have q : (dedupG (dueT (fxe ['a', 'b'] ['b'] []) [] [0, 1] 2)).mergeSort leL = [[-1, 0], [0, -1]] := by
      rw [show dedupG (dueT (fxe ['a', 'b'] ['b'] []) [] [0, 1] 2) = [[-1, 0], [0, -1]] by decide +kernel]
      exact leL_uniq (leL_pw _) (by decide) (List.mergeSort_perm _ _)
    rw [q] at e
    exact e
  have s2 : F_together [.d (.str ['a', 'b']), .d (.str ['b', 'a']), .d (.tup [.int 0, .int 1]), .d (.int 1), .raw (Nil0.adr "together")] m = .ok (.d (.lst [])) m := by
    have e := sp_together (one := ['a', 'b']) (other := ['b', 'a']) (hs := []) (v := .raw (Nil0.adr "together")) (ls := [0, 1]) (most := 1) (by decide) (by decide) (no_facts _) (by decide) (by decide) (by decide) (by decide) (by decide) (by decide) m (tup_df _ _)
    have q : (dedupG (dueT (fxe ['a', 'b'] ['b', 'a'] []) [] [0, 1] 1)).mergeSort leL = [] := by
      rw [show dedupG (dueT (fxe ['a', 'b'] ['b', 'a'] []) [] [0, 1] 1) = [] by decide +kernel]
      exact leL_uniq (leL_pw _) .nil (List.mergeSort_perm _ _)
    rw [q] at e
    exact e
  have n1 : dEq (.lst [.tup [.int (-1), .int 0], .tup [.int 0, .int (-1)]]) (.lst [.tup [.int (-1), .int 0], .tup [.int 0, .int (-1)]]) = some (.bl true) := by rfl
  have n2 : dEq (.lst []) (.lst []) = some (.bl true) := by rfl
  simp [w1, s1, s2, n1, n2]
end
theorem law_true [Nil0] (T0 : Nat) (ns : List Int) (hn : ns.length ≤ 63) : ∃ m', F_law T0 [.d (.lst (ns.map .int))] [.tab T0 "law.<locals>.<lambda>"] = .ok (.d (.bl true)) m' := by
  simp only [F_law, s_law, mkFn]
  obtain ⟨ρ', m', f1, ⟨b1, b2, b3, b4, b5, b6, b7, b8, b9, b10, hr⟩, z, _⟩ := for_inv (tg := tN 1) (s := cellS) (fun ρ m => (∃ b1 b2 b3 b4 b5 b6 b7 b8 b9 b10, ρ = [some (.d (.lst (ns.map .int))), b1, b2, b3, b4, b5, b6, b7, b8, b9, b10, none, none, none, none]) ∧ m[0]? = some (.tab T0 QN) ∧ 0 < m.length)
    (((0 :: ns).take 6).map .int) (fun x hx ρ m ⟨⟨b1, b2, b3, b4, b5, b6, b7, b8, b9, b10, e⟩, h0, hl⟩ => by
      rw [List.mem_map] at hx
      obtain ⟨cell, _, rfl⟩ := hx
      rw [e]
      obtain ⟨c2, c3, c4, c5, c6, c7, c8, c9, c10, m', h, h1, h2⟩ := cell_ok cell m hl (some (.d (.lst (ns.map .int)))) b2 b3 b4 b5 b6 b7 b8 b9 b10 none
      exact ⟨_, _, _, rfl, h, ⟨_, _, _, _, _, _, _, _, _, _, rfl⟩, h1.trans h0, h2⟩) [some (.d (.lst (ns.map .int))), none, none, none, none, none, none, none, none, none, none, none, none, none, none] [.tab T0 QN] ⟨⟨_, _, _, _, _, _, _, _, _, _, rfl⟩, rfl, by simp⟩
  subst hr
  have hl := last_ok z (some (.d (.lst (ns.map .int)))) b1 b2 b3 b4 b5 b6 b7 b8 b9 b10
  refine ⟨m'.take 1, ?_⟩
  rw [ev_seq, ev_for]
  show fnR _ (((iV (eSl dSl (e2 dAdd (eFz (nLst [eC (.int 0)])) (eV 0)) oN (oS (eC (.int ((6 : Nat) : Int))))) [some (.d (.lst (ns.map .int))), none, none, none, none, none, none, none, none, none, none, none, none, none, none] [.tab T0 QN]).run fun xs m => forL (tN 1) cellS xs [some (.d (.lst (ns.map .int))), none, none, none, none, none, none, none, none, none, none, none, none, none, none] m).andThen (lastS T0)) = _
  rw [cells_hit 6 ns hn _ _ rfl, Res.run_ok, f1, at_nx, hl]
  rfl
end DI
open PySem PySem.W PyProof.Rows in
set_option maxRecDepth 100000 in
set_option maxHeartbeats 0 in
theorem PySem.Challenge.cw_anchorholds_k07_lines_together_holds : PySem.Challenge.rw_anchorholds_k07_lines_together.Holds := by
  w_on; o_law; k_head; (case hw => w_witness2)
  k_fill
  refine DI.walkN (l := PySem.Challenge.rw_anchorholds_k07_lines_together) (lv := 12) (F := fun I T => @DI.F_law I T) "law.<locals>.<lambda>" rfl rfl ⟨rfl, by decide, by decide⟩ (fun w h Y => PySem.W.km_in_of Y) (fun w h Y => PySem.W.km_tabs_of Y) ?F (fun I T => @DI.law_true I T)
  case F =>
    intro w mg fa h KX G hmg
    refine' DI.all_mk KX G hmg ?a0 ?l0 ?q0 ?k0 ?a1 ?l1 ?q1 ?k1 ?a2 ?l2 ?q2 ?k2 ?a3 ?l3 ?q3 ?k3 ?a4 ?l4 ?q4 ?k4 ?a5 ?l5 ?q5 ?k5 ?a6 ?l6 ?q6 ?k6 ?a7 ?l7 ?q7 ?k7 ?a8 ?l8 ?q8 ?k8 ?a9 ?l9 ?q9 ?k9 ?a10 ?l10 ?q10 ?k10 ?a11 ?l11 ?q11 ?k11 ?a12 ?l12 ?q12 ?k12 ?a13 ?l13 ?q13 ?k13 ?a14 ?l14 ?q14 ?k14 ?a15 ?j15 ?l15 ?q15 ?k15 ?a16 ?l16 ?q16 ?k16 ?a17 ?l17 ?q17 ?k17 ?a18 ?j18 ?l18 ?q18 ?k18 ?a19 ?j19 ?l19 ?q19 ?k19 ?a20 ?l20 ?q20 ?k20 ?a21 ?l21 ?q21 ?k21 ?a22 ?l22 ?q22 ?k22 ?a23 ?l23 ?q23 ?k23 ?a24 ?l24 ?q24 ?k24 ?a25 ?l25 ?q25 ?k25 ?a26 ?l26 ?q26 ?k26 ?a27 ?l27 ?q27 ?k27 ?a28 ?l28 ?q28 ?k28 ?a29 ?l29 ?q29 ?k29 ?a30 ?l30 ?q30 ?k30 ?na0 ?nb0 ?yc ?cl1 ?cl2 ?cl3 ?cl4 ?mk1 ?mk4 ?at_one ?at_other ?at_told ?z_all ?z_any ?z_bool ?z_dict ?z_enumerate ?z_int ?z_isinstance ?z_len ?z_list ?z_max ?z_min ?z_range ?z_set ?z_sorted ?z_str ?z_tuple ?z_zip ?c0 ?c1 ?c2 ?y_AnchorError ?y_InvalidText ?y_InvalidRow ?y_InvalidLine ?y_InvalidPlace ?y_InvalidNumber ?y_InvalidFacts ?y_InvalidLines ?y_InvalidTexts ?y_InvalidRule ?y_InvalidAnchor ?y_InvalidSeen ?y_InvalidName ?y_InvalidFiles ?y_NoFile ?y_NoRemark ?y_WrongState ?y_NothingToUndo ?y_TooMany ?y_InvalidForm ?y_InvalidWay ?z_ValueError ?o1 ?o2 ?t0 ?t1 ?e0_InvalidLines ?e1_InvalidLines ?e2_InvalidLines ?e3_InvalidLines ?e4_InvalidLines ?e5_InvalidLines ?e6_InvalidLines ?e7_InvalidLines ?e8_InvalidLines ?e9_InvalidLines ?i_InvalidLines_InvalidText ?i_InvalidLines_InvalidRow ?i_InvalidLines_InvalidLine ?i_InvalidLines_InvalidPlace ?i_InvalidLines_InvalidNumber ?i_InvalidLines_InvalidFacts ?i_InvalidLines_InvalidLines ?i_InvalidLines_InvalidTexts ?i_InvalidLines_InvalidRule ?i_InvalidLines_InvalidAnchor ?i_InvalidLines_InvalidSeen ?i_InvalidLines_InvalidName ?i_InvalidLines_InvalidFiles ?i_InvalidLines_NoFile ?i_InvalidLines_NoRemark ?i_InvalidLines_WrongState ?i_InvalidLines_NothingToUndo ?i_InvalidLines_TooMany ?i_InvalidLines_InvalidForm ?i_InvalidLines_InvalidWay ?i_InvalidLines_ValueError
    (case yc => k_is)
    (case a0 => k_is)
    (case l0 => k_is)
    (case q0 => k_is)
    (case k0 => k_is)
    (case a1 => k_is)
    (case l1 => k_is)
    (case q1 => k_is)
    (case k1 => k_is)
    (case a2 => k_is)
    (case l2 => k_is)
    (case q2 => k_is)
    (case k2 => k_is)
    (case a3 => k_is)
    (case l3 => k_is)
    (case q3 => k_is)
    (case k3 => k_is)
    (case a4 => k_is)
    (case l4 => k_is)
    (case q4 => k_is)
    (case k4 => k_is)
    (case a5 => k_is)
    (case l5 => k_is)
    (case q5 => k_is)
    (case k5 => k_is)
    (case a6 => k_is)
    (case l6 => k_is)
    (case q6 => k_is)
    (case k6 => k_is)
    (case a7 => k_is)
    (case l7 => k_is)
    (case q7 => k_is)
    (case k7 => k_is)
    (case a8 => k_is)
    (case l8 => k_is)
    (case q8 => k_is)
    (case k8 => k_is)
    (case a9 => k_is)
    (case l9 => k_is)
    (case q9 => k_is)
    (case k9 => k_is)
    (case a10 => k_is)
    (case l10 => k_is)
    (case q10 => k_is)
    (case k10 => k_is)
    (case a11 => k_is)
    (case l11 => k_is)
    (case q11 => k_is)
    (case k11 => k_is)
    (case a12 => k_is)
    (case l12 => k_is)
    (case q12 => k_is)
    (case k12 => k_is)
    (case a13 => k_is)
    (case l13 => k_is)
    (case q13 => k_is)
    (case k13 => k_is)
    (case a14 => k_is)
    (case l14 => k_is)
    (case q14 => k_is)
    (case k14 => k_is)
    (case a15 => k_is)
    (case j15 => k_is)
    (case l15 => k_is)
    (case q15 => k_is)
    (case k15 => k_is)
    (case a16 => k_is)
    (case l16 => k_is)
    (case q16 => k_is)
    (case k16 => k_is)
    (case a17 => k_is)
    (case l17 => k_is)
    (case q17 => k_is)
    (case k17 => k_is)
    (case a18 => k_is)
    (case j18 => k_is)
    (case l18 => k_is)
    (case q18 => k_is)
    (case k18 => k_is)
    (case a19 => k_is)
    (case j19 => k_is)
    (case l19 => k_is)
    (case q19 => k_is)
    (case k19 => k_is)
    (case a20 => k_is)
    (case l20 => k_is)
    (case q20 => k_is)
    (case k20 => k_is)
    (case a21 => k_is)
    (case l21 => k_is)
    (case q21 => k_is)
    (case k21 => k_is)
    (case a22 => k_is)
    (case l22 => k_is)
    (case q22 => k_is)
    (case k22 => k_is)
    (case a23 => k_is)
    (case l23 => k_is)
    (case q23 => k_is)
    (case k23 => k_is)
    (case a24 => k_is)
    (case l24 => k_is)
    (case q24 => k_is)
    (case k24 => k_is)
    (case a25 => k_is)
    (case l25 => k_is)
    (case q25 => k_is)
    (case k25 => k_is)
    (case a26 => k_is)
    (case l26 => k_is)
    (case q26 => k_is)
    (case k26 => k_is)
    (case a27 => k_is)
    (case l27 => k_is)
    (case q27 => k_is)
    (case k27 => k_is)
    (case a28 => k_is)
    (case l28 => k_is)
    (case q28 => k_is)
    (case k28 => k_is)
    (case a29 => k_is)
    (case l29 => k_is)
    (case q29 => k_is)
    (case k29 => k_is)
    (case a30 => k_is)
    (case l30 => k_is)
    (case q30 => k_is)
    (case k30 => k_is)
    (case na0 => k_is)
    (case nb0 => k_is)
    (case cl1 => k_is)
    (case cl2 => k_is)
    (case cl3 => k_is)
    (case cl4 => k_is)
    (case mk1 => k_is)
    (case mk4 => k_is)
    (case at_one => k_is)
    (case at_other => k_is)
    (case at_told => k_is)
    (case z_all => k_is)
    (case z_any => k_is)
    (case z_bool => k_is)
    (case z_dict => k_is)
    (case z_enumerate => k_is)
    (case z_int => k_is)
    (case z_isinstance => k_is)
    (case z_len => k_is)
    (case z_list => k_is)
    (case z_max => k_is)
    (case z_min => k_is)
    (case z_range => k_is)
    (case z_set => k_is)
    (case z_sorted => k_is)
    (case z_str => k_is)
    (case z_tuple => k_is)
    (case z_zip => k_is)
    (case c0 => k_is)
    (case c1 => k_is)
    (case c2 => k_is)
    (case y_AnchorError => k_is)
    (case y_InvalidText => k_is)
    (case y_InvalidRow => k_is)
    (case y_InvalidLine => k_is)
    (case y_InvalidPlace => k_is)
    (case y_InvalidNumber => k_is)
    (case y_InvalidFacts => k_is)
    (case y_InvalidLines => k_is)
    (case y_InvalidTexts => k_is)
    (case y_InvalidRule => k_is)
    (case y_InvalidAnchor => k_is)
    (case y_InvalidSeen => k_is)
    (case y_InvalidName => k_is)
    (case y_InvalidFiles => k_is)
    (case y_NoFile => k_is)
    (case y_NoRemark => k_is)
    (case y_WrongState => k_is)
    (case y_NothingToUndo => k_is)
    (case y_TooMany => k_is)
    (case y_InvalidForm => k_is)
    (case y_InvalidWay => k_is)
    (case z_ValueError => k_is)
    (case o1 => k_is)
    (case o2 => k_is)
    (case t0 => kernel_rfl)
    (case t1 => kernel_rfl)
    (case e0_InvalidLines => k_exc)
    (case e1_InvalidLines => k_is)
    (case e2_InvalidLines => k_is)
    (case e3_InvalidLines => k_is)
    (case e4_InvalidLines => k_is)
    (case e5_InvalidLines => k_is)
    (case e6_InvalidLines => k_is)
    (case e7_InvalidLines => k_is)
    (case e8_InvalidLines => k_is)
    (case e9_InvalidLines => kernel_rfl)
    (case i_InvalidLines_InvalidText => kernel_rfl)
    (case i_InvalidLines_InvalidRow => kernel_rfl)
    (case i_InvalidLines_InvalidLine => kernel_rfl)
    (case i_InvalidLines_InvalidPlace => kernel_rfl)
    (case i_InvalidLines_InvalidNumber => kernel_rfl)
    (case i_InvalidLines_InvalidFacts => kernel_rfl)
    (case i_InvalidLines_InvalidLines => kernel_rfl)
    (case i_InvalidLines_InvalidTexts => kernel_rfl)
    (case i_InvalidLines_InvalidRule => kernel_rfl)
    (case i_InvalidLines_InvalidAnchor => kernel_rfl)
    (case i_InvalidLines_InvalidSeen => kernel_rfl)
    (case i_InvalidLines_InvalidName => kernel_rfl)
    (case i_InvalidLines_InvalidFiles => kernel_rfl)
    (case i_InvalidLines_NoFile => kernel_rfl)
    (case i_InvalidLines_NoRemark => kernel_rfl)
    (case i_InvalidLines_WrongState => kernel_rfl)
    (case i_InvalidLines_NothingToUndo => kernel_rfl)
    (case i_InvalidLines_TooMany => kernel_rfl)
    (case i_InvalidLines_InvalidForm => kernel_rfl)
    (case i_InvalidLines_InvalidWay => kernel_rfl)
    (case i_InvalidLines_ValueError => kernel_rfl)
