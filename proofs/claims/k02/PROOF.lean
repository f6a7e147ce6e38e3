import PyProof.Rows.All
import PyProof.EqLayable
import PyProof.NeKinds
import Wide.All
import OpenK.AllK
import Wide.FinOn
import HandS.ForMost
import HandS.ForExc
import HandS.Lambda
import HandS.CallSlots
import HandS.IsInst
import HandS.TupAny
import HandS.TupMul
import HandS.Wide
import HandS.Conv
import HandS.ExcInit
import HandS.EndTab
import HandS.Zip
import HandS.Zip0
import HandS.Style
import HandS.ExcCtx
import HandS.HeadWalk
import HandS.HotCalls
import HandS.ExcField
import HandS.ExcIs
import HandS.Text
import HandS.AnyAll
import PyProof.TupleOfGen
import PyProof.CodeObjX
import PyProof.Rows.GenFrame
import HandS.ReMatch
import HandS.Nested
import HandS.HeadHook4
import HandS.HeadEnd
import KE.KStateDown
import Lean
import HandS.Words
import HandS.WordsExc
import HandS.Head0
import HandS.Head1
import HandS.Head2
import HandS.HeadHook1
import HandS.HeadHook2
import PySem.Challenge.RW_zonesclose_k02_heads_there_and_back
set_option Elab.async false
set_option linter.all false
set_option maxRecDepth 100000
set_option autoImplicit false
section
/-! ZEv: plain data, a small core language, its evaluator. No model in sight. -/
namespace Z
open PySem (Str PyData)

/-- plain data; `loc` names a list of the store, `ro` is a list that is only read -/
inductive D where
  | non | bl (b : Bool) | int (i : Int) | str (s : Str) | tup (l : List D) | ro (l : List D) | loc (a : Nat)
instance : Inhabited D := ⟨.non⟩
/-- what stands in the store -/
inductive O where
  | lst (l : List D)
abbrev Sto := List O
/-- an answer: a value; a refusal (its class, what it keeps); nothing that is known -/
inductive R (α : Type) where
  | ok (a : α) (S : Sto)
  | exc (c : Nat) (w : D) (S : Sto)
  | stuck
abbrev M (α : Type) := Sto → R α
def ret {α : Type} (a : α) : M α := fun S => .ok a S
def stuck {α : Type} : M α := fun _ => .stuck
def thr {α : Type} (c : Nat) (w : D) : M α := fun S => .exc c w S
def bd {α β : Type} (m : M α) (f : α → M β) : M β := fun S => match m S with
  | .ok a S' => f a S'
  | .exc c w S' => .exc c w S'
  | .stuck => .stuck

/-- the most items that a list may have -/
abbrev line : Nat := 16777216

/-! ### values -/
def getL (a : Nat) : M (List D) := fun S => match S[a]? with
  | some (.lst l) => .ok l S
  | _ => .stuck
def new (l : List D) : M D := fun S => if l.length ≤ line then .ok (.loc S.length) (S ++ [.lst l]) else .stuck
def newT (l : List D) : M D := fun S => if l.length ≤ line then .ok (.tup l) S else .stuck
def putL (a : Nat) (l : List D) : M Unit := fun S => match S[a]? with
  | some (.lst _) => if l.length ≤ line then .ok () (S.set a (.lst l)) else .stuck
  | _ => .stuck
/-- the items of what may be walked -/
def items : D → M (List D)
  | .tup l => ret l
  | .ro l => ret l
  | .loc a => getL a
  | _ => stuck
def truth : D → M Bool
  | .non => ret false
  | .bl b => ret b
  | .int i => ret (i != 0)
  | .str s => fun S => if s.length ≤ line then .ok ((s.length : Int) != 0) S else .stuck
  | .tup l => ret (!l.isEmpty)
  | .ro l => ret (!l.isEmpty)
  | .loc a => bd (getL a) fun l => ret (!l.isEmpty)

/-! ### equality -/
mutual
/-- data without lists of the store -/
def D.py : D → Option PyData
  | .non => some .none
  | .bl b => some (.bool b)
  | .int i => some (.int i)
  | .str s => some (.str s)
  | .tup l => (D.pys l).map .tuple
  | .ro l => (D.pys l).map .list
  | .loc _ => none
def D.pys : List D → Option (List PyData)
  | [] => some []
  | d :: r => match d.py, D.pys r with
    | some x, some y => some (x :: y)
    | _, _ => none
end
/-- == of what has no parts -/
def eqF : D → D → Bool
  | .non, .non => true
  | .bl a, .bl b => a == b
  | .bl a, .int j => (if a then 1 else 0) == j
  | .int i, .bl b => i == (if b then 1 else 0)
  | .int i, .int j => i == j
  | .str x, .str y => x == y
  | _, _ => false
def flat : D → Bool
  | .non | .bl _ | .int _ | .str _ => true
  | _ => false
/-- does some item equal x? -/
def memF (x : D) (l : List D) : Bool := l.any fun y => eqF y x

inductive Bop where | add | sub | mul | div | mod | pow
inductive Cop where | lt | le | gt | ge | eq | ne | is | isnot | isin | notin

def b2 (b : Bool) : Int := if b then 1 else 0
def binop : Bop → D → D → M D
  | .add, .int i, .int j => ret (.int (i + j))
  | .add, .int i, .bl b => ret (.int (i + b2 b))
  | .add, .str x, .str y => fun S => if x.length + y.length ≤ line then .ok (.str (x ++ y)) S else .stuck
  | .add, .tup a, .tup b => newT (a ++ b)
  | .add, .loc a, .loc b => bd (getL a) fun x => bd (getL b) fun y => new (x ++ y)
  | .sub, .int i, .int j => ret (.int (i - j))
  | .mul, .int i, .int j => fun S => if i.natAbs.log2 + j.natAbs.log2 < 1000000 then .ok (.int (i * j)) S else .stuck
  | .mul, .tup a, .int j => fun S => if a ≠ [] ∧ 1 ≤ j ∧ j ≤ 1000 ∧ a.length ≤ 1000 then .ok (.tup (List.replicate j.toNat a).flatten) S else .stuck
  | .mul, .loc a, .int j => bd (getL a) fun x => fun S => if -(2 ^ 63) ≤ j ∧ j < 2 ^ 63 ∧ x.length * j.toNat ≤ line then new (List.replicate j.toNat x).flatten S else .stuck
  | .div, .int i, .int j => fun S => if 0 < j ∧ j.natAbs.log2 < 9000 then .ok (.int (i / j)) S else .stuck
  | .mod, .int i, .int j => fun S => if 0 < j then .ok (.int (i % j)) S else .stuck
  | .pow, .int i, .int j => fun S => if 0 ≤ j ∧ j ≤ 1000000 ∧ i.natAbs < 2 ^ 64 then .ok (.int (i ^ j.toNat)) S else .stuck
  | _, _, _ => stuck

/-- data that may be compared, a list of the store resolved once -/
def deep : D → M PyData
  | .loc a => bd (getL a) fun l => match D.pys l with
    | some p => ret (.list p)
    | none => stuck
  | d => match d.py with
    | some p => ret p
    | none => stuck
/-- == -/
def eqd (x y : D) : M Bool := bd (deep x) fun p => bd (deep y) fun q => fun S => if PySem.SeqAt.shaped p && PySem.SeqAt.shaped q then .ok (PyData.eqv p q) S else .stuck
def eqq : D → D → M Bool
  | .tup a, .tup b => if a.isEmpty || b.isEmpty then ret (a.isEmpty && b.isEmpty) else eqd (.tup a) (.tup b)
  | .loc a, .loc b => bd (getL a) fun x => bd (getL b) fun y => if x.length ≠ y.length then ret false else eqd (.loc a) (.loc b)
  | x, y => eqd x y
def isNon : D → Bool
  | .non => true
  | _ => false
def cmpB : Cop → D → D → M Bool
  | .lt, .int i, .int j => ret (decide (i < j))
  | .le, .int i, .int j => ret (decide (i ≤ j))
  | .gt, .int i, .int j => ret (decide (j < i))
  | .ge, .int i, .int j => ret (decide (j ≤ i))
  | .eq, x, y => eqq x y
  | .ne, x, y => bd (eqq x y) fun b => ret (!b)
  | .is, x, .non => ret (isNon x)
  | .is, .bl a, .bl b => ret (a == b)
  | .isnot, x, .non => ret (!isNon x)
  | .isin, x, y => bd (items y) fun l => fun S => if flat x && l.all flat then .ok (memF x l) S else .stuck
  | .notin, x, y => bd (items y) fun l => fun S => if flat x && l.all flat then .ok (!memF x l) S else .stuck
  | _, _, _ => stuck

inductive P1 where | len | int | bool | abs | str | isInt | isBool | isStr | isTup | isLst | min | max | sum
def isint : D → Bool | .int _ => true | .bl _ => true | _ => false
def isbool : D → Bool | .bl _ => true | _ => false
def isstr : D → Bool | .str _ => true | _ => false
def istup : D → Bool | .tup _ => true | _ => false
def islst : D → Bool | .loc _ => true | .ro _ => true | _ => false
def int1 : D → Option Int | .int i => some i | _ => none
/-- all of them intsD -/
def intsD : List D → Option (List Int)
  | [] => some []
  | .int i :: r => (intsD r).map (i :: ·)
  | _ => none
def lmin : List Int → Int
  | [] => 0
  | [x] => x
  | x :: r => min x (lmin r)
def lmax : List Int → Int
  | [] => 0
  | [x] => x
  | x :: r => max x (lmax r)
def prim1 : P1 → D → M D
  | .len, .str s => fun S => if s.length ≤ line then .ok (.int s.length) S else .stuck
  | .len, d => bd (items d) fun l => ret (.int l.length)
  | .int, .int i => ret (.int i)
  | .int, .bl b => ret (.int (b2 b))
  | .bool, .int i => ret (.bl (i != 0))
  | .bool, .bl b => ret (.bl b)
  | .abs, .int i => ret (.int (if i < 0 then -i else i))
  | .str, .int i => fun S => if i.natAbs.log2 < 1920 then .ok (.str (toString i)) S else .stuck
  | .isInt, d => ret (.bl (isint d))
  | .isBool, d => ret (.bl (isbool d))
  | .isStr, d => ret (.bl (isstr d))
  | .isTup, d => ret (.bl (istup d))
  | .isLst, d => ret (.bl (islst d))
  | .min, .loc a => bd (getL a) fun l => match intsD l with
    | some (x :: r) => ret (.int (lmin (x :: r)))
    | _ => stuck
  | .max, .loc a => bd (getL a) fun l => match intsD l with
    | some (x :: r) => ret (.int (lmax (x :: r)))
    | _ => stuck
  | .sum, .loc a => bd (getL a) fun l => match intsD l with
    | some ns => ret (.int ns.sum)
    | _ => stuck
  | _, _ => stuck
inductive P2 where | max | min
def prim2 : P2 → D → D → M D
  | .max, .int i, .int j => ret (.int (if j > i then j else i))
  | .min, .int i, .int j => ret (.int (if j < i then j else i))
  | _, _, _ => stuck

/-- the place that an index of any sign means -/
def place (n : Nat) (i : Int) : Option Nat := if 0 ≤ i then (if i < n then some i.toNat else none) else if -(n : Int) ≤ i then some (i + n).toNat else none
def index (o i : D) : M D := match i with
  | .int k => bd (items o) fun l => match (place l.length k).bind fun j => l[j]? with
    | some d => ret d
    | none => stuck
  | _ => stuck
/-- a slice's bound as a place among n -/
def bound (n d : Nat) : Option Int → Nat
  | none => d
  | some v => if v < 0 then (v + (n : Int)).toNat else min v.toNat n
def cut {α : Type} (xs : List α) (lo hi : Option Int) : List α := (xs.drop (bound xs.length 0 lo)).take (bound xs.length xs.length hi - bound xs.length 0 lo)
def slice (o : D) (lo hi : Option Int) : M D := match o with
  | .tup l => ret (.tup (cut l lo hi))
  | .loc a => bd (getL a) fun l => new (cut l lo hi)
  | _ => stuck
def optI : D → Option Int | .int i => some i | _ => none
def ranges (lo hi : Int) : List D := (List.range (hi - lo).toNat).map fun (i : Nat) => D.int (lo + (i : Int))
def rgok (i : Int) : Bool := decide (-(2 ^ 62) ≤ i) && decide (i < 2 ^ 62)
def numbered : List D → List D := fun l => l.zipIdx.map fun p => D.tup [D.int (p.2 : Int), p.1]

/-! ### the core language: places of names are numbers -/
/-- a value, a test within a generator expression: x is its item -/
inductive GE where | x | v (i : Nat) | k (i : Int) | add (a b : GE) | ix (a b : GE) | same (a : GE)
inductive GT where | tt | gt (a b : GE) | notin (a b : GE)
inductive T where | nm (i : Nat) | tp (is : List Nat)
mutual
inductive E where
  | k (d : D) | v (i : Nat)
  | bin (o : Bop) (a b : E) | neg (a : E)
  | nt (a : E) | an (a b : E) | or (a b : E)
  | cmp (o : Cop) (a b : E) | ch (o o' : Cop) (a b c : E)
  | ite (t a b : E)
  | call (f : Nat) (as : List E)
  | p1 (p : P1) (a : E) | p2 (p : P2) (a b : E)
  | tup (as : List E) | lst (as : List E)
  | ix (a i : E)
  | sl (a lo hi : E) | slo (a lo : E) | shi (a hi : E) | rev (a : E)
  | lc (x : T) (it : I) (e : E) | lcif (x : T) (it : I) (t e : E)
  | tupOf (it : I) | lstOf (it : I)
  | app (l e : E) | ext (l e : E) | pop (l : E)
  | heard (h : Nat) (e : E)
  | tupG (it : I) (t : GT) (e : GE)
inductive I where
  | val (e : E) | rg1 (a : E) | rg2 (a b : E) | enum (e : E) | zip (a b : E)
end
inductive S where
  | set (i : Nat) (e : E) | setT (is : List Nat) (e : E) | par (i j : Nat) (a b : E) | put (o i e : E)
  | expr (e : E) | ret (e : E) | ifs (t : E) (a b : List S)
  | fors (x : T) (it : I) (b : List S) | whil (t : E) (b : List S)
  | rais (c : Nat) (e : E) | pas | brk | cont

abbrev Env := List (Option D)
/-- how a list display, a loop walk goes on -/
def mapM {α β : Type} (f : α → M β) : List α → M (List β)
  | [] => ret []
  | x :: r => bd (f x) fun y => bd (mapM f r) fun ys => ret (y :: ys)
def setAll : List Nat → List D → Env → Option Env
  | [], [], σ => some σ
  | i :: is, d :: ds, σ => setAll is ds (σ.set i (some d))
  | _, _, _ => none
def bindT (x : T) (d : D) (σ : Env) : M Env := match x with
  | .nm i => ret (σ.set i (some d))
  | .tp is => match d with
    | .tup ds => match setAll is ds σ with
      | some σ' => ret σ'
      | none => stuck
    | _ => stuck
/-- a generator's value of the item d -/
def gev (σ : Env) (d : D) : GE → Option D
  | .x => some d
  | .v i => (match σ[i]? with
    | some (some y) => some y
    | _ => none)
  | .k i => some (.int i)
  | .add a b => (match gev σ d a, gev σ d b with
    | some (.int i), some (.int j) => some (.int (i + j))
    | _, _ => none)
  | .ix a b => (match gev σ d a, gev σ d b with
    | some (.tup l), some (.int k) => (place l.length k).bind fun j => l[j]?
    | _, _ => none)
  | .same a => (match gev σ d a with
    | some (.tup l) => some (.tup l)
    | _ => none)
def gtst (σ : Env) (d : D) : GT → Option Bool
  | .tt => some true
  | .gt a b => (match gev σ d a, gev σ d b with
    | some (.int i), some (.int j) => some (decide (j < i))
    | _, _ => none)
  | .notin a b => (match gev σ d a, gev σ d b with
    | some x, some (.tup l) => if (flat x && l.all flat) = true then some (!memF x l) else none
    | _, _ => none)
/-- what comes of one item: nothing, a value -/
def gOne (σ : Env) (t : GT) (e : GE) (d : D) : Option (Option D) := match gtst σ d t with
  | some true => (gev σ d e).map some
  | some false => some none
  | none => none
def gAll (σ : Env) (t : GT) (e : GE) : List D → Option (List (Option D))
  | [] => some []
  | d :: r => match gOne σ t e d, gAll σ t e r with
    | some o, some os => some (o :: os)
    | _, _ => none
/-- the names of a comprehension are its own -/
def T.own : T → List Nat | .nm i => [i] | .tp is => is
def wipeE (σ : Env) : List Nat → Env
  | [] => σ
  | v :: vs => (wipeE σ vs).set v none
/-- no refusal may leave (within a comprehension) -/
def calm {α : Type} (m : M α) : M α := fun S => match m S with
  | .ok a S' => .ok a S'
  | _ => .stuck
/-- a list that is walked stands as it stood: its length is looked at anew ahead of each turn -/
inductive W where | fix (l : List D) | at (a : Nat) (n : Nat)
def W.len : W → Nat | .fix l => l.length | .at _ n => n
def W.get (w : W) (i : Nat) : M D := match w with
  | .fix l => match l[i]? with
    | some d => ret d
    | none => stuck
  | .at a n => bd (getL a) fun l => if l.length = n then (match l[i]? with
    | some d => ret d
    | none => stuck) else stuck
def W.fin (w : W) : M Unit := match w with
  | .fix _ => ret ()
  | .at a n => bd (getL a) fun l => if l.length = n then ret () else stuck
def walkOf : D → M W
  | .tup l => ret (.fix l)
  | .ro l => ret (.fix l)
  | .loc a => bd (getL a) fun l => ret (.at a l.length)
  | _ => stuck
/-- a meaning, its truth -/
def mk (v : Env → M D) : (Env → M D) × (Env → M Bool) := (v, fun σ => bd (v σ) truth)
/-- a comprehension's turns, from i on, `left` of them to come -/
def lcL (w : W) (body : D → M (Option D)) : Nat → Nat → M (List D)
  | _, 0 => bd w.fin fun _ => ret []
  | i, left + 1 => bd (w.get i) fun d => bd (body d) fun o => bd (lcL w body (i + 1) left) fun r => ret (match o with
    | some y => y :: r
    | none => r)
/-- the refusals' names, as a law tells them -/
structure Heard where
  told : Str
  root : Nat
  rows : List (Str × Nat)
structure Fn where
  ps : Nat
  slots : Nat
  body : List S
/-- the program: its defs, its refusals' bases, its hearers -/
structure Prog where
  fns : Array Fn
  sub : Nat → Nat → Bool
  hears : Array Heard
def joined (P : Prog) (h : Heard) (c : Nat) : Str := PySem.Str.join (PySem.Str.ofString " ") ((h.rows.filter fun r => P.sub c r.2).map (·.1))

/-- what the hearing makes of a meaning -/
def hearM (P : Prog) (hd : Heard) (m : M D) : M D := fun S => match m S with
  | .ok d S' => .ok (.tup [.str hd.told, d]) S'
  | .exc c w S' => if P.sub c hd.root = true then .ok (.tup [.str (joined P hd c), w]) S' else .stuck
  | .stuck => .stuck

section
variable (P : Prog) (C : Nat → List D → M D)
mutual
def evp : E → (Env → M D) × (Env → M Bool)
  | .k d => mk fun _ => ret d
  | .v i => mk fun σ => match σ[i]? with
    | some (some d) => ret d
    | _ => stuck
  | .bin o a b => mk fun σ => bd ((evp a).1 σ) fun x => bd ((evp b).1 σ) fun y => binop o x y
  | .neg a => mk fun σ => bd ((evp a).1 σ) fun x => match x with
    | .int i => ret (.int (-i))
    | _ => stuck
  | .nt a => (fun σ => (bd ((evp a).1 σ) fun x => match x with
    | .bl b => ret (.bl (!b))
    | _ => stuck), fun σ => bd ((evp a).2 σ) fun b => ret (!b))
  | .an a b => (fun σ => (bd ((evp a).1 σ) fun x => match x with
    | .bl true => (evp b).1 σ
    | .bl false => ret (.bl false)
    | _ => stuck), fun σ => bd ((evp a).2 σ) fun c => if c = true then (evp b).2 σ else ret false)
  | .or a b => (fun σ => (bd ((evp a).1 σ) fun x => match x with
    | .bl true => ret (.bl true)
    | .bl false => (evp b).1 σ
    | _ => stuck), fun σ => bd ((evp a).2 σ) fun c => if c = true then ret true else (evp b).2 σ)
  | .cmp o a b => mk fun σ => bd ((evp a).1 σ) fun x => bd ((evp b).1 σ) fun y => bd (cmpB o x y) fun b => ret (.bl b)
  | .ch o o' a b c => mk fun σ => bd ((evp a).1 σ) fun x => bd ((evp b).1 σ) fun y => bd (cmpB o x y) fun z => if z = true then bd ((evp c).1 σ) fun u => bd (cmpB o' y u) fun b => ret (.bl b) else ret (.bl false)
  | .ite t a b => (fun σ => bd ((evp t).2 σ) fun c => if c = true then (evp a).1 σ else (evp b).1 σ, fun σ => bd ((evp t).2 σ) fun c => if c = true then (evp a).2 σ else (evp b).2 σ)
  | .call f as => mk fun σ => bd (evps as σ) fun ds => C f ds
  | .p1 p a => mk fun σ => bd ((evp a).1 σ) fun x => prim1 p x
  | .p2 p a b => mk fun σ => bd ((evp a).1 σ) fun x => bd ((evp b).1 σ) fun y => prim2 p x y
  | .tup as => mk fun σ => bd (evps as σ) fun ds => newT ds
  | .lst as => mk fun σ => bd (evps as σ) fun ds => new ds
  | .ix a i => mk fun σ => bd ((evp a).1 σ) fun x => bd ((evp i).1 σ) fun k => index x k
  | .sl a lo hi => mk fun σ => bd ((evp a).1 σ) fun x => bd ((evp lo).1 σ) fun l => match l with
    | .int l => bd ((evp hi).1 σ) fun h => match h with
      | .int h => slice x (some l) (some h)
      | _ => stuck
    | _ => stuck
  | .slo a lo => mk fun σ => bd ((evp a).1 σ) fun x => bd ((evp lo).1 σ) fun l => match l with
    | .int l => slice x (some l) none
    | _ => stuck
  | .shi a hi => mk fun σ => bd ((evp a).1 σ) fun x => bd ((evp hi).1 σ) fun h => match h with
    | .int h => slice x none (some h)
    | _ => stuck
  | .rev a => mk fun σ => bd ((evp a).1 σ) fun x => match x with
    | .tup l => newT l.reverse
    | _ => stuck
  | .lc x it e => mk fun σ => bd (walkp it σ) fun w => bd (calm (lcL w (fun d => bd (bindT x d (wipeE σ x.own)) fun σ' => bd ((evp e).1 σ') fun y => ret (some y)) 0 w.len)) fun l => new l
  | .lcif x it t e => mk fun σ => bd (walkp it σ) fun w => bd (calm (lcL w (fun d => bd (bindT x d (wipeE σ x.own)) fun σ' => bd ((evp t).2 σ') fun c => if c = true then bd ((evp e).1 σ') fun y => ret (some y) else ret none) 0 w.len)) fun l => new l
  | .tupOf it => mk fun σ => bd (walkp it σ) fun w => match w with
    | .fix l => newT l
    | .at a _ => bd (getL a) fun l => newT l
  | .lstOf it => mk fun σ => bd (walkp it σ) fun w => match w with
    | .fix l => new l
    | .at a _ => bd (getL a) fun l => new l
  | .app l e => mk fun σ => bd ((evp l).1 σ) fun o => match o with
    | .loc a => bd ((evp e).1 σ) fun y => bd (getL a) fun xs => bd (putL a (xs ++ [y])) fun _ => ret .non
    | _ => stuck
  | .ext l e => mk fun σ => bd ((evp l).1 σ) fun o => match o with
    | .loc a => bd ((evp e).1 σ) fun y => match y with
      | .loc b => bd (getL a) fun xs => bd (getL b) fun ys => bd (putL a (xs ++ ys)) fun _ => ret .non
      | _ => stuck
    | _ => stuck
  | .pop l => mk fun σ => bd ((evp l).1 σ) fun o => match o with
    | .loc a => bd (getL a) fun xs => match xs.getLast? with
      | some y => bd (putL a xs.dropLast) fun _ => ret y
      | none => stuck
    | _ => stuck
  | .heard h e => mk fun σ => match P.hears[h]? with
    | none => stuck
    | some hd => hearM P hd ((evp e).1 σ)
  | .tupG it t e => mk fun σ => bd (gsrcp it σ) fun l => match gAll σ t e l with
    | some os => newT (os.filterMap id)
    | none => stuck
def evps : List E → Env → M (List D)
  | [], _ => ret []
  | e :: es, σ => bd ((evp e).1 σ) fun x => bd (evps es σ) fun xs => ret (x :: xs)
def walkp : I → Env → M W
  | .val e, σ => bd ((evp e).1 σ) walkOf
  | .rg1 a, σ => bd ((evp a).1 σ) fun x => match x with
    | .int j => if rgok j = true then ret (.fix (ranges 0 j)) else stuck
    | _ => stuck
  | .rg2 a b, σ => bd ((evp a).1 σ) fun x => bd ((evp b).1 σ) fun y => match x, y with
    | .int i, .int j => if (rgok i && rgok j) = true then ret (.fix (ranges i j)) else stuck
    | _, _ => stuck
  | .enum e, σ => bd ((evp e).1 σ) fun x => match x with
    | .tup l => ret (.fix (numbered l))
    | _ => stuck
  | .zip a b, σ => bd ((evp a).1 σ) fun x => bd ((evp b).1 σ) fun y => match x, y with
    | .tup l, .tup k => ret (.fix ((l.zip k).map fun p => .tup [p.1, p.2]))
    | _, _ => stuck
/-- what a generator expression walks -/
def gsrcp : I → Env → M (List D)
  | .val e, σ => bd ((evp e).1 σ) fun x => match x with
    | .tup l => ret l
    | _ => stuck
  | .rg1 a, σ => bd ((evp a).1 σ) fun x => match x with
    | .int j => if rgok j = true then ret (ranges 0 j) else stuck
    | _ => stuck
  | _, _ => stuck
end
def ev (e : E) : Env → M D := (evp P C e).1
def tst (e : E) : Env → M Bool := (evp P C e).2
def evs (es : List E) : Env → M (List D) := evps P C es
def walk (it : I) : Env → M W := walkp P C it
def gsrc (it : I) : Env → M (List D) := gsrcp P C it

/-- where a statement leads -/
inductive F where | next (σ : Env) | brk (σ : Env) | cont (σ : Env) | ret (d : D)
/-- a loop's turns -/
def forL (w : W) (body : D → Env → M F) : Nat → Nat → Env → M F
  | _, 0, σ => bd w.fin fun _ => Z.ret (.next σ)
  | i, left + 1, σ => bd (w.get i) fun d => bd (body d σ) fun f => match f with
    | .next σ' | .cont σ' => forL w body (i + 1) left σ'
    | .brk σ' => Z.ret (.next σ')
    | .ret d => Z.ret (.ret d)
def whilN (t : Env → M Bool) (b : Env → M F) : Nat → Env → M F
  | 0, _ => stuck
  | n + 1, σ => bd (t σ) fun c => if c = true then bd (b σ) fun f => match f with
    | .next σ' | .cont σ' => whilN t b n σ'
    | .brk σ' => Z.ret (.next σ')
    | .ret d => Z.ret (.ret d)
    else Z.ret (.next σ)
open Classical in
/-- a while: as many turns as it takes -/
noncomputable def whilL (t : Env → M Bool) (b : Env → M F) (σ : Env) : M F := fun S =>
  if h : ∃ n, whilN t b n σ S ≠ .stuck then whilN t b (choose h) σ S else .stuck
theorem whilL_is {t : Env → M Bool} {b : Env → M F} {σ : Env} {S : Sto} : (∃ n, whilL t b σ S = whilN t b n σ S) := by
  unfold whilL
  split
  · exact ⟨_, rfl⟩
  · exact ⟨0, rfl⟩
mutual
noncomputable def ex : S → Env → M F
  | .set i e, σ => bd (ev P C e σ) fun d => Z.ret (.next (σ.set i (some d)))
  | .setT is e, σ => bd (ev P C e σ) fun d => bd (bindT (.tp is) d σ) fun σ' => Z.ret (.next σ')
  | .par i j a b, σ => bd (ev P C a σ) fun x => bd (ev P C b σ) fun y => Z.ret (.next ((σ.set i (some x)).set j (some y)))
  | .put o i e, σ => bd (ev P C e σ) fun y => bd (ev P C o σ) fun x => bd (ev P C i σ) fun k => match x, k with
    | .loc a, .int n => bd (getL a) fun l => match place l.length n with
      | some j => bd (putL a (l.set j y)) fun _ => Z.ret (.next σ)
      | none => stuck
    | _, _ => stuck
  | .expr e, σ => bd (ev P C e σ) fun _ => Z.ret (.next σ)
  | .ret e, σ => bd (ev P C e σ) fun d => Z.ret (.ret d)
  | .ifs t a b, σ => bd (tst P C t σ) fun c => if c = true then exs a σ else exs b σ
  | .fors x it b, σ => bd (walk P C it σ) fun w => forL w (fun d σ => bd (bindT x d σ) fun σ' => exs b σ') 0 w.len σ
  | .whil t b, σ => whilL (fun σ => tst P C t σ) (fun σ => exs b σ) σ
  | .rais c e, σ => bd (ev P C e σ) fun d => thr c d
  | .pas, σ => Z.ret (.next σ)
  | .brk, σ => Z.ret (.brk σ)
  | .cont, σ => Z.ret (.cont σ)
noncomputable def exs : List S → Env → M F
  | [], σ => Z.ret (.next σ)
  | s :: r, σ => bd (ex s σ) fun f => match f with
    | .next σ' => exs r σ'
    | f => Z.ret f
end
/-- a def's body from its arguments -/
noncomputable def runF (f : Fn) (ds : List D) : M D := if ds.length = f.ps then bd (exs P C f.body (ds.map some ++ List.replicate (f.slots - f.ps) none)) fun x => match x with
  | .next _ => Z.ret .non
  | .ret d => Z.ret d
  | _ => stuck
  else stuck
end
/-- a call, so many calls deep -/
noncomputable def callP (P : Prog) : Nat → Nat → List D → M D
  | 0, _, _ => stuck
  | n + 1, f, ds => match P.fns[f]? with
    | some fn => runF P (callP P n) fn ds
    | none => stuck
end Z
end
section
/-! ZRel: how plain data lie in the machine's heap. -/
namespace Z
open PySem PySem.Spec PyProof.Rows L2

/-- a list that is only read -/
def RoL (K : PySem.W.Frag) (H : Hp) (a : Addr) (xs : List V) : Prop :=
  (∃ o, H a = some (.frz o (.lst xs))) ∨
    ∃ (o : Obj) (its : Array Value) (n : Nat), K.lookup a = some o ∧ o.cls = .type "list" ∧ o.dict = none ∧ o.data = .seq its n ∧ its.size ≤ sizeLine ∧ Vals xs its.toList
theorem RoL.sq {K : PySem.W.Frag} {H : Hp} {a : Addr} {xs : List V} (h : RoL K H a xs) : SqL K H a xs := by
  rcases h with ⟨o, h⟩ | h
  · exact .inl (.inr ⟨o, h⟩)
  · exact .inr h
mutual
inductive DV (K : PySem.W.Frag) (ρ : List Addr) (H : Hp) : V → D → Prop
  | non : DV K ρ H .non .non
  | bl (b : Bool) : DV K ρ H (.bl b) (.bl b)
  | int (i : Int) : DV K ρ H (.int i) (.int i)
  | str (x : Str) : DV K ρ H (.str x) (.str x)
  | tup {a : Addr} {xs : List V} {ds : List D} : SqT K H a xs → DVs K ρ H xs ds → DV K ρ H (.ref a) (.tup ds)
  | ro {a : Addr} {xs : List V} {ds : List D} : RoL K H a xs → DVs K ρ H xs ds → DV K ρ H (.ref a) (.ro ds)
  | loc {a : Addr} {l : Nat} : ρ[l]? = some a → DV K ρ H (.ref a) (.loc l)
inductive DVs (K : PySem.W.Frag) (ρ : List Addr) (H : Hp) : List V → List D → Prop
  | nil : DVs K ρ H [] []
  | cons {v : V} {vs : List V} {d : D} {ds : List D} : DV K ρ H v d → DVs K ρ H vs ds → DVs K ρ H (v :: vs) (d :: ds)
end

/-- the heap goes on: the store's addresses grow; all else that is tracked, but the tables, stays -/
structure Ex (ρ : List Addr) (H : Hp) (ρ' : List Addr) (H' : Hp) : Prop where
  pre : ∃ more, ρ' = ρ ++ more
  fr : ∀ a o, H a = some o → (∀ ps, o ≠ .tbl ps) → a ∉ ρ → a ∉ ρ' ∧ H' a = some o
theorem Ex.refl (ρ : List Addr) (H : Hp) : Ex ρ H ρ H := ⟨⟨[], by simp⟩, fun _ _ h _ n => ⟨n, h⟩⟩
theorem Ex.trans {ρ ρ1 ρ2 : List Addr} {H H1 H2 : Hp} (a : Ex ρ H ρ1 H1) (b : Ex ρ1 H1 ρ2 H2) : Ex ρ H ρ2 H2 := by
  refine ⟨?_, fun c o h n m => ?_⟩
  · obtain ⟨m1, e1⟩ := a.pre
    obtain ⟨m2, e2⟩ := b.pre
    exact ⟨m1 ++ m2, by rw [e2, e1, List.append_assoc]⟩
  · obtain ⟨n1, h1⟩ := a.fr c o h n m
    exact b.fr c o h1 n n1
theorem Ex.get {ρ ρ' : List Addr} {H H' : Hp} (e : Ex ρ H ρ' H') {l : Nat} {a : Addr} (h : ρ[l]? = some a) : ρ'[l]? = some a := by
  obtain ⟨m, e⟩ := e.pre
  subst e
  rw [List.getElem?_append_left (List.getElem?_eq_some_iff.mp h).1]
  exact h
theorem Ex.len {ρ ρ' : List Addr} {H H' : Hp} (e : Ex ρ H ρ' H') : ρ.length ≤ ρ'.length := by
  obtain ⟨m, e⟩ := e.pre
  subst e
  simp

/-- what stands at an address of the store -/
def OV (K : PySem.W.Frag) (ρ : List Addr) (H : Hp) (a : Addr) : O → Prop
  | .lst ds => ds.length ≤ sizeLine ∧ ∃ xs, H a = some (.lst xs) ∧ DVs K ρ H xs ds
/-- the store lies in the heap; T: the tables of code objects -/
structure Rel (K : PySem.W.Frag) (T : List (Addr × Str)) (S : Sto) (ρ : List Addr) (H : Hp) : Prop where
  len : ρ.length = S.length
  inj : ρ.Nodup
  obj : ∀ (l : Nat) (o : O), S[l]? = some o → ∃ a, ρ[l]? = some a ∧ OV K ρ H a o
  tab : LamX.Tabs T H
/-- the names' values -/
structure EnvR (K : PySem.W.Frag) (ρ : List Addr) (H : Hp) (σ : L2.St) (env : Env) : Prop where
  len : σ.length = env.length
  get : ∀ (i : Nat) (d : D), env[i]? = some (some d) → ∃ v, σ[i]? = some (some v) ∧ DV K ρ H v d

theorem Rel.addr {K : PySem.W.Frag} {T : List (Addr × Str)} {S : Sto} {ρ : List Addr} {H : Hp} (r : Rel K T S ρ H) {a : Addr} (h : a ∈ ρ) : ∃ xs, H a = some (.lst xs) := by
  obtain ⟨l, hl⟩ := List.getElem?_of_mem h
  have hlt : l < S.length := by rw [← r.len]; exact (List.getElem?_eq_some_iff.mp hl).1
  obtain ⟨a', e, o⟩ := r.obj l S[l] (by simp [hlt])
  rw [hl] at e
  cases e
  cases ho : S[l] with
  | lst ds =>
    rw [ho] at o
    obtain ⟨_, xs, q, _⟩ := o
    exact ⟨xs, q⟩
theorem Rel.notin {K : PySem.W.Frag} {T : List (Addr × Str)} {S : Sto} {ρ : List Addr} {H : Hp} (r : Rel K T S ρ H) {a : Addr} {o : HO} (h : H a = some o) (n : ∀ xs, o ≠ .lst xs) : a ∉ ρ := fun m => by
  obtain ⟨xs, q⟩ := r.addr m
  rw [h] at q
  exact n xs (Option.some.inj q)
theorem Rel.notin0 {K : PySem.W.Frag} {T : List (Addr × Str)} {S : Sto} {ρ : List Addr} {H : Hp} (r : Rel K T S ρ H) {a : Addr} (h : H a = none) : a ∉ ρ := fun m => by
  obtain ⟨xs, q⟩ := r.addr m
  rw [h] at q
  cases q
/-- a tuple stays -/
theorem sqT_ex {K : PySem.W.Frag} {T : List (Addr × Str)} {S : Sto} {ρ ρ' : List Addr} {H H' : Hp} (r : Rel K T S ρ H) (e : Ex ρ H ρ' H') {a : Addr} {xs : List V} (h : SqT K H a xs) : SqT K H' a xs := by
  rcases h with (h | ⟨o, h⟩) | h
  · exact .inl (.inl (e.fr a _ h (fun _ z => nomatch z) (r.notin h fun _ z => nomatch z)).2)
  · exact .inl (.inr ⟨o, (e.fr a _ h (fun _ z => nomatch z) (r.notin h fun _ z => nomatch z)).2⟩)
  · exact .inr h
theorem roL_ex {K : PySem.W.Frag} {T : List (Addr × Str)} {S : Sto} {ρ ρ' : List Addr} {H H' : Hp} (r : Rel K T S ρ H) (e : Ex ρ H ρ' H') {a : Addr} {xs : List V} (h : RoL K H a xs) : RoL K H' a xs := by
  rcases h with ⟨o, h⟩ | h
  · exact .inl ⟨o, (e.fr a _ h (fun _ z => nomatch z) (r.notin h fun _ z => nomatch z)).2⟩
  · exact .inr h
mutual
theorem DV.ex {K : PySem.W.Frag} {T : List (Addr × Str)} {S : Sto} {ρ ρ' : List Addr} {H H' : Hp} (r : Rel K T S ρ H) (e : Ex ρ H ρ' H') : ∀ {v : V} {d : D}, DV K ρ H v d → DV K ρ' H' v d
  | _, _, .non => .non
  | _, _, .bl b => .bl b
  | _, _, .int i => .int i
  | _, _, .str x => .str x
  | _, _, .tup h t => .tup (sqT_ex r e h) (DVs.ex r e t)
  | _, _, .ro h t => .ro (roL_ex r e h) (DVs.ex r e t)
  | _, _, .loc h => .loc (e.get h)
theorem DVs.ex {K : PySem.W.Frag} {T : List (Addr × Str)} {S : Sto} {ρ ρ' : List Addr} {H H' : Hp} (r : Rel K T S ρ H) (e : Ex ρ H ρ' H') : ∀ {vs : List V} {ds : List D}, DVs K ρ H vs ds → DVs K ρ' H' vs ds
  | _, _, .nil => .nil
  | _, _, .cons h t => .cons (DV.ex r e h) (DVs.ex r e t)
end
theorem EnvR.ex {K : PySem.W.Frag} {T : List (Addr × Str)} {S : Sto} {ρ ρ' : List Addr} {H H' : Hp} {σ : L2.St} {env : Env} (r : Rel K T S ρ H) (e : Ex ρ H ρ' H') (x : EnvR K ρ H σ env) : EnvR K ρ' H' σ env :=
  ⟨x.len, fun i d h => let ⟨v, a, b⟩ := x.get i d h; ⟨v, a, b.ex r e⟩⟩
/-! ### lists of data -/
section
variable {K : PySem.W.Frag} {T : List (Addr × Str)} {S : Sto} {ρ ρ' : List Addr} {H H' : Hp} {v : V} {vs ws : List V} {d : D} {ds es : List D}
theorem DVs.length : ∀ {vs : List V} {ds : List D}, DVs K ρ H vs ds → vs.length = ds.length
  | _, _, .nil => rfl
  | _, _, .cons _ t => by simp [DVs.length t]
theorem DVs.get : ∀ {vs : List V} {ds : List D} {i : Nat} {d : D}, DVs K ρ H vs ds → ds[i]? = some d → ∃ v, vs[i]? = some v ∧ DV K ρ H v d
  | _, _, _, _, .nil, e => by simp at e
  | _, _, 0, _, .cons h _, e => by simp at e; subst e; exact ⟨_, rfl, h⟩
  | _, _, i + 1, _, .cons _ t, e => by
    obtain ⟨v, a, b⟩ := DVs.get (i := i) t (by simpa using e)
    exact ⟨v, by simpa using a, b⟩
theorem DVs.get' : ∀ {vs : List V} {ds : List D} {i : Nat} {v : V}, DVs K ρ H vs ds → vs[i]? = some v → ∃ d, ds[i]? = some d ∧ DV K ρ H v d
  | _, _, _, _, .nil, e => by simp at e
  | _, _, 0, _, .cons h _, e => by simp at e; subst e; exact ⟨_, rfl, h⟩
  | _, _, i + 1, _, .cons _ t, e => by
    obtain ⟨v, a, b⟩ := DVs.get' (i := i) t (by simpa using e)
    exact ⟨v, by simpa using a, b⟩
theorem DVs.app : ∀ {vs ws : List V} {ds es : List D}, DVs K ρ H vs ds → DVs K ρ H ws es → DVs K ρ H (vs ++ ws) (ds ++ es)
  | _, _, _, _, .nil, s => s
  | _, _, _, _, .cons h t, s => .cons h (DVs.app t s)
theorem DVs.take : ∀ {vs : List V} {ds : List D} (n : Nat), DVs K ρ H vs ds → DVs K ρ H (vs.take n) (ds.take n)
  | _, _, 0, _ => .nil
  | _, _, _ + 1, .nil => .nil
  | _, _, n + 1, .cons h t => .cons h (DVs.take n t)
theorem DVs.drop : ∀ {vs : List V} {ds : List D} (n : Nat), DVs K ρ H vs ds → DVs K ρ H (vs.drop n) (ds.drop n)
  | _, _, 0, r => r
  | _, _, _ + 1, .nil => .nil
  | _, _, n + 1, .cons _ t => DVs.drop n t
theorem DVs.set : ∀ {vs : List V} {ds : List D} (i : Nat), DVs K ρ H vs ds → DV K ρ H v d → DVs K ρ H (vs.set i v) (ds.set i d)
  | _, _, _, .nil, _ => .nil
  | _, _, 0, .cons _ t, h => .cons h t
  | _, _, i + 1, .cons q t, h => .cons q (DVs.set i t h)
theorem DVs.one (h : DV K ρ H v d) : DVs K ρ H [v] [d] := .cons h .nil
theorem DVs.rev : ∀ {vs : List V} {ds : List D}, DVs K ρ H vs ds → DVs K ρ H vs.reverse ds.reverse
  | _, _, .nil => .nil
  | _, _, .cons h t => by
    rw [List.reverse_cons, List.reverse_cons]
    exact (DVs.rev t).app (.one h)
theorem DVs.nil_iff (h : DVs K ρ H vs ds) : vs = [] ↔ ds = [] := by
  cases h <;> simp
theorem DVs.of_get : ∀ {vs : List V} {ds : List D}, vs.length = ds.length → (∀ (i : Nat) (v : V) (d : D), vs[i]? = some v → ds[i]? = some d → DV K ρ H v d) → DVs K ρ H vs ds
  | [], [], _, _ => .nil
  | v :: vs, d :: ds, hl, h => .cons (h 0 v d rfl rfl) (DVs.of_get (by simpa using hl) fun i v d a b => h (i + 1) v d (by simpa using a) (by simpa using b))
  | [], _ :: _, hl, _ => by simp at hl
  | _ :: _, [], hl, _ => by simp at hl
theorem DVs.rep (n : Nat) (h : DVs K ρ H vs ds) : DVs K ρ H (List.replicate n vs).flatten (List.replicate n ds).flatten := by
  induction n with
  | zero => exact .nil
  | succ n ih =>
    rw [List.replicate_succ, List.replicate_succ, List.flatten_cons, List.flatten_cons]
    exact h.app ih
end

/-! ### how the heap goes on -/
section
variable {K : PySem.W.Frag} {T : List (Addr × Str)} {S : Sto} {ρ ρ' : List Addr} {H H' : Hp} {v : V} {vs ws : List V} {d : D} {ds es : List D} {p : Addr}
/-- a new thing that is not of the store -/
theorem Ex.new {o : HO} (hp : H p = none) : Ex ρ H ρ (upd H p o) := ⟨⟨[], by simp⟩, fun a u h _ n => ⟨n, by rw [upd_ne (ne_of_none h hp)]; exact h⟩⟩
theorem tabs_new {o : HO} (t : LamX.Tabs T H) (hp : H p = none) : LamX.Tabs T (upd H p o) := t.ext fun b u h => by rw [upd_ne (ne_of_none h hp)]; exact h
theorem OV.ex {a : Addr} {o : O} (r : Rel K T S ρ H) (e : Ex ρ H ρ' H') (x : OV K ρ H a o) (k : ∀ xs, H a = some (.lst xs) → H' a = some (.lst xs)) : OV K ρ' H' a o := by
  cases o with
  | lst ds =>
    obtain ⟨z, xs, h, t⟩ := x
    exact ⟨z, xs, k xs h, t.ex r e⟩
theorem Rel.new {o : HO} (r : Rel K T S ρ H) (hp : H p = none) : Rel K T S ρ (upd H p o) :=
  ⟨r.len, r.inj, fun l u h => by
    obtain ⟨a, e, x⟩ := r.obj l u h
    exact ⟨a, e, x.ex r (Ex.new hp) fun xs q => by rw [upd_ne (ne_of_none q hp)]; exact q⟩, tabs_new r.tab hp⟩
/-- a new list of the store -/
theorem Ex.alloc {o : HO} (hp : H p = none) : Ex ρ H (ρ ++ [p]) (upd H p o) :=
  ⟨⟨[p], rfl⟩, fun a u h _ n => ⟨fun z => by
    rw [List.mem_append, List.mem_singleton] at z
    rcases z with z | z
    · exact n z
    · exact ne_of_none h hp z, (upd_ne (ne_of_none h hp)).trans h⟩⟩
theorem Rel.alloc (r : Rel K T S ρ H) (hp : H p = none) (t : DVs K ρ H vs ds) (hz : ds.length ≤ sizeLine) : Rel K T (S ++ [.lst ds]) (ρ ++ [p]) (upd H p (.lst vs)) := by
  refine ⟨by simp [r.len], ?_, fun l u h => ?_, tabs_new r.tab hp⟩
  · rw [List.nodup_append]
    refine ⟨r.inj, by simp, fun a ha b hb e => ?_⟩
    rw [List.mem_singleton] at hb
    subst hb; subst e
    exact r.notin0 hp ha
  · by_cases hl : l < S.length
    · rw [List.getElem?_append_left hl] at h
      obtain ⟨a, e, x⟩ := r.obj l u h
      refine ⟨a, ?_, x.ex r (Ex.alloc hp) fun xs q => by rw [upd_ne (ne_of_none q hp)]; exact q⟩
      rw [List.getElem?_append_left (by rw [r.len]; exact hl)]
      exact e
    · rw [List.getElem?_append_right (by omega)] at h
      have hl0 : l - S.length = 0 := by
        have := (List.getElem?_eq_some_iff.mp h).1
        simp at this
        omega
      rw [hl0] at h
      simp at h
      subst h
      have e1 : l = ρ.length := by rw [r.len]; omega
      refine ⟨p, by rw [e1]; simp, hz, vs, upd_same, t.ex r (Ex.alloc hp)⟩
theorem alloc_loc (r : Rel K T S ρ H) : DV K (ρ ++ [p]) (upd H p (.lst vs)) (.ref p) (.loc S.length) := .loc (by rw [← r.len]; simp)
/-- a list of the store is written -/
theorem Ex.write {l : Nat} {a : Addr} {o : HO} (h : ρ[l]? = some a) : Ex ρ H ρ (upd H a o) :=
  ⟨⟨[], by simp⟩, fun b u hb _ n => ⟨n, by
    rw [upd_ne]
    · exact hb
    · rintro rfl
      exact n (List.mem_of_getElem? h)⟩⟩
theorem Rel.write {l : Nat} {a : Addr} (r : Rel K T S ρ H) (h : ρ[l]? = some a) (t : DVs K ρ H vs ds) (hz : ds.length ≤ sizeLine) : Rel K T (S.set l (.lst ds)) ρ (upd H a (.lst vs)) := by
  have hlt : l < ρ.length := (List.getElem?_eq_some_iff.mp h).1
  refine ⟨by simp [r.len], r.inj, fun k u hk => ?_, ?_⟩
  · by_cases e : l = k
    · subst e
      rw [List.getElem?_set_self (by rw [← r.len]; exact hlt)] at hk
      cases hk
      exact ⟨a, h, hz, vs, upd_same, t.ex r (Ex.write h)⟩
    · rw [List.getElem?_set_ne e] at hk
      obtain ⟨b, e1, x⟩ := r.obj k u hk
      refine ⟨b, e1, x.ex r (Ex.write h) fun xs q => ?_⟩
      rw [upd_ne]
      · exact q
      · rintro rfl
        refine e ?_
        have h1 := (List.getElem?_eq_some_iff.mp h)
        have h2 := (List.getElem?_eq_some_iff.mp e1)
        obtain ⟨p1, q1⟩ := h1
        obtain ⟨p2, q2⟩ := h2
        exact (List.getElem_inj r.inj).mp (q1.trans q2.symm)
  · intro p hp
    obtain ⟨ps, h1, h2, h3⟩ := r.tab p hp
    obtain ⟨xs, hx⟩ := r.addr (List.mem_of_getElem? h)
    refine ⟨ps, ?_, h2, fun pos cv hc => ?_⟩
    · rw [upd_ne]
      · exact h1
      · rintro e
        rw [e, hx] at h1
        cases h1
    · obtain ⟨c, e1, e2⟩ := h3 pos cv hc
      refine ⟨c, e1, ?_⟩
      rw [upd_ne]
      · exact e2
      · rintro e
        rw [e, hx] at e2
        have z := Option.some.inj e2
        unfold LamX.CodeO at z
        cases z
theorem Rel.lst {l : Nat} (r : Rel K T S ρ H) (h : S[l]? = some (.lst ds)) : ∃ a xs, ρ[l]? = some a ∧ H a = some (.lst xs) ∧ DVs K ρ H xs ds ∧ ds.length ≤ sizeLine := by
  obtain ⟨a, e, z, xs, h1, h2⟩ := r.obj l _ h
  exact ⟨a, xs, e, h1, h2, z⟩
/-- a new tuple -/
theorem tup_new (r : Rel K T S ρ H) (hp : H p = none) (t : DVs K ρ H vs ds) : DV K ρ (upd H p (.tup vs)) (.ref p) (.tup ds) := .tup (SqT.of upd_same) (t.ex r (Ex.new hp))
end
end Z
end
section
/-! ZTm: tuple * 1. -/
namespace L2
open PySem PySem.Spec PyProof.Rows
theorem tuple_mul1 (l : Addr) (items : Array Value) (n : Nat) (dd : Option Addr) (sl : Array (Option Value)) (u : Tok) (c1 : items.isEmpty = false) :
    Meets (Builtin.«tuple.__mul__» ⟨[.ref l, .int 1 u], []⟩) (fun _ R s => s.heap.get? l = some { cls := .type "tuple", dict := dd, data := .seq items n, slots := sl } ∧ R (.ok (.ret (Value.ref l))) s) :=
  .of_wp fun prog w A R s h => by
    obtain ⟨hp, g, d, tk, os⟩ := s
    obtain ⟨hl, h⟩ := h
    have f1 := AutoSeq1.idx_int
    wp_walk using wpAny_loadPart' hl
    exact ⟨_, rfl, h⟩
def rRep1 (K : PySem.W.Frag) : R2 := fun x y H Q => ∃ l xs, x = .ref l ∧ y = .int 1 ∧ SqT K H l xs ∧ xs ≠ [] ∧ Q (.ref l) H
section
variable {X : Cx}
theorem op_rep1 : OpR X (binaryOp .Mult) (rRep1 X.K) := by
  intro pins s σ H x y v u Q I rx ry h
  obtain ⟨l, xs, rfl, rfl, hT, hne, q⟩ := h
  cases rx
  obtain ⟨t, rfl⟩ := ry
  obtain ⟨its, r, ⟨⟨cls, dd, data, sl⟩, ho, hc, n, hd⟩, hs⟩ := I.tuple hT
  simp only at hc hd
  subst hc hd
  have hn : its ≠ [] := fun e => hne (by
    have hle : its.length = xs.length := r.length.symm
    rw [e] at hle
    exact List.eq_nil_of_length_eq_zero hle.symm)
  have hi : its.toArray.isEmpty = false := by
    cases its with
    | nil => exact absurd rfl hn
    | cons a b => rfl
  refine wpAny_binaryOp_repeat_ref (T := "tuple") (U := "int") (by decide) ⟨_, ho, rfl⟩ (fun s' => typeIs_int s' 1 t) noFill_tuple_mul F.fills_int_mul F.slot_int_rmul repeat_tuple F.slot_int_index.lookup
    (call_meets F.slot_int_rmul (typeIs_int s 1 t) F.entry_int_rmul (F.args_int_rmul_2 _ _) (int_rmul_tuple 1 t l its.toArray n dd sl)
      ⟨ho, rfl, ⟨_, ho, rfl⟩, call_meets F.slot_tuple_mul ⟨_, ho, rfl⟩ F.entry_tuple_mul (F.args_tuple_mul_2 _ _) (tuple_mul1 l its.toArray n dd sl t hi) ⟨ho, ?_⟩⟩)
  exact ⟨.ref l, H, I, rfl, q⟩
end
end L2
end
section
/-! ZEnum: enumerate of a tuple, a tuple turned about; at the library's level. -/
namespace Z
open PySem PySem.Spec PyProof.Rows L2
section
open AutoSeq1 (wpAny_loadPart')
theorem draws_tup {prog : Program} {w : World} {A : Around} (hh : A.handled = none) (it l : Addr) (hne : l ≠ it) (items : Array Value) :
    Draws prog w A it [it, l] items.size (fun i v => items[i]? = some v) (fun i h => h.IsTupleIter it l i ∧ h.IsTuple l items) where
  live := fun _ _ st => let ⟨o, ho, _⟩ := st.1; ⟨o, ho⟩
  frame := fun _ _ _ st hk => ⟨st.1.at fun o e => hk it (by simp) o e, st.2.at fun o e => hk l (by simp) o e⟩
  item := fun i s Q E hi st hQ => by
    refine RZ.nextOf_tuple_item st.1 st.2 (x := items[i]) (by simp [hi]) fun h' hit' hs' => ?_
    exact hQ _ h' s.toks (by simp [hi]) ⟨hit', st.2.extBut hs'.extBut hne⟩ hs'
  done := fun s Q E st hE => RZ.nextOf_tuple_end hh st.1 st.2 (by simp) hE
theorem meets_enumerate_newT (l : Addr) (items : Array Value) (n : Nat) (dct : Option Addr) (sl : Array (Option Value)) :
    Meets (Builtin.«enumerate.__new__» ⟨[.type "enumerate", .ref l], []⟩) (fun _ R s => s.heap.get? l = some { cls := .type "tuple", dict := dct, data := .seq items n, slots := sl } ∧
      R (.ok (.ret (.ref (s.heap.push { cls := .type "tuple_iterator", data := .fields #[.ref l, .int 0 0] }).objs.size)))
        { s with heap := (s.heap.push { cls := .type "tuple_iterator", data := .fields #[.ref l, .int 0 0] }).push { cls := .type "enumerate", data := .fields #[.none, .bool false, .ref s.heap.objs.size, rawInt 0, .none, .none] } }) :=
  .of_wp fun prog w A R s h => by
    obtain ⟨hp, g, d, tk, os⟩ := s; obtain ⟨hl, h⟩ := h
    have hsub := sub_enumerate
    have hL : Heap.IsTuple (Shared.heap ⟨hp, g, d, tk, os⟩) l items := ⟨_, hl, rfl, n, rfl⟩
    wp_walk using wpAny_loadPart' hl
    refine wpAny_stack_any fun st => wpAny_pure ?_
    split
    · rename_i c _ _ _ _ _
      cases (c == Value.type "enumerate")
      · wp_walk using wpAny_loadPart' hl, wpAny_pyIter_tuple hL
        exact ⟨_, rfl, h⟩
      · wp_walk using wpAny_loadPart' hl, wpAny_pyIter_tuple hL
        exact ⟨_, rfl, h⟩
    · wp_walk using wpAny_loadPart' hl, wpAny_pyIter_tuple hL
      exact ⟨_, rfl, h⟩
theorem call_enumerate_tuple {prog : Program} {w : World} {A : Around} {E : Value → Shared → Prop} {s : Shared} {l : Addr} {items : Array Value} {Q : Value → Shared → Prop} (hL : s.heap.IsTuple l items)
    (h : ∀ h', IsEnum h' (s.heap.objs.size + 1) s.heap.objs.size 0 .none → h'.IsTupleIter s.heap.objs.size l 0 → h'.objs.size = s.heap.objs.size + 2 →
      (∀ b o, s.heap.get? b = some o → h'.get? b = some o) → Q (.ref (s.heap.objs.size + 1)) { s with heap := h' }) :
    wpAny (model prog w) A (call (.type "enumerate") [.ref l]) Q E s := by
  obtain ⟨⟨c, dct, dt, sl⟩, hl, hc, n, hd⟩ := hL
  replace hc : c = .type "tuple" := hc
  replace hd : dt = .seq items n := hd
  subst hc hd
  refine callType_new F.called_enumerate (by decide) (F.typeCall_enumerate_1 _) (F.newCall_enumerate_1 _) (fun obj => F.args_object_init_2 obj _) F.entry_enumerate_new
    (meets_enumerate_newT l items n dct sl) ⟨hl, ?_⟩
  have hz : (s.heap.push { cls := .type "tuple_iterator", data := .fields #[.ref l, .int 0 0] }).objs.size = s.heap.objs.size + 1 := Heap.size_push ..
  show _ ∧ _
  rw [hz]
  have he : IsEnum ((s.heap.push { cls := .type "tuple_iterator", data := .fields #[.ref l, .int 0 0] }).push
      { cls := .type "enumerate", data := .fields #[.none, .bool false, .ref s.heap.objs.size, rawInt 0, .none, .none] }) (s.heap.objs.size + 1) s.heap.objs.size 0 .none := by
    have := Heap.get?_push_size (s.heap.push { cls := .type "tuple_iterator", data := .fields #[.ref l, .int 0 0] })
      (o := { cls := .type "enumerate", data := .fields #[.none, .bool false, .ref s.heap.objs.size, rawInt 0, .none, .none] }) rfl
    rw [hz] at this; exact this
  refine ⟨⟨_, he, rfl⟩, h _ he ⟨_, Heap.get?_push_of_some _ (Heap.get?_push_size _ rfl), rfl, rfl⟩ (by rw [Heap.size_push, hz]) fun b o x => Heap.get?_push_of_some _ (Heap.get?_push_of_some _ x)⟩
end
/-- the tuple at a, each item in a new pair -/
def IteT (K : PySem.W.Frag) (a : Addr) : It :=
  ⟨fun i H => ∃ (xs : List V) (x : V), SqT K H a xs ∧ xs[i]? = some x, fun i H v H' => ∃ T x, v = .ref T ∧ H T = none ∧ H' = upd H T (.tup [.int (i : Nat), x]) ∧ ∀ xs, SqT K H a xs → xs[i]? = some x, fun i H => ∃ xs : List V, SqT K H a xs ∧ xs.length ≤ i⟩
theorem turn_enumT {P : Program} {w : World} {K : PySem.W.Frag} {elts : List Expr} {kk : Nat} {tpos : Pos} (a e it : Addr) (hae : a ≠ e) (hai : a ≠ it) :
    Turn P w K (.Tuple elts kk tpos) (IteT K a) [e, it] e (fun i h => (∃ old, IsEnum h e it ((i : Nat) : Int) old) ∧ h.IsTupleIter it a i ∧ e ≠ it) where
  mem := by simp
  obj := fun i h st b hb => by
    obtain ⟨⟨old, he⟩, ⟨o, ho, hc, hd⟩, _⟩ := st
    have e' : b = e ∨ b = it := by simpa using hb
    rcases e' with z | z
    · rw [z]; exact ⟨_, he, fun v q => nomatch q⟩
    · rw [z]; exact ⟨o, ho, fun v q => by rw [hd] at q; cases q⟩
  keep := fun i h h' st k => let ⟨⟨old, he⟩, hi, hne⟩ := st; ⟨⟨old, k e (by simp) _ he⟩, hi.at fun o q => k it (by simp) o q, hne⟩
  item := by
    intro X hP hw hK hc i pins s σ H E I hf st hg
    subst hP hw hK
    obtain ⟨⟨old, he⟩, hit, hne⟩ := st
    obtain ⟨xs, x, hq, hx⟩ := hg
    obtain ⟨its, rv, p, hz⟩ := I.tuple hq
    have p : s.heap.IsTuple a its.toArray := p
    obtain ⟨u, hu, ru⟩ := rv.get hx
    have hel : e < s.heap.objs.size := Heap.lt_size he
    have hil : it < s.heap.objs.size := by obtain ⟨_, q, _⟩ := hit; exact Heap.lt_size q
    have hlt : i < its.toArray.size := by
      have := (List.getElem?_eq_some_iff.mp hu).1
      simpa using this
    have D := draws_tup (prog := X.prog) (w := X.w) (A := X.A.in1) (by exact I.ok.hd hc) it a hai its.toArray
    refine wpAny_pyNext_enum_itemD D he ⟨hit, p⟩ hlt hne (by simp; exact ⟨hne, hae.symm⟩) fun y h' tk hy ho hit' hT hsz hk => ?_
    have ey : y = u := by
      have : its[i]? = some y := by simpa using hy
      rw [hu] at this
      exact (Option.some.inj this).symm
    subst ey
    refine ⟨_, rfl, wpAny_letOwnedTupleGo_enum (s := { s with heap := h', toks := tk + 1 }) ho fun h'' he' sb => ?_⟩
    have hT2 : h''.get? s.heap.objs.size = some { cls := .type "tuple", data := .seq #[.int i tk, y] } := (sb.2 _ (Nat.ne_of_gt hel)).trans hT
    have new : ObjOk X.prog X.w (upd H s.heap.objs.size (.tup [.int (i : Nat), x])) h'' s.heap.objs.size (.tup [.int (i : Nat), x]) :=
      ⟨by show 2 ≤ sizeLine; decide, [.int i tk, y], .cons ⟨_, rfl⟩ (.cons ru .nil), ⟨_, hT2, rfl, _, rfl⟩⟩
    have I1 : Inv X pins σ (upd H s.heap.objs.size (.tup [.int (i : Nat), x])) { s with heap := h'', toks := tk + 1 } :=
      I.turnedNew (ch := [e, it]) (fun b ob hb q => (sb.2 b (fun z => hb (by simp [z]))).trans (hk b ob (fun z => hb (by simp [z])) (fun z => hb (by simp [z])) q)) hf (Nat.le_refl _) new
    refine ⟨.ref s.heap.objs.size, _, I1, rfl, ⟨_, x, rfl, I.hok.fresh (Nat.le_refl _), rfl, fun ys hy => by rw [I.tuple_inj hy hq]; exact hx⟩, ⟨⟨y, ?_⟩, hit'.1.at fun o q => (sb.2 it (Ne.symm hne)).trans q, hne⟩, fun b hb => ?_⟩
    · have e1 : ((i + 1 : Nat) : Int) = (i : Int) + 1 := by omega
      rw [e1]; exact he'
    · have hb' : b < s.heap.objs.size := by
        have e' : b = e ∨ b = it := by simpa using hb
        rcases e' with z | z
        · rw [z]; exact hel
        · rw [z]; exact hil
      rw [upd_ne (Nat.ne_of_lt hb')]
      exact (hf b hb).1
  done := by
    intro X hP hw hK hc i pins s σ H E I hf st hg
    subst hP hw hK
    obtain ⟨⟨old, he⟩, hit, hne⟩ := st
    obtain ⟨xs, hq, hx⟩ := hg
    obtain ⟨its, rv, p, hz⟩ := I.tuple hq
    have p : s.heap.IsTuple a its.toArray := p
    obtain ⟨f0, f1, f2, f3, f4, f5⟩ := hf it (by simp)
    have hl := rv.length
    have hT : s.TypeIs (.ref e) "enumerate" := ⟨_, he, rfl⟩
    unfold pyNext
    refine wpAny_bind (wpAny_attempt (wpAny_callSpecial?_slot (name := Str.ofString "__next__") hT F.slot_enumerate_next
      (wpAny_call_entry F.slot_enumerate_next hT F.entry_enumerate_next ?_ (F.args_enumerate_next_1 _))))
    show wpAny _ _ (field (.ref e) 2 >>= _) _ _ _
    refine wpAny_bind (wpAny_field he rfl (x := .ref it) rfl ?_)
    refine wpAny_bind (RZ.nextOf_tuple_end (by exact I.ok.hd hc) hit p (by simp; omega) fun h' x he' hx' => ?_)
    obtain ⟨o, ho, hc⟩ := hx'
    refine wpAny_bind (wpAny_isInstance (T := "StopIteration") (b := true) ⟨o, ho, hc⟩ isSubtype_stop ?_)
    exact wpAny_pure ⟨rfl, I.turned (t' := s.toks) (fun b o hb q => he' b o hb q) f0 f1 f3 f4 f5⟩
  self := fun A i s Q E st h => let ⟨⟨_, he⟩, _⟩ := st; wpAny_pyIter_enum he h
def iEnumT (K : PySem.W.Frag) (ta : TA) : TI := fun σ H R => ta σ H fun vs H1 => ∃ a xs, vs = [.ref a] ∧ SqT K H1 a xs ∧ R (IteT K a) H1
theorem pi_enumT {X : Cx} {e : Expr} {ta : TA} {p pos tpos : Pos} {elts : List Expr} {kk : Nat} (hg : Gl X "enumerate") (hm : X.mg "enumerate" = none) (ha : PA X [e] ta) (hs : starEach [e] X.env = [(false, eval e X.env)]) :
    PI X (.Tuple elts kk tpos) (.Call (.Name "enumerate" p) [e] [] pos) (iEnumT X.K ta) := by
  refine ⟨fun pins s σ H R I h => ?_⟩
  refine Call_ (ld_blt I hg hm boot_enumerate (PyProof.Rows.callWith_type1 (thn (ha.run pos pins s σ H _ I h) fun us s1 ⟨vs, H1, I1, r1, q1⟩ => ?_) hs rfl))
  obtain ⟨a, xs, ex, hq, q⟩ := q1
  subst ex
  cases r1 with
  | cons r rr =>
    cases rr
    cases r
    obtain ⟨its, rv, p', hz⟩ := I1.tuple hq
    have p' : s1.heap.IsTuple a its.toArray := p'
    have hal : a < s1.heap.objs.size := by obtain ⟨_, q, _⟩ := p'; exact Heap.lt_size q
    refine call_enumerate_tuple p' fun h' he hit hsz hk => wpAny_pyIter_enum he ?_
    have I2 : Inv X pins σ H1 { s1 with heap := h' } := I1.kept (t' := s1.toks) hk
    refine ⟨s1.heap.objs.size + 1, [s1.heap.objs.size + 1, s1.heap.objs.size], _, _, H1, rfl, I2, turn_enumT a (s1.heap.objs.size + 1) s1.heap.objs.size (Nat.ne_of_lt (Nat.lt_succ_of_lt hal)) (Nat.ne_of_lt hal), ⟨⟨.none, he⟩, hit, Nat.succ_ne_self _⟩, fun b hb => ?_, q⟩
    have e' : b = s1.heap.objs.size + 1 ∨ b = s1.heap.objs.size := by simpa using hb
    have hle : s1.heap.objs.size ≤ b := by
      rcases e' with z | z
      · rw [z]; exact Nat.le_add_right _ _
      · rw [z]; exact Nat.le_refl _
    exact I1.fpOk hle (I1.hok.fresh hle)
/-- what is walked by value: a list or a tuple -/
def iSeq (K : PySem.W.Frag) (tl : TE) : TI := fun σ H R => tl σ H fun x H1 => ∃ a, x = .ref a ∧ ((∃ xs, SqL K H1 a xs) ∧ R (Itl K a) H1 ∨ (∃ xs, SqT K H1 a xs) ∧ R (Itt K a) H1)
theorem pi_seq {X : Cx} {tg l : Expr} {tl : TE} (hl : PE X l tl) : PI X tg l (iSeq X.K tl) := by
  refine ⟨fun pins s σ H R I h => ?_⟩
  refine thn (hl.run pins s σ H _ I h) fun v s1 ⟨x, H1, I1, r1, q1⟩ => ?_
  obtain ⟨a, e, q⟩ := q1
  subst e
  cases r1
  rcases q with ⟨⟨xs, hq⟩, q⟩ | ⟨⟨xs, hq⟩, q⟩
  · obtain ⟨its, rv, p, hz⟩ := I1.list hq
    refine wpAny_pyIter_list p.isList ?_
    refine ⟨s1.heap.objs.size, [s1.heap.objs.size], _, _, H1, rfl, I1.kept (t' := s1.toks) fun b o e => Heap.get?_push_of_some _ e, turn_list a _, ⟨_, Heap.get?_push_size _ rfl, rfl, rfl⟩, fun b hb => ?_, q⟩
    have e : b = s1.heap.objs.size := by simpa using hb
    subst e
    exact I1.fpOk (Nat.le_refl _) (I1.hok.fresh (Nat.le_refl _))
  · obtain ⟨its, rv, p, hz⟩ := I1.tuple hq
    refine wpAny_pyIter_tuple (show s1.heap.IsTuple a its.toArray from p) ?_
    refine ⟨s1.heap.objs.size, [s1.heap.objs.size], _, _, H1, rfl, I1.kept (t' := s1.toks) fun b o e => Heap.get?_push_of_some _ e, turn_tuple a _, ⟨_, Heap.get?_push_size _ rfl, rfl, rfl⟩, fun b hb => ?_, q⟩
    have e : b = s1.heap.objs.size := by simpa using hb
    subst e
    exact I1.fpOk (Nat.le_refl _) (I1.hok.fresh (Nat.le_refl _))
end Z
end
section
/-! ZSa: readings by plain data; how they are put together. -/
namespace Z
open PySem PySem.Spec PyProof.Rows L2

/-- where the program's things stand: its defs, its refusals -/
structure Lk where
  fa : Nat → Addr
  ca : Nat → Addr
/-- what is fixed for the whole law -/
structure Gl0 where
  K : PySem.W.Frag
  T : List (Addr × Str)
  L : Lk
/-- a refusal as the machine has it -/
def ExcR (g : Gl0) (ρ : List Addr) (H : Hp) (cls : Value) (dd : Option Addr) (k : Nat) (w : D) : Prop :=
  cls = .ref (g.L.ca k) ∧ ∃ d v, dd = some d ∧ H d = some (.xd [(("what" : Str), v)]) ∧ DV g.K ρ H v w
/-- what is asked behind an answer -/
def Fin {α : Type} (g : Gl0) (E : XK) (ρ : List Addr) (H : Hp) (r : R α) (ok : α → Sto → List Addr → Hp → Prop) : Prop :=
  match r with
  | .ok a S' => ∀ ρ' H', Ex ρ H ρ' H' → Rel g.K g.T S' ρ' H' → ok a S' ρ' H'
  | .exc k w S' => ∀ ρ' H' cls dd, Ex ρ H ρ' H' → Rel g.K g.T S' ρ' H' → ExcR g ρ' H' cls dd k w → E cls dd H'
  | .stuck => False
section
variable {g : Gl0} {E : XK} {ρ ρ1 : List Addr} {H H1 : Hp} {α β : Type} {S : Sto}
theorem Fin.ex {r : R α} {ok : α → Sto → List Addr → Hp → Prop} (e : Ex ρ H ρ1 H1) (h : Fin g E ρ H r ok) : Fin g E ρ1 H1 r ok := by
  cases r with
  | ok a S' => exact fun ρ' H' x r => h ρ' H' (e.trans x) r
  | exc k w S' => exact fun ρ' H' cls dd x r q => h ρ' H' cls dd (e.trans x) r q
  | stuck => exact h
theorem Fin.imp {r : R α} {ok ok' : α → Sto → List Addr → Hp → Prop} (h : Fin g E ρ H r ok) (i : ∀ a S' ρ' H', Ex ρ H ρ' H' → Rel g.K g.T S' ρ' H' → ok a S' ρ' H' → ok' a S' ρ' H') : Fin g E ρ H r ok' := by
  cases r with
  | ok a S' => exact fun ρ' H' x r => i a S' ρ' H' x r (h ρ' H' x r)
  | exc k w S' => exact h
  | stuck => exact h
/-- one thing behind another -/
theorem Fin.bd {m : M α} {f : α → M β} {ok : β → Sto → List Addr → Hp → Prop} (h : Fin g E ρ H (bd m f S) ok) : Fin g E ρ H (m S) fun a S1 ρ1 H1 => Fin g E ρ1 H1 (f a S1) ok := by
  unfold Z.bd at h
  cases q : m S with
  | ok a S1 =>
    rw [q] at h
    exact fun ρ1 H1 x r => Fin.ex x h
  | exc k w S1 =>
    rw [q] at h
    exact h
  | stuck =>
    rw [q] at h
    exact h
theorem Fin.ret {a : α} {ok : α → Sto → List Addr → Hp → Prop} (r : Rel g.K g.T S ρ H) (h : Fin g E ρ H (ret a S) ok) : ok a S ρ H := h ρ H (Ex.refl ρ H) r
theorem fin_if {c : Prop} [Decidable c] {r : R α} {ok : α → Sto → List Addr → Hp → Prop} (h : Fin g E ρ H (if c then r else R.stuck) ok) : c ∧ Fin g E ρ H r ok := by
  by_cases hc : c
  · rw [if_pos hc] at h
    exact ⟨hc, h⟩
  · rw [if_neg hc] at h
    exact h.elim
theorem Fin.now {a : α} {ok : α → Sto → List Addr → Hp → Prop} (r : Rel g.K g.T S ρ H) (h : Fin g E ρ H (R.ok a S) ok) : ok a S ρ H := h ρ H (Ex.refl ρ H) r
end

/-- the reading of an expression whose meaning is f -/
def tD (g : Gl0) (E : XK) (f : Env → M D) : TE := fun σ H Q => ∃ S ρ env, Rel g.K g.T S ρ H ∧ EnvR g.K ρ H σ env ∧ Fin g E ρ H (f env S) fun d _ ρ' H' => ∀ v, DV g.K ρ' H' v d → Q v H'
def tDs (g : Gl0) (E : XK) (f : Env → M (List D)) : TA := fun σ H Q => ∃ S ρ env, Rel g.K g.T S ρ H ∧ EnvR g.K ρ H σ env ∧ Fin g E ρ H (f env S) fun ds _ ρ' H' => ∀ vs, DVs g.K ρ' H' vs ds → Q vs H'
def tTst (g : Gl0) (E : XK) (f : Env → M Bool) : TT := fun σ H Q => ∃ S ρ env, Rel g.K g.T S ρ H ∧ EnvR g.K ρ H σ env ∧ Fin g E ρ H (f env S) fun b _ _ H' => Q b H'

theorem _root_.L2.PE.imp {X : Cx} {e : Expr} {t t' : TE} (h : PE X e t) (i : ∀ σ H Q, t' σ H Q → t σ H Q) : PE X e t' := ⟨fun pins s σ H Q I q => h.run pins s σ H Q I (i σ H Q q)⟩
theorem _root_.L2.PT.imp {X : Cx} {e : Expr} {t t' : TT} (h : PT X e t) (i : ∀ σ H Q, t' σ H Q → t σ H Q) : PT X e t' := ⟨fun pins s σ H Q I q => h.run pins s σ H Q I (i σ H Q q)⟩
theorem _root_.L2.PW.imp {X : Cx} {e : Expr} {t t' : TT} (h : PW X e t) (i : ∀ σ H Q, t' σ H Q → t σ H Q) : PW X e t' := ⟨fun wh pins s σ H Q I q => h.run wh pins s σ H Q I (i σ H Q q)⟩
theorem _root_.L2.PA.imp {X : Cx} {es : List Expr} {t t' : TA} (h : PA X es t) (i : ∀ σ H Q, t' σ H Q → t σ H Q) : PA X es t' := ⟨fun pos pins s σ H Q I q => h.run pos pins s σ H Q I (i σ H Q q)⟩
theorem _root_.L2.PS.imp {X : Cx} {st : Stmt} {t t' : TS} (h : PS X st t) (i : ∀ D σ H, t' D σ H → t D σ H) : PS X st t' := ⟨fun pins s σ H D I q => h.run pins s σ H D I (i D σ H q)⟩
theorem _root_.L2.PSs.imp {X : Cx} {st : List Stmt} {t t' : TS} (h : PSs X st t) (i : ∀ D σ H, t' D σ H → t D σ H) : PSs X st t' := ⟨fun pins s σ H D I q => h.run pins s σ H D I (i D σ H q)⟩

section
variable {g : Gl0} {E : XK} {X : Cx} {a b c : Expr} {fa fb fc : Env → M D} {pos : Pos}
/-- one operand -/
theorem tD_1 {k : D → M D} {σ : L2.St} {H : Hp} {Q : VK} {r : V → Hp → VK → Prop} (h : tD g E (fun env => bd (fa env) k) σ H Q)
    (i : ∀ (S : Sto) ρ H v d, Rel g.K g.T S ρ H → DV g.K ρ H v d → Fin g E ρ H (k d S) (fun d _ ρ' H' => ∀ v, DV g.K ρ' H' v d → Q v H') → r v H Q) : tD g E fa σ H fun v H1 => r v H1 Q := by
  obtain ⟨S, ρ, env, hr, he, h⟩ := h
  exact ⟨S, ρ, env, hr, he, h.bd.imp fun d S1 ρ1 H1 x r1 q v hv => i S1 ρ1 H1 v d r1 hv q⟩
/-- two operands -/
theorem tD_2 {k : D → D → M D} {σ : L2.St} {H : Hp} {Q : VK} {r : R2} (h : tD g E (fun env => bd (fa env) fun x => bd (fb env) fun y => k x y) σ H Q)
    (i : ∀ (S : Sto) ρ H v u x y, Rel g.K g.T S ρ H → DV g.K ρ H v x → DV g.K ρ H u y → Fin g E ρ H (k x y S) (fun d _ ρ' H' => ∀ v, DV g.K ρ' H' v d → Q v H') → r v u H Q) :
    tD g E fa σ H fun v H1 => tD g E fb σ H1 fun u H2 => r v u H2 Q := by
  obtain ⟨S, ρ, env, hr, he, h⟩ := h
  refine ⟨S, ρ, env, hr, he, h.bd.imp fun d S1 ρ1 H1 x r1 q v hv => ⟨S1, ρ1, env, r1, he.ex hr x, q.bd.imp fun d2 S2 ρ2 H2 x2 r2 q2 u hu => ?_⟩⟩
  exact i S2 ρ2 H2 v u d d2 r2 (hv.ex r1 x2) hu q2
theorem tDs_1 {fas : Env → M (List D)} {k : List D → M D} {σ : L2.St} {H : Hp} {Q : VK} {r : List V → Hp → VK → Prop} (h : tD g E (fun env => bd (fas env) k) σ H Q)
    (i : ∀ (S : Sto) ρ H vs ds, Rel g.K g.T S ρ H → DVs g.K ρ H vs ds → Fin g E ρ H (k ds S) (fun d _ ρ' H' => ∀ v, DV g.K ρ' H' v d → Q v H') → r vs H Q) : tDs g E fas σ H fun vs H1 => r vs H1 Q := by
  obtain ⟨S, ρ, env, hr, he, h⟩ := h
  exact ⟨S, ρ, env, hr, he, h.bd.imp fun ds S1 ρ1 H1 x r1 q vs hv => i S1 ρ1 H1 vs ds r1 hv q⟩
/-- an operation by data: what r asks of the values follows from what op says of the data -/
def OpD (g : Gl0) (r : R2) (op : D → D → M D) : Prop := ∀ (E : XK) (S : Sto) ρ H v u x y Q, Rel g.K g.T S ρ H → DV g.K ρ H v x → DV g.K ρ H u y → Fin g E ρ H (op x y S) (fun d _ ρ' H' => ∀ v, DV g.K ρ' H' v d → Q v H') → r v u H Q
theorem de_bin {op : Operator} {r : R2} {k : D → D → M D} (ho : OpR X (binaryOp op) r) (hd : OpD g r k) (ha : PE X a (tD g E fa)) (hb : PE X b (tD g E fb)) :
    PE X (.BinOp a op b pos) (tD g E fun env => bd (fa env) fun x => bd (fb env) fun y => k x y) :=
  (pe_op ho ha hb).imp fun σ H Q h => tD_2 h fun S ρ H v u x y r1 hv hu q => hd E S ρ H v u x y Q r1 hv hu q
/-- names, constants -/
theorem de_var {i : Nat} {x : Str} (hN : X.N[i]? = some x) (hv : Vis X.env.scope x) (hd : (x == ("__debug__" : Str)) = false) (hcd : (x == ("__classdict__" : Str)) = false) :
    PE X (.Name x pos) (tD g E fun env => match env[i]? with | some (some d) => ret d | _ => stuck) :=
  (pe_var (i := i) hN hv hd hcd).imp fun σ H Q ⟨S, ρ, env, hr, he, h⟩ => by
    cases q : env[i]? with
    | none => simp only [q] at h; exact h.elim
    | some o =>
      cases o with
      | none => simp only [q] at h; exact h.elim
      | some d =>
        simp only [q] at h
        obtain ⟨v, e1, e2⟩ := he.get i d q
        exact ⟨v, e1, h.ret hr v e2⟩
theorem de_const {e : Expr} {v : V} {d : D} (h : PE X e (tC v)) (hd : ∀ ρ H, DV g.K ρ H v d) : PE X e (tD g E fun _ => ret d) :=
  h.imp fun σ H Q ⟨S, ρ, env, hr, he, h⟩ => h.ret hr v (hd ρ H)
/-- a list of arguments -/
theorem da_nil : PA X [] (tDs g E fun _ => ret []) := pa_nil.imp fun σ H Q ⟨S, ρ, env, hr, he, h⟩ => h.ret hr [] .nil
theorem da_cons {e : Expr} {es : List Expr} {f : Env → M D} {fs : Env → M (List D)} (h1 : PE X e (tD g E f)) (h2 : PA X es (tDs g E fs)) (hs : starEach (e :: es) X.env = (false, eval e X.env) :: starEach es X.env) :
    PA X (e :: es) (tDs g E fun env => bd (f env) fun x => bd (fs env) fun xs => ret (x :: xs)) :=
  (pa_cons h1 h2 hs).imp fun σ H Q ⟨S, ρ, env, hr, he, h⟩ => by
    refine ⟨S, ρ, env, hr, he, h.bd.imp fun d S1 ρ1 H1 x r1 q v hv => ⟨S1, ρ1, env, r1, he.ex hr x, q.bd.imp fun ds S2 ρ2 H2 x2 r2 q2 vs hvs => ?_⟩⟩
    exact q2.ret r2 (v :: vs) (.cons (hv.ex r1 x2) hvs)
/-- displays -/
theorem fin_newT {ρ : List Addr} {H : Hp} {S : Sto} {vs : List V} {ds : List D} {Q : VK} (r : Rel g.K g.T S ρ H) (h : DVs g.K ρ H vs ds) (q : Fin g E ρ H (newT ds S) fun d _ ρ' H' => ∀ v, DV g.K ρ' H' v d → Q v H') :
    vs.length ≤ sizeLine ∧ ∀ p, H p = none → Q (.ref p) (upd H p (.tup vs)) := by
  unfold newT at q
  split at q
  · rename_i hz
    exact ⟨by rw [h.length]; exact hz, fun p hp => q ρ _ (Ex.new hp) (r.new hp) _ (tup_new r hp h)⟩
  · exact q.elim
theorem fin_new {ρ : List Addr} {H : Hp} {S : Sto} {vs : List V} {ds : List D} {Q : VK} (r : Rel g.K g.T S ρ H) (h : DVs g.K ρ H vs ds) (q : Fin g E ρ H (new ds S) fun d _ ρ' H' => ∀ v, DV g.K ρ' H' v d → Q v H') :
    vs.length ≤ sizeLine ∧ ∀ p, H p = none → Q (.ref p) (upd H p (.lst vs)) := by
  unfold new at q
  split at q
  · rename_i hz
    exact ⟨by rw [h.length]; exact hz, fun p hp => q (ρ ++ [p]) _ (Ex.alloc hp) (r.alloc hp h hz) _ (alloc_loc r)⟩
  · exact q.elim
theorem de_tup {es : List Expr} {fs : Env → M (List D)} {x1 : Nat} (h : PA X es (tDs g E fs)) : PE X (.Tuple es x1 pos) (tD g E fun env => bd (fs env) fun ds => newT ds) :=
  (pe_tup h).imp fun σ H Q h => tDs_1 (r := fun xs H1 Q => xs.length ≤ sizeLine ∧ ∀ p, H1 p = none → Q (.ref p) (upd H1 p (.tup xs))) h fun S ρ H vs ds r1 hv q => fin_newT r1 hv q
theorem de_lst {es : List Expr} {fs : Env → M (List D)} (h : PA X es (tDs g E fs)) : PE X (.List es pos) (tD g E fun env => bd (fs env) fun ds => new ds) :=
  (pe_lst h).imp fun σ H Q h => tDs_1 (r := fun xs H1 Q => xs.length ≤ sizeLine ∧ ∀ p, H1 p = none → Q (.ref p) (upd H1 p (.lst xs))) h fun S ρ H vs ds r1 hv q => fin_new r1 hv q
/-- -a -/
theorem de_neg (ha : PE X a (tD g E fa)) : PE X (.UnaryOp .USub a pos) (tD g E fun env => bd (fa env) fun x => match x with | .int i => ret (.int (-i)) | _ => stuck) :=
  (pe_un un_neg ha).imp fun σ H Q h => tD_1 (r := rU fun i => .int (-i)) h fun S ρ H v d r1 hv q => by
    cases hv with
    | int i => exact ⟨i, rfl, q.ret r1 _ (.int _)⟩
    | _ => exact q.elim
/-- not a, as a value -/
theorem de_not (ha : PE X a (tD g E fa)) : PE X (.UnaryOp .Not a pos) (tD g E fun env => bd (fa env) fun x => match x with | .bl b => ret (.bl (!b)) | _ => stuck) :=
  (pe_not ha).imp fun σ H Q h => tD_1 (r := fun x H1 Q => ∃ c, x = .bl c ∧ Q (.bl (!c)) H1) h fun S ρ H v d r1 hv q => by
    cases hv with
    | bl b => exact ⟨b, rfl, q.ret r1 _ (.bl _)⟩
    | _ => exact q.elim
/-- a and .., a or .., as values -/
theorem de_and1 {op : BoolOp} (ha : PE X a (tD g E fa)) : PE X (.BoolOp op [a] pos) (tD g E fa) := pe_one ha
theorem de_and {rest : List Expr} (ha : PE X a (tD g E fa)) (hb : PE X (.BoolOp .And (b :: rest) pos) (tD g E fb)) : PE X (.BoolOp .And (a :: b :: rest) pos) (tD g E fun env => bd (fa env) fun x => match x with
    | .bl true => fb env
    | .bl false => ret (.bl false)
    | _ => stuck) :=
  (pe_and ha hb).imp fun σ H Q ⟨S, ρ, env, hr, he, h⟩ => by
    refine ⟨S, ρ, env, hr, he, h.bd.imp fun d S1 ρ1 H1 x r1 q v hv => ?_⟩
    cases hv with
    | bl k =>
      refine ⟨k, rfl, ?_⟩
      cases k with
      | true => exact ⟨S1, ρ1, env, r1, he.ex hr x, q⟩
      | false => exact q.ret r1 _ (.bl _)
    | _ => exact q.elim
theorem de_or {rest : List Expr} (ha : PE X a (tD g E fa)) (hb : PE X (.BoolOp .Or (b :: rest) pos) (tD g E fb)) : PE X (.BoolOp .Or (a :: b :: rest) pos) (tD g E fun env => bd (fa env) fun x => match x with
    | .bl true => ret (.bl true)
    | .bl false => fb env
    | _ => stuck) :=
  (pe_or ha hb).imp fun σ H Q ⟨S, ρ, env, hr, he, h⟩ => by
    refine ⟨S, ρ, env, hr, he, h.bd.imp fun d S1 ρ1 H1 x r1 q v hv => ?_⟩
    cases hv with
    | bl k =>
      refine ⟨k, rfl, ?_⟩
      cases k with
      | true => exact q.ret r1 _ (.bl _)
      | false => exact ⟨S1, ρ1, env, r1, he.ex hr x, q⟩
    | _ => exact q.elim
/-- a comparison by data -/
def OpB (g : Gl0) (r : R2) (op : D → D → M Bool) : Prop := ∀ (E : XK) (S : Sto) ρ H v u x y Q, Rel g.K g.T S ρ H → DV g.K ρ H v x → DV g.K ρ H u y → Fin g E ρ H (op x y S) (fun b _ _ H' => Q (.bl b) H') → r v u H Q
theorem OpB.opD {r : R2} {k : D → D → M Bool} (h : OpB g r k) : OpD g r fun x y => bd (k x y) fun b => ret (.bl b) := fun E S ρ H v u x y Q r1 hv hu q =>
  h E S ρ H v u x y Q r1 hv hu (q.bd.imp fun b S1 ρ1 H1 x1 r2 q2 => q2.ret r2 _ (.bl b))
theorem de_cmp {op : CmpOp} {r : R2} {k : D → D → M Bool} (ho : OpR X (compareOp op) r) (hd : OpB g r k) (ha : PE X a (tD g E fa)) (hb : PE X b (tD g E fb)) (hm : behindInMarks op b = false) :
    PE X (.Compare a [op] [b] pos) (tD g E fun env => bd (fa env) fun x => bd (fb env) fun y => bd (k x y) fun b => ret (.bl b)) :=
  (pe_cmpR ho ha hb hm).imp fun σ H Q h => tD_2 h fun S ρ H v u x y r1 hv hu q => hd.opD E S ρ H v u x y Q r1 hv hu q
theorem dt_cmp {op : CmpOp} {r : R2} {k : D → D → M Bool} (ho : OpR X (compareOp op) r) (hd : OpB g r k) (ha : PE X a (tD g E fa)) (hb : PE X b (tD g E fb)) (hm : behindInMarks op b = false) :
    PT X (.Compare a [op] [b] pos) (tTst g E fun env => bd (bd (fa env) fun x => bd (fb env) fun y => bd (k x y) fun b => ret (.bl b)) truth) :=
  (pt_cmpR ho ha hb hm).imp fun σ H Q ⟨S, ρ, env, hr, he, h⟩ => by
    refine ⟨S, ρ, env, hr, he, h.bd.bd.imp fun d S1 ρ1 H1 x r1 q v hv => ⟨S1, ρ1, env, r1, he.ex hr x, q.bd.imp fun d2 S2 ρ2 H2 x2 r2 q2 u hu => ?_⟩⟩
    refine hd E S2 ρ2 H2 v u d d2 _ r2 (hv.ex r1 x2) hu (q2.bd.imp fun b S3 ρ3 H3 x3 r3 q3 => ⟨b, rfl, ?_⟩)
    exact (q3.ret r3).ret r3
/-- a < b < c -/
theorem de_chain {op op' : CmpOp} {r r' : R2} {k k' : D → D → M Bool} (ho : OpR X (compareOp op) r) (hd : OpB g r k) (ho' : OpR X (compareOp op') r') (hd' : OpB g r' k') (ha : PE X a (tD g E fa)) (hb : PE X b (tD g E fb)) (hc : PE X c (tD g E fc)) (hm : lastMarks [op, op'] [b, c] = false) :
    PE X (.Compare a [op, op'] [b, c] pos) (tD g E fun env => bd (fa env) fun x => bd (fb env) fun y => bd (k x y) fun z => if z = true then bd (fc env) fun u => bd (k' y u) fun b => ret (.bl b) else ret (.bl false)) :=
  (pe_chain ho ho' ha hb hc hm).imp fun σ H Q ⟨S, ρ, env, hr, he, h⟩ => by
    refine ⟨S, ρ, env, hr, he, h.bd.imp fun d S1 ρ1 H1 x r1 q v hv => ⟨S1, ρ1, env, r1, he.ex hr x, q.bd.imp fun d2 S2 ρ2 H2 x2 r2 q2 u hu => ?_⟩⟩
    refine hd E S2 ρ2 H2 v u d d2 _ r2 (hv.ex r1 x2) hu (q2.bd.imp fun kk S3 ρ3 H3 x3 r3 q3 => ⟨kk, rfl, ?_⟩)
    cases kk with
    | true =>
      rw [if_pos rfl]
      refine ⟨S3, ρ3, env, r3, ((he.ex hr x).ex r1 x2).ex r2 x3, Fin.imp (Fin.bd q3) fun d4 S4 ρ4 H4 x4 r4 q4 w hw => ?_⟩
      exact hd'.opD E S4 ρ4 H4 u w d2 d4 Q r4 ((hu.ex r2 x3).ex r3 x4) hw q4
    | false =>
      rw [if_neg Bool.false_ne_true]
      exact Fin.ret r3 q3 _ (.bl _)
theorem dt_chain {op op' : CmpOp} {r r' : R2} {k k' : D → D → M Bool} (ho : OpR X (compareOp op) r) (hd : OpB g r k) (ho' : OpR X (compareOp op') r') (hd' : OpB g r' k') (ha : PE X a (tD g E fa)) (hb : PE X b (tD g E fb)) (hc : PE X c (tD g E fc)) (hm : lastMarks [op, op'] [b, c] = false) :
    PT X (.Compare a [op, op'] [b, c] pos) (tTst g E fun env => bd (bd (fa env) fun x => bd (fb env) fun y => bd (k x y) fun z => if z = true then bd (fc env) fun u => bd (k' y u) fun b => ret (.bl b) else ret (.bl false)) truth) :=
  (pt_chain ho ho' ha hb hc hm).imp fun σ H Q ⟨S, ρ, env, hr, he, h⟩ => by
    refine ⟨S, ρ, env, hr, he, h.bd.bd.imp fun d S1 ρ1 H1 x r1 q v hv => ⟨S1, ρ1, env, r1, he.ex hr x, q.bd.imp fun d2 S2 ρ2 H2 x2 r2 q2 u hu => ?_⟩⟩
    refine hd E S2 ρ2 H2 v u d d2 _ r2 (hv.ex r1 x2) hu (q2.bd.imp fun kk S3 ρ3 H3 x3 r3 q3 => ⟨kk, rfl, ?_⟩)
    cases kk with
    | true =>
      rw [if_pos rfl]
      refine ⟨S3, ρ3, env, r3, ((he.ex hr x).ex r1 x2).ex r2 x3, Fin.imp (Fin.bd q3) fun d4 S4 ρ4 H4 x4 r4 q4 w hw => ?_⟩
      refine hd' E S4 ρ4 H4 u w d2 d4 _ r4 ((hu.ex r2 x3).ex r3 x4) hw (Fin.imp (Fin.bd q4) fun b S5 ρ5 H5 x5 r5 q5 => ⟨b, rfl, ?_⟩)
      exact Fin.ret r5 (Fin.ret r5 q5)
    | false =>
      rw [if_neg Bool.false_ne_true]
      exact ⟨false, rfl, Fin.ret r3 (Fin.ret r3 q3)⟩
/-- a if t else b -/
theorem de_ite {t : Expr} {ft : Env → M Bool} (ht : PT X t (tTst g E ft)) (ha : PE X a (tD g E fa)) (hb : PE X b (tD g E fb)) : PE X (.IfExp t a b pos) (tD g E fun env => bd (ft env) fun c => if c = true then fa env else fb env) :=
  (pe_ifExp ht ha hb).imp fun σ H Q ⟨S, ρ, env, hr, he, h⟩ => by
    refine ⟨S, ρ, env, hr, he, h.bd.imp fun c S1 ρ1 H1 x r1 q => ?_⟩
    cases c with
    | true => exact ⟨S1, ρ1, env, r1, he.ex hr x, q⟩
    | false => exact ⟨S1, ρ1, env, r1, he.ex hr x, q⟩
/-- tests -/
theorem dt_not {ft : Env → M Bool} (h : PT X a (tTst g E ft)) : PT X (.UnaryOp .Not a pos) (tTst g E fun env => bd (ft env) fun b => ret (!b)) :=
  (pt_not h).imp fun σ H Q ⟨S, ρ, env, hr, he, h⟩ => ⟨S, ρ, env, hr, he, h.bd.imp fun c S1 ρ1 H1 x r1 q => q.ret r1⟩
theorem dt_and1 {ft : Env → M Bool} (h : PT X a (tTst g E ft)) : PW X (.BoolOp .And [a] pos) (tTst g E ft) := pw_and1 h
theorem dt_or1 {ft : Env → M Bool} (h : PT X a (tTst g E ft)) : PW X (.BoolOp .Or [a] pos) (tTst g E ft) := pw_or1 h
theorem dt_and {rest : List Expr} {ft fu : Env → M Bool} (h : PT X a (tTst g E ft)) (hb : PW X (.BoolOp .And (b :: rest) pos) (tTst g E fu)) : PW X (.BoolOp .And (a :: b :: rest) pos) (tTst g E fun env => bd (ft env) fun c => if c = true then fu env else ret false) :=
  (pw_and h hb).imp fun σ H Q ⟨S, ρ, env, hr, he, h⟩ => by
    refine ⟨S, ρ, env, hr, he, h.bd.imp fun c S1 ρ1 H1 x r1 q => ?_⟩
    cases c with
    | true => exact ⟨S1, ρ1, env, r1, he.ex hr x, q⟩
    | false => exact q.ret r1
theorem dt_or {rest : List Expr} {ft fu : Env → M Bool} (h : PT X a (tTst g E ft)) (hb : PW X (.BoolOp .Or (b :: rest) pos) (tTst g E fu)) : PW X (.BoolOp .Or (a :: b :: rest) pos) (tTst g E fun env => bd (ft env) fun c => if c = true then ret true else fu env) :=
  (pw_or h hb).imp fun σ H Q ⟨S, ρ, env, hr, he, h⟩ => by
    refine ⟨S, ρ, env, hr, he, h.bd.imp fun c S1 ρ1 H1 x r1 q => ?_⟩
    cases c with
    | true => exact q.ret r1
    | false => exact ⟨S1, ρ1, env, r1, he.ex hr x, q⟩
/-- the truth of a value -/
theorem fin_truth {ρ : List Addr} {H : Hp} {S : Sto} {v : V} {d : D} {Q : Bool → Hp → Prop} (r : Rel g.K g.T S ρ H) (hv : DV g.K ρ H v d) (q : Fin g E ρ H (truth d S) fun b _ _ H' => Q b H') : ∃ k, TruV g.K v H k ∧ Q k H := by
  cases hv with
  | non => exact ⟨_, rfl, q.ret r⟩
  | bl b => exact ⟨_, rfl, q.ret r⟩
  | int i => exact ⟨_, rfl, q.ret r⟩
  | str x =>
    unfold truth at q
    dsimp only at q
    split at q
    · rename_i hz
      exact ⟨_, ⟨hz, rfl⟩, q.now r⟩
    · exact q.elim
  | tup hq t => exact ⟨_, .inr (.inl ⟨_, hq, rfl⟩), by
      have q' := q.ret r
      cases t <;> exact q'⟩
  | ro hq t => exact ⟨_, .inl ⟨_, hq.sq, rfl⟩, by
      have q' := q.ret r
      cases t <;> exact q'⟩
  | loc hl =>
    unfold truth Z.bd getL at q
    dsimp only at q
    rename_i a l
    cases hs : S[l]? with
    | none => rw [hs] at q; exact q.elim
    | some o =>
      cases o with
      | lst ds =>
        rw [hs] at q
        obtain ⟨a', xs, e1, e2, t, _⟩ := r.lst hs
        rw [hl] at e1
        cases e1
        exact ⟨_, .inl ⟨_, SqL.of e2, rfl⟩, by
          have q' := q.ret r
          cases t <;> exact q'⟩
theorem dt_val {e : Expr} {f : Env → M D} (hK : X.K = g.K) (h : PE X e (tD g E f)) (he : ∀ (whole : Sem Value), isTrue e X.env whole = (do let v ← whole; standAt e.pos; holding [v] (truthy v))) : PT X e (tTst g E fun env => bd (f env) truth) :=
  (pt_truth h he).imp fun σ H Q ⟨S, ρ, env, hr, he, h⟩ => ⟨S, ρ, env, hr, he, h.bd.imp fun d S1 ρ1 H1 x r1 q v hv => by
    rw [hK]
    exact fin_truth r1 hv q⟩
end
end Z
end
section
/-! ZSb: operators, comparisons, built-ins by data. -/
namespace Z
open PySem PySem.Spec PyProof.Rows L2
section
variable {g : Gl0} {E : XK} {X : Cx} {ρ : List Addr} {H : Hp} {S : Sto} {α : Type}
/-- a list of the store is read -/
theorem fin_getL {l : Nat} {a : Addr} {f : List D → M α} {ok : α → Sto → List Addr → Hp → Prop} (r : Rel g.K g.T S ρ H) (hl : ρ[l]? = some a) (q : Fin g E ρ H (bd (getL l) f S) ok) :
    ∃ xs ds, H a = some (.lst xs) ∧ DVs g.K ρ H xs ds ∧ ds.length ≤ sizeLine ∧ S[l]? = some (.lst ds) ∧ Fin g E ρ H (f ds S) ok := by
  unfold bd getL at q
  cases hs : S[l]? with
  | none => rw [hs] at q; exact q.elim
  | some o =>
    cases o with
    | lst ds =>
      rw [hs] at q
      obtain ⟨a', xs, e1, e2, t, z⟩ := r.lst hs
      rw [hl] at e1
      cases e1
      exact ⟨xs, ds, e2, t, z, rfl, q⟩
/-- a list of the store is written -/
theorem fin_putL {l : Nat} {a : Addr} {ys : List V} {ds : List D} {f : Unit → M α} {ok : α → Sto → List Addr → Hp → Prop} (r : Rel g.K g.T S ρ H) (hl : ρ[l]? = some a) (h : DVs g.K ρ H ys ds) (q : Fin g E ρ H (bd (putL l ds) f S) ok) :
    ds.length ≤ sizeLine ∧ Rel g.K g.T (S.set l (.lst ds)) ρ (upd H a (.lst ys)) ∧ Ex ρ H ρ (upd H a (.lst ys)) ∧ Fin g E ρ (upd H a (.lst ys)) (f () (S.set l (.lst ds))) ok := by
  unfold bd putL at q
  cases hs : S[l]? with
  | none => rw [hs] at q; exact q.elim
  | some o =>
    cases o with
    | lst d0 =>
      rw [hs] at q
      dsimp only at q
      by_cases hz : ds.length ≤ line
      · rw [if_pos hz] at q
        exact ⟨hz, r.write hl h hz, Ex.write hl, q.ex (Ex.write hl)⟩
      · rw [if_neg hz] at q
        exact q.elim
/-- what may be walked -/
theorem fin_items {v : V} {d : D} {f : List D → M α} {ok : α → Sto → List Addr → Hp → Prop} (r : Rel g.K g.T S ρ H) (hv : DV g.K ρ H v d) (q : Fin g E ρ H (bd (items d) f S) ok) :
    ∃ a xs ds, v = .ref a ∧ (SqL g.K H a xs ∨ SqT g.K H a xs) ∧ DVs g.K ρ H xs ds ∧ Fin g E ρ H (f ds S) ok := by
  cases hv with
  | tup h t => exact ⟨_, _, _, rfl, .inr h, t, q⟩
  | ro h t => exact ⟨_, _, _, rfl, .inl h.sq, t, q⟩
  | loc hl =>
    obtain ⟨xs, ds, e1, t, z, _, q⟩ := fin_getL (f := f) r hl q
    exact ⟨_, _, _, rfl, .inl (SqL.of e1), t, q⟩
  | _ => exact q.elim

/-! ### arithmetic -/
def rAdd2 (K : PySem.W.Frag) : R2 := fun x y H Q => rI0 (fun i j => .int (i + j)) x y H Q ∨ (∃ i k, x = .int i ∧ y = .bl k ∧ Q (.int (i + b2i k)) H) ∨ (∃ i j, x = .str i ∧ y = .str j ∧ i.length + j.length ≤ sizeLine ∧ Q (.str (i ++ j)) H) ∨ rCatA K x y H Q ∨ rCat x y H Q
theorem or_add (hK : X.K = g.K) : OpR X (binaryOp .Add) (rAdd2 g.K) := by
  have h : OpR X (binaryOp .Add) (rCatA g.K) := hK ▸ op_catA
  exact op_add.or (op_add_ib.or (op_add_str.or (h.or op_cat)))
theorem b2_eq (b : Bool) : b2 b = b2i b := by cases b <;> rfl
theorem od_add : OpD g (rAdd2 g.K) (binop .add) := by
  intro E S ρ H v u x y Q r hv hu q
  cases hv with
  | int i =>
    cases hu with
    | int j => exact .inl ⟨i, j, rfl, rfl, q.ret r _ (.int _)⟩
    | bl b => exact .inr (.inl ⟨i, b, rfl, rfl, by rw [← b2_eq]; exact q.ret r _ (.int _)⟩)
    | _ => exact q.elim
  | str i =>
    cases hu with
    | str j =>
      obtain ⟨hz, q⟩ := fin_if q
      exact .inr (.inr (.inl ⟨i, j, rfl, rfl, hz, q.now r _ (.str _)⟩))
    | _ => exact q.elim
  | tup h t =>
    cases hu with
    | tup h' t' =>
      obtain ⟨hz, q⟩ := fin_if q
      refine .inr (.inr (.inr (.inl ⟨_, _, _, _, rfl, rfl, h, h', ?_, fun e => ?_, fun _ e => ?_, fun _ _ p hp => ?_⟩)))
      · rw [t.length, t'.length, ← List.length_append]; exact hz
      · have e' := t.nil_iff.mp e
        subst e'
        exact q.now r _ (.tup h' t')
      · have e' := t'.nil_iff.mp e
        subst e'
        exact q.now r _ (by rw [List.append_nil]; exact .tup h t)
      · exact q ρ _ (Ex.new hp) (r.new hp) _ (tup_new r hp (t.app t'))
    | _ => exact q.elim
  | loc hl =>
    cases hu with
    | loc hl' =>
      obtain ⟨xs, ds, e1, t, z, _, q⟩ := fin_getL r hl q
      obtain ⟨ys, es, e2, t', z', _, q⟩ := fin_getL r hl' q
      obtain ⟨h1, h2⟩ := fin_new r (t.app t') q
      exact .inr (.inr (.inr (.inr ⟨_, _, xs, ys, rfl, rfl, e1, e2, by rw [← List.length_append]; exact h1, h2⟩)))
    | _ => exact q.elim
  | _ => cases hu <;> exact q.elim
theorem od_sub : OpD g (rI0 fun i j => .int (i - j)) (binop .sub) := by
  intro E S ρ H v u x y Q r hv hu q
  cases hv with
  | int i =>
    cases hu with
    | int j => exact ⟨i, j, rfl, rfl, q.ret r _ (.int _)⟩
    | _ => exact q.elim
  | _ => cases hu <;> exact q.elim
def rMul2 (K : PySem.W.Frag) : R2 := fun x y H Q => rI CMulW (fun i j => .int (i * j)) x y H Q ∨ rRepT K x y H Q ∨ rRep x y H Q ∨ rRep1 K x y H Q
theorem or_mul (hK : X.K = g.K) : OpR X (binaryOp .Mult) (rMul2 g.K) := by
  have h : OpR X (binaryOp .Mult) (rRepT g.K) := hK ▸ op_repT
  have h1 : OpR X (binaryOp .Mult) (rRep1 g.K) := hK ▸ op_rep1
  exact op_mulW.or (h.or (op_rep.or h1))
theorem od_mul : OpD g (rMul2 g.K) (binop .mul) := by
  intro E S ρ H v u x y Q r hv hu q
  cases hv with
  | int i =>
    cases hu with
    | int j =>
      obtain ⟨hz, q⟩ := fin_if q
      exact .inl ⟨i, j, rfl, rfl, hz, q.now r _ (.int _)⟩
    | _ => exact q.elim
  | tup h t =>
    cases hu with
    | int j =>
      obtain ⟨hz, q⟩ := fin_if q
      by_cases j1 : j = 1
      · subst j1
        refine .inr (.inr (.inr ⟨_, _, rfl, rfl, h, fun e => hz.1 (t.nil_iff.mp e), ?_⟩))
        exact q.now r _ (by simpa using DV.tup h t)
      · refine .inr (.inl ⟨_, j, _, rfl, rfl, h, fun e => hz.1 (t.nil_iff.mp e), by omega, hz.2.2.1, by rw [t.length]; exact hz.2.2.2, fun p hp => ?_⟩)
        exact q ρ _ (Ex.new hp) (r.new hp) _ (tup_new r hp (t.rep _))
    | _ => exact q.elim
  | loc hl =>
    cases hu with
    | int j =>
      obtain ⟨xs, ds, e1, t, z, _, q⟩ := fin_getL r hl q
      obtain ⟨hz, q⟩ := fin_if q
      obtain ⟨h1, h2⟩ := fin_new r (t.rep _) q
      exact .inr (.inr (.inl ⟨_, j, xs, rfl, rfl, e1, hz.1, hz.2.1, by rw [t.length]; exact hz.2.2, h2⟩))
    | _ => exact q.elim
  | _ => cases hu <;> exact q.elim
theorem od_div : OpD g (rI CDivW fun i j => .int (i / j)) (binop .div) := by
  intro E S ρ H v u x y Q r hv hu q
  cases hv with
  | int i =>
    cases hu with
    | int j =>
      obtain ⟨hz, q⟩ := fin_if q
      exact ⟨i, j, rfl, rfl, hz, q.now r _ (.int _)⟩
    | _ => exact q.elim
  | _ => cases hu <;> exact q.elim
theorem od_mod : OpD g (rI (fun _ j => 0 < j) fun i j => .int (i % j)) (binop .mod) := by
  intro E S ρ H v u x y Q r hv hu q
  cases hv with
  | int i =>
    cases hu with
    | int j =>
      obtain ⟨hz, q⟩ := fin_if q
      exact ⟨i, j, rfl, rfl, hz, q.now r _ (.int _)⟩
    | _ => exact q.elim
  | _ => cases hu <;> exact q.elim
theorem od_pow : OpD g (rI CPow fun i j => .int (i ^ j.toNat)) (binop .pow) := by
  intro E S ρ H v u x y Q r hv hu q
  cases hv with
  | int i =>
    cases hu with
    | int j =>
      obtain ⟨hz, q⟩ := fin_if q
      exact ⟨i, j, rfl, rfl, hz, q.now r _ (.int _)⟩
    | _ => exact q.elim
  | _ => cases hu <;> exact q.elim

/-! ### comparisons -/
theorem ob_int {p : Int → Int → Bool} {k : D → D → M Bool} (h : ∀ i j, k (.int i) (.int j) = ret (p i j)) (h0 : ∀ x y, (∀ i j, ¬ (x = .int i ∧ y = .int j)) → k x y = stuck) : OpB g (rI0 fun i j => .bl (p i j)) k := by
  intro E S ρ H v u x y Q r hv hu q
  by_cases e : ∃ i j, x = .int i ∧ y = .int j
  · obtain ⟨i, j, rfl, rfl⟩ := e
    cases hv
    cases hu
    rw [h] at q
    exact ⟨i, j, rfl, rfl, q.ret r⟩
  · rw [h0 x y fun i j z => e ⟨i, j, z⟩] at q
    exact q.elim
theorem ob_lt : OpB g (rI0 fun i j => .bl (decide (i < j))) (cmpB .lt) := ob_int (fun _ _ => rfl) fun x y h => by cases x <;> cases y <;> first | rfl | exact (h _ _ ⟨rfl, rfl⟩).elim
theorem ob_le : OpB g (rI0 fun i j => .bl (decide (i ≤ j))) (cmpB .le) := ob_int (fun _ _ => rfl) fun x y h => by cases x <;> cases y <;> first | rfl | exact (h _ _ ⟨rfl, rfl⟩).elim
theorem ob_gt : OpB g (rI0 fun i j => .bl (decide (j < i))) (cmpB .gt) := ob_int (fun _ _ => rfl) fun x y h => by cases x <;> cases y <;> first | rfl | exact (h _ _ ⟨rfl, rfl⟩).elim
theorem ob_ge : OpB g (rI0 fun i j => .bl (decide (j ≤ i))) (cmpB .ge) := ob_int (fun _ _ => rfl) fun x y h => by cases x <;> cases y <;> first | rfl | exact (h _ _ ⟨rfl, rfl⟩).elim
theorem non_iff {v : V} {d : D} (h : DV g.K ρ H v d) : decide (v = .non) = isNon d := by cases h <;> rfl
theorem ob_is : OpB g (fun x y H Q => (y = .non ∧ Q (.bl (decide (x = .non))) H) ∨ rIsB x y H Q) (cmpB .is) := by
  intro E S ρ H v u x y Q r hv hu q
  cases hu with
  | non =>
    refine .inl ⟨rfl, ?_⟩
    rw [non_iff hv]
    exact q.ret r
  | bl b =>
    cases hv with
    | bl a =>
      refine .inr ⟨a, b, rfl, rfl, ?_⟩
      have e : decide (a = b) = (a == b) := by cases a <;> cases b <;> rfl
      rw [e]
      exact q.ret r
    | _ => exact q.elim
  | _ => cases hv <;> exact q.elim
theorem ob_isnot : OpB g (fun x y H Q => y = .non ∧ Q (.bl (!decide (x = .non))) H) (cmpB .isnot) := by
  intro E S ρ H v u x y Q r hv hu q
  cases hu with
  | non =>
    refine ⟨rfl, ?_⟩
    rw [non_iff hv]
    exact q.ret r
  | _ => cases hv <;> exact q.elim
theorem flat_iff {v : V} {d : D} (h : DV g.K ρ H v d) : flatV v = flat d := by cases h <;> rfl
theorem flat_all : ∀ {vs : List V} {ds : List D}, DVs g.K ρ H vs ds → vs.all flatV = ds.all flat
  | _, _, .nil => rfl
  | _, _, .cons h t => by rw [List.all_cons, List.all_cons, flat_iff h, flat_all t]
theorem eqF_iff {v u : V} {x y : D} (h : DV g.K ρ H v x) (h' : DV g.K ρ H u y) : eqV v u = eqF x y := by cases h <;> cases h' <;> rfl
theorem mem_iff {v : V} {x : D} (h : DV g.K ρ H v x) : ∀ {vs : List V} {ds : List D}, DVs g.K ρ H vs ds → inV v vs = memF x ds
  | _, _, .nil => rfl
  | _, _, .cons a t => by
    have := mem_iff h t
    unfold inV memF at *
    rw [List.any_cons, List.any_cons, eqF_iff a h, this]
theorem ob_in : OpB g (rIn g.K false) (cmpB .isin) := by
  intro E S ρ H v u x y Q r hv hu q
  have q' : Fin g E ρ H (bd (items y) (fun l => fun S => if flat x && l.all flat then .ok (memF x l) S else .stuck) S) (fun b _ _ H' => Q (.bl b) H') := by
    cases y <;> first | exact q | exact q.elim
  obtain ⟨a, xs, ds, rfl, h, t, q⟩ := fin_items r hu q'
  obtain ⟨hz, q⟩ := fin_if q
  rw [Bool.and_eq_true] at hz
  refine ⟨a, xs, rfl, h, by rw [flat_iff hv]; exact hz.1, by rw [flat_all t]; exact hz.2, ?_⟩
  rw [if_neg Bool.false_ne_true, mem_iff hv t]
  exact q.now r
theorem ob_notin : OpB g (rIn g.K true) (cmpB .notin) := by
  intro E S ρ H v u x y Q r hv hu q
  have q' : Fin g E ρ H (bd (items y) (fun l => fun S => if flat x && l.all flat then .ok (!memF x l) S else .stuck) S) (fun b _ _ H' => Q (.bl b) H') := by
    cases y <;> first | exact q | exact q.elim
  obtain ⟨a, xs, ds, rfl, h, t, q⟩ := fin_items r hu q'
  obtain ⟨hz, q⟩ := fin_if q
  rw [Bool.and_eq_true] at hz
  refine ⟨a, xs, rfl, h, by rw [flat_iff hv]; exact hz.1, by rw [flat_all t]; exact hz.2, ?_⟩
  rw [if_pos rfl, mem_iff hv t]
  exact q.now r

/-! ### == -/
/-- tuples of which one is empty -/
def rEqT0 (K : PySem.W.Frag) (n : Bool) : R2 := fun x y H Q => ∃ a b xs ys, x = .ref a ∧ y = .ref b ∧ SqT K H a xs ∧ SqT K H b ys ∧ (xs = [] ∨ ys = []) ∧ Q (.bl (if n = true then !(xs.isEmpty && ys.isEmpty) else xs.isEmpty && ys.isEmpty)) H
/-- lists of unlike lengths -/
def rEqLn (K : PySem.W.Frag) (n : Bool) : R2 := fun x y H Q => ∃ a b xs ys, x = .ref a ∧ y = .ref b ∧ SqL K H a xs ∧ SqL K H b ys ∧ xs.length ≠ ys.length ∧ Q (.bl n) H
theorem op_eqT0 (hu : X.A.units < cLine) : OpR X (compareOp .Eq) (rEqT0 X.K false) := by
  intro pins s σ H x y v u Q I rx ry h
  obtain ⟨a, b, xs, ys, rfl, rfl, ha, hb, hz, q⟩ := h
  cases rx
  cases ry
  obtain ⟨its, r1, p1, _⟩ := I.tuple ha
  obtain ⟨its2, r2, p2, _⟩ := I.tuple hb
  have l1 := r1.length
  have l2 := r2.length
  refine SeqAt.eq_tupleAt (e := fun _ => true) p1 p2 hu (fun j h1 h2 => ?_) ?_
  · rcases hz with e | e
    · subst e
      simp at l1
      simp [← l1] at h1
    · subst e
      simp at l2
      simp [← l2] at h2
  · refine ⟨.bl _, H, I, rfl, ?_⟩
    have e : ((List.range (min its.toArray.size its2.toArray.size)).all (fun _ => true) && its.toArray.size == its2.toArray.size) = (xs.isEmpty && ys.isEmpty) := by
      rw [List.size_toArray, List.size_toArray, ← l1, ← l2]
      rcases hz with e | e
      · subst e
        cases ys <;> simp
      · subst e
        cases xs <;> simp
    rw [e]
    exact q
theorem op_neT0 (hu : X.A.units < cLine) : OpR X (compareOp .NotEq) (rEqT0 X.K true) := by
  intro pins s σ H x y v u Q I rx ry h
  obtain ⟨a, b, xs, ys, rfl, rfl, ha, hb, hz, q⟩ := h
  cases rx
  cases ry
  obtain ⟨its, r1, p1, _⟩ := I.tuple ha
  obtain ⟨its2, r2, p2, _⟩ := I.tuple hb
  have l1 := r1.length
  have l2 := r2.length
  refine SeqAt.RcNeAt.tuples (e := fun _ => true) p1 p2 hu (fun j h1 h2 => ?_) _ _ _ _ ?_
  · rcases hz with e | e
    · subst e
      simp at l1
      simp [← l1] at h1
    · subst e
      simp at l2
      simp [← l2] at h2
  · refine ⟨.bl _, H, I, rfl, ?_⟩
    have e : ((List.range (min its.toArray.size its2.toArray.size)).all (fun _ => true) && its.toArray.size == its2.toArray.size) = (xs.isEmpty && ys.isEmpty) := by
      rw [List.size_toArray, List.size_toArray, ← l1, ← l2]
      rcases hz with e | e
      · subst e
        cases ys <;> simp
      · subst e
        cases xs <;> simp
    rw [e]
    exact q
theorem op_eqLn (hu : X.A.units < cLine) : OpR X (compareOp .Eq) (rEqLn X.K false) := by
  intro pins s σ H x y v u Q I rx ry h
  obtain ⟨a, b, xs, ys, rfl, rfl, ha, hb, hz, q⟩ := h
  cases rx
  cases ry
  obtain ⟨its, r1, p1, _⟩ := I.list ha
  obtain ⟨its2, r2, p2, _⟩ := I.list hb
  have l1 := r1.length
  have l2 := r2.length
  refine SeqAt.eq_list_lengthsAt p1.isList p2.isList ?_ hu ⟨.bl false, H, I, rfl, q⟩
  rw [bne_iff_ne, List.size_toArray, List.size_toArray, ← l1, ← l2]
  exact hz
theorem op_neLn (hu : X.A.units < cLine) : OpR X (compareOp .NotEq) (rEqLn X.K true) := by
  intro pins s σ H x y v u Q I rx ry h
  obtain ⟨a, b, xs, ys, rfl, rfl, ha, hb, hz, q⟩ := h
  cases rx
  cases ry
  obtain ⟨its, r1, p1, _⟩ := I.list ha
  obtain ⟨its2, r2, p2, _⟩ := I.list hb
  have l1 := r1.length
  have l2 := r2.length
  refine SeqAt.RcNeAt.lists_lengths p1.isList p2.isList ?_ hu _ _ _ _ ⟨.bl true, H, I, rfl, q⟩
  rw [bne_iff_ne, List.size_toArray, List.size_toArray, ← l1, ← l2]
  exact hz
def rEq2 (K : PySem.W.Frag) : R2 := fun x y H Q => rEqD K x y H Q ∨ rEqT0 K false x y H Q ∨ rEqLn K false x y H Q
def rNe2 (K : PySem.W.Frag) : R2 := fun x y H Q => rNeD K x y H Q ∨ rEqT0 K true x y H Q ∨ rEqLn K true x y H Q
theorem or_eq (hK : X.K = g.K) (hu : X.A.units + 64 < cLine) : OpR X (compareOp .Eq) (rEq2 g.K) := by
  rw [← hK]
  exact (op_eqD hu).or ((op_eqT0 (by omega)).or (op_eqLn (by omega)))
theorem or_ne (hK : X.K = g.K) (hu : X.A.units + 64 < cLine) : OpR X (compareOp .NotEq) (rNe2 g.K) := by
  rw [← hK]
  exact (op_neD hu).or ((op_neT0 (by omega)).or (op_neLn (by omega)))
mutual
theorem dp_of {K : PySem.W.Frag} {ρ : List Addr} {H : Hp} : ∀ {v : V} {d : D} {p : PyData}, DV K ρ H v d → d.py = some p → Dp K H v p
  | _, _, _, .non, e => by simp only [D.py, Option.some.injEq] at e; subst e; exact .non
  | _, _, _, .bl b, e => by simp only [D.py, Option.some.injEq] at e; subst e; exact .bl b
  | _, _, _, .int i, e => by simp only [D.py, Option.some.injEq] at e; subst e; exact .int i
  | _, _, _, .str x, e => by simp only [D.py, Option.some.injEq] at e; subst e; exact .str x
  | _, _, _, .tup h t, e => by
    simp only [D.py, Option.map_eq_some_iff] at e
    obtain ⟨ps, e1, e2⟩ := e
    subst e2
    exact .tup h (dps_of t e1)
  | _, _, _, .ro h t, e => by
    simp only [D.py, Option.map_eq_some_iff] at e
    obtain ⟨ps, e1, e2⟩ := e
    subst e2
    exact .lst h.sq (dps_of t e1)
  | _, _, _, .loc h, e => by simp only [D.py] at e; cases e
theorem dps_of {K : PySem.W.Frag} {ρ : List Addr} {H : Hp} : ∀ {vs : List V} {ds : List D} {ps : List PyData}, DVs K ρ H vs ds → D.pys ds = some ps → DpAll K H vs ps
  | _, _, _, .nil, e => by simp only [D.pys, Option.some.injEq] at e; subst e; exact .nil
  | _, _, _, .cons (d := d) (ds := ds) h t, e => by
    simp only [D.pys] at e
    cases e1 : d.py with
    | none => rw [e1] at e; cases e
    | some p =>
      cases e2 : D.pys ds with
      | none => rw [e1, e2] at e; cases e
      | some ps =>
        rw [e1, e2] at e
        simp only [Option.some.injEq] at e
        subst e
        exact .cons (dp_of h e1) (dps_of t e2)
end
theorem fin_deep {v : V} {d : D} {f : PyData → M α} {ok : α → Sto → List Addr → Hp → Prop} (r : Rel g.K g.T S ρ H) (hv : DV g.K ρ H v d) (q : Fin g E ρ H (bd (deep d) f S) ok) : ∃ p, Dp g.K H v p ∧ Fin g E ρ H (f p S) ok := by
  have other : ∀ {d : D}, DV g.K ρ H v d → Fin g E ρ H (bd (match d.py with | some p => ret p | none => stuck) f S) ok → ∃ p, Dp g.K H v p ∧ Fin g E ρ H (f p S) ok := fun {d} hv q => by
    cases e : d.py with
    | none => rw [e] at q; exact q.elim
    | some p =>
      rw [e] at q
      exact ⟨p, dp_of hv e, q⟩
  cases hv with
  | @loc a l hl =>
    have q2 : Fin g E ρ H (bd (getL l) (fun l => bd (match D.pys l with | some p => ret (PyData.list p) | none => stuck) f) S) ok := by
      have e : ∀ S, bd (deep (.loc l)) f S = bd (getL l) (fun l => bd (match D.pys l with | some p => ret (PyData.list p) | none => stuck) f) S := fun S => by
        show bd (bd (getL l) _) f S = _
        unfold bd
        cases getL l S <;> rfl
      rw [← e]
      exact q
    obtain ⟨xs, ds, e1, t, z, _, q3⟩ := fin_getL r hl q2
    cases e3 : D.pys ds with
    | none => simp only [e3] at q3; exact q3.elim
    | some p =>
      simp only [e3] at q3
      exact ⟨_, .lst (SqL.of e1) (dps_of t e3), q3⟩
  | non => exact other .non q
  | bl b => exact other (.bl b) q
  | int b => exact other (.int b) q
  | str b => exact other (.str b) q
  | tup h t => exact other (.tup h t) q
  | ro h t => exact other (.ro h t) q
theorem fin_eqd {v u : V} {x y : D} {ok : Bool → Sto → List Addr → Hp → Prop} (r : Rel g.K g.T S ρ H) (hv : DV g.K ρ H v x) (hu : DV g.K ρ H u y) (q : Fin g E ρ H (eqd x y S) ok) :
    ∃ d e, Dp g.K H v d ∧ Dp g.K H u e ∧ SeqAt.shaped d = true ∧ SeqAt.shaped e = true ∧ ok (PyData.eqv d e) S ρ H := by
  obtain ⟨d, h1, q⟩ := fin_deep r hv q
  obtain ⟨e, h2, q⟩ := fin_deep r hu q
  obtain ⟨hz, q⟩ := fin_if q
  rw [Bool.and_eq_true] at hz
  exact ⟨d, e, h1, h2, hz.1, hz.2, q.now r⟩
/-- what == tells -/
theorem fin_eqq {v u : V} {x y : D} {ok : Bool → Sto → List Addr → Hp → Prop} (r : Rel g.K g.T S ρ H) (hv : DV g.K ρ H v x) (hu : DV g.K ρ H u y) (q : Fin g E ρ H (eqq x y S) ok) :
    (∃ d e, Dp g.K H v d ∧ Dp g.K H u e ∧ SeqAt.shaped d = true ∧ SeqAt.shaped e = true ∧ ok (PyData.eqv d e) S ρ H) ∨
    (∃ a b xs ys, v = .ref a ∧ u = .ref b ∧ SqT g.K H a xs ∧ SqT g.K H b ys ∧ (xs = [] ∨ ys = []) ∧ ok (xs.isEmpty && ys.isEmpty) S ρ H) ∨
    ∃ a b xs ys, v = .ref a ∧ u = .ref b ∧ SqL g.K H a xs ∧ SqL g.K H b ys ∧ xs.length ≠ ys.length ∧ ok false S ρ H := by
  have emp : ∀ {vs : List V} {ds : List D}, DVs g.K ρ H vs ds → vs.isEmpty = ds.isEmpty := fun t => by cases t <;> rfl
  cases hv with
  | tup h t =>
    cases hu with
    | tup h' t' =>
      rename_i a1 xs ds b1 ys es
      unfold eqq at q
      dsimp only at q
      by_cases hz : (ds.isEmpty || es.isEmpty) = true
      · rw [if_pos hz] at q
        refine .inr (.inl ⟨_, _, _, _, rfl, rfl, h, h', ?_, ?_⟩)
        · rw [Bool.or_eq_true] at hz
          rcases hz with z | z
          · exact .inl (t.nil_iff.mpr (by simpa using z))
          · exact .inr (t'.nil_iff.mpr (by simpa using z))
        · rw [emp t, emp t']
          exact q.ret r
      · rw [if_neg hz] at q
        exact .inl (fin_eqd r (.tup h t) (.tup h' t') q)
    | non => exact .inl (fin_eqd r (.tup h t) .non q)
    | bl b => exact .inl (fin_eqd r (.tup h t) (.bl b) q)
    | int b => exact .inl (fin_eqd r (.tup h t) (.int b) q)
    | str b => exact .inl (fin_eqd r (.tup h t) (.str b) q)
    | ro h' t' => exact .inl (fin_eqd r (.tup h t) (.ro h' t') q)
    | loc l' => exact .inl (fin_eqd r (.tup h t) (.loc l') q)
  | loc hl =>
    cases hu with
    | loc hl' =>
      obtain ⟨xs, ds, e1, t, z, _, q⟩ := fin_getL r hl q
      obtain ⟨ys, es, e2, t', z', _, q⟩ := fin_getL r hl' q
      by_cases hz : ds.length ≠ es.length
      · rw [if_pos hz] at q
        exact .inr (.inr ⟨_, _, xs, ys, rfl, rfl, SqL.of e1, SqL.of e2, by rw [t.length, t'.length]; exact hz, q.ret r⟩)
      · rw [if_neg hz] at q
        exact .inl (fin_eqd r (.loc hl) (.loc hl') q)
    | non => exact .inl (fin_eqd r (.loc hl) .non q)
    | bl b => exact .inl (fin_eqd r (.loc hl) (.bl b) q)
    | int b => exact .inl (fin_eqd r (.loc hl) (.int b) q)
    | str b => exact .inl (fin_eqd r (.loc hl) (.str b) q)
    | ro h' t' => exact .inl (fin_eqd r (.loc hl) (.ro h' t') q)
    | tup h' t' => exact .inl (fin_eqd r (.loc hl) (.tup h' t') q)
  | non => exact .inl (fin_eqd r .non hu q)
  | bl b => exact .inl (fin_eqd r (.bl b) hu q)
  | int b => exact .inl (fin_eqd r (.int b) hu q)
  | str b => exact .inl (fin_eqd r (.str b) hu q)
  | ro h t => exact .inl (fin_eqd r (.ro h t) hu q)
theorem ob_eq : OpB g (rEq2 g.K) (cmpB .eq) := by
  intro E S ρ H v u x y Q r hv hu q
  have q : Fin g E ρ H (eqq x y S) (fun b _ _ H' => Q (.bl b) H') := by cases x <;> exact q
  rcases fin_eqq r hv hu q with h | h | h
  · exact .inl h
  · exact .inr (.inl h)
  · exact .inr (.inr h)
theorem ob_ne : OpB g (rNe2 g.K) (cmpB .ne) := by
  intro E S ρ H v u x y Q r hv hu q
  have q : Fin g E ρ H (bd (eqq x y) (fun b => ret (!b)) S) (fun b _ _ H' => Q (.bl b) H') := by cases x <;> exact q
  have q := fin_eqq r hv hu q.bd
  rcases q with ⟨d, e, h1, h2, h3, h4, q⟩ | ⟨a, b, xs, ys, h1, h2, h3, h4, h5, q⟩ | ⟨a, b, xs, ys, h1, h2, h3, h4, h5, q⟩
  · exact .inl ⟨d, e, h1, h2, h3, h4, q.ret r⟩
  · exact .inr (.inl ⟨a, b, xs, ys, h1, h2, h3, h4, h5, q.ret r⟩)
  · exact .inr (.inr ⟨a, b, xs, ys, h1, h2, h3, h4, h5, q.ret r⟩)
end
end Z
end
section
/-! ZSc: built-ins, items, slices, methods by data. -/
namespace Z
open PySem PySem.Spec PyProof.Rows L2
section
variable {g : Gl0} {E : XK} {X : Cx} {ρ : List Addr} {H : Hp} {S : Sto} {a b e : Expr} {fa fb : Env → M D} {p pos : Pos}
/-- one argument of a built-in -/
def Op1 (g : Gl0) (r : List V → Hp → VK → Prop) (k : D → M D) : Prop := ∀ (E : XK) (S : Sto) ρ H v d Q, Rel g.K g.T S ρ H → DV g.K ρ H v d → Fin g E ρ H (k d S) (fun d _ ρ' H' => ∀ v, DV g.K ρ' H' v d → Q v H') → r [v] H Q
def Op2 (g : Gl0) (r : List V → Hp → VK → Prop) (k : D → D → M D) : Prop := ∀ (E : XK) (S : Sto) ρ H v u x y Q, Rel g.K g.T S ρ H → DV g.K ρ H v x → DV g.K ρ H u y → Fin g E ρ H (k x y S) (fun d _ ρ' H' => ∀ v, DV g.K ρ' H' v d → Q v H') → r [v, u] H Q
theorem de_b1 {x : Str} {id : String} {r : List V → Hp → VK → Prop} {k : D → M D} (hc : CallR X (.builtin id) r) (hd : Op1 g r k) (hg : Gl X x) (hm : X.mg x = none) (hv : bootBuiltins x = some (.builtin id)) (hn : x ≠ "__name__") (hdb : (x == ("__debug__" : Str)) = false)
    (ha : PE X a (tD g E fa)) (hs : starEach [a] X.env = (false, eval a X.env) :: starEach [] X.env) : PE X (.Call (.Name x p) [a] [] pos) (tD g E fun env => bd (fa env) k) :=
  (pe_callB hc hg hm hv (pa_cons ha pa_nil hs) hn hdb hs (by rfl)).imp fun σ H Q h => tD_1 (r := fun v H Q => r [v] H Q) h fun S ρ H v d r1 hv q => hd E S ρ H v d Q r1 hv q
theorem de_ty1 {x : Str} {T : String} {r : List V → Hp → VK → Prop} {k : D → M D} (hc : CallR X (.type T) r) (hd : Op1 g r k) (hg : Gl X x) (hm : X.mg x = none) (hv : bootBuiltins x = some (.type T)) (hn : x ≠ "__name__") (hdb : (x == ("__debug__" : Str)) = false)
    (ha : PE X a (tD g E fa)) (hs : starEach [a] X.env = (false, eval a X.env) :: starEach [] X.env) : PE X (.Call (.Name x p) [a] [] pos) (tD g E fun env => bd (fa env) k) :=
  (pe_callTy hc hg hm hv (pa_cons ha pa_nil hs) hn hdb hs (by rfl)).imp fun σ H Q h => tD_1 (r := fun v H Q => r [v] H Q) h fun S ρ H v d r1 hv q => hd E S ρ H v d Q r1 hv q
theorem de_b2 {x : Str} {id : String} {r : List V → Hp → VK → Prop} {k : D → D → M D} (hc : CallR X (.builtin id) r) (hd : Op2 g r k) (hg : Gl X x) (hm : X.mg x = none) (hv : bootBuiltins x = some (.builtin id)) (hn : x ≠ "__name__") (hdb : (x == ("__debug__" : Str)) = false)
    (ha : PE X a (tD g E fa)) (hb : PE X b (tD g E fb)) (hs : starEach [a, b] X.env = (false, eval a X.env) :: starEach [b] X.env) (hs2 : starEach [b] X.env = (false, eval b X.env) :: starEach [] X.env) :
    PE X (.Call (.Name x p) [a, b] [] pos) (tD g E fun env => bd (fa env) fun x => bd (fb env) fun y => k x y) :=
  (pe_callB hc hg hm hv (pa_cons ha (pa_cons hb pa_nil hs2) hs) hn hdb hs (by rw [hs2]; rfl)).imp fun σ H Q h => tD_2 (r := fun v u H Q => r [v, u] H Q) h fun S ρ H v u x y r1 hv hu q => hd E S ρ H v u x y Q r1 hv hu q
/-- isinstance(a, T) -/
def tyN : D → String
  | .non => "NoneType" | .bl _ => "bool" | .int _ => "int" | .str _ => "str" | .tup _ => "tuple" | .ro _ => "list" | .loc _ => "list"
theorem ty_of {v : V} {d : D} (hv : DV g.K ρ H v d) (r : Rel g.K g.T S ρ H) : TyX g.K H v (.type (tyN d)) := by
  cases hv with
  | non => exact .base .non
  | bl b => exact .base (.bl b)
  | int b => exact .base (.int b)
  | str b => exact .base (.str b)
  | tup h t =>
    rcases h with (h | ⟨o, h⟩) | ⟨o, its, n, h1, h2, _⟩
    · exact .base (.tup h)
    · exact .fTuple h
    · exact .kTuple h1 h2
  | ro h t =>
    rcases h with ⟨o, h⟩ | ⟨o, its, n, h1, h2, _⟩
    · exact .base (.frz h)
    · exact .kList h1 h2
  | loc hl =>
    obtain ⟨xs, hx⟩ := r.addr (List.mem_of_getElem? hl)
    exact .base (.lst hx)
/-- which of our kinds stand under T -/
def isA : String → D → Bool
  | "int", d => isint d
  | "bool", d => isbool d
  | "str", d => isstr d
  | "tuple", d => istup d
  | "list", d => islst d
  | _, _ => false
def knownT (T : String) : Bool := T = "int" || T = "bool" || T = "str" || T = "tuple" || T = "list"
def isN (t T : String) : Bool := t == T || (t == "bool" && T == "int")
theorem isA_eq {T : String} (hT : knownT T = true) (d : D) : isA T d = isN (tyN d) T := by
  unfold knownT at hT
  simp only [Bool.or_eq_true, decide_eq_true_eq] at hT
  rcases hT with (((rfl | rfl) | rfl) | rfl) | rfl <;> cases d <;> rfl
theorem isN_kit : ∀ t ∈ ["NoneType", "bool", "int", "str", "tuple", "list"], ∀ T ∈ ["int", "bool", "str", "tuple", "list"], kitB t T = some (isN t T) := by decide +kernel
theorem isA_kit {T : String} (hT : knownT T = true) {d : D} {K : PySem.W.Frag} : PySem.W.kitOne K (.type (tyN d)) (.type T) = some (isA T d) := by
  refine kit_ty ?_
  rw [isA_eq hT]
  refine isN_kit _ ?_ _ ?_
  · cases d <;> simp [tyN]
  · unfold knownT at hT
    simp only [Bool.or_eq_true, decide_eq_true_eq] at hT
    rcases hT with (((rfl | rfl) | rfl) | rfl) | rfl <;> simp
theorem de_isi {T : String} {x : Str} {hT : knownT T = true} (hK : X.K = g.K) (hg : Gl X "isinstance") (hm : X.mg "isinstance" = none) (hgT : Gl X x) (hmT : X.mg x = none) (hv : bootBuiltins x = some (.type T)) (hn : x ≠ "__name__") (hdb : (x == ("__debug__" : Str)) = false)
    {p2 : Pos} (ha : PE X a (tD g E fa)) (hs : starEach [a, .Name x p2] X.env = (false, eval a X.env) :: starEach [.Name x p2] X.env) :
    PE X (.Call (.Name "isinstance" p) [a, .Name x p2] [] pos) (tD g E fun env => bd (fa env) fun d => ret (.bl (isA T d))) := by
  have h2 : PE X (.Name x p2) (tC (.ty T)) := pe_bltn hgT hmT hv rfl hn hdb
  refine (pe_callB call_isi hg hm (by decide +kernel) (pa_cons ha (pa_cons h2 pa_nil rfl) hs) (by decide) (by decide) hs rfl).imp fun σ H Q h => ?_
  refine tD_1 (r := fun v H Q => rIsi X.K [v, .ty T] H Q) h fun S ρ H v d r1 hv q => ?_
  refine ⟨v, .ty T, .type (tyN d), .type T, isA T d, rfl, .ty T, ?_, isA_kit hT, q.ret r1 _ (.bl _)⟩
  rw [hK]
  exact ty_of hv r1

/-! ### len, int, bool, abs, max, min, sum -/
def rLen2 (K : PySem.W.Frag) : List V → Hp → VK → Prop := fun xs H Q => (∃ p ys, xs = [.ref p] ∧ (SqL K H p ys ∨ SqT K H p ys) ∧ Q (.int ys.length) H) ∨ ∃ z, xs = [.str z] ∧ z.length ≤ sizeLine ∧ Q (.int z.length) H
theorem cr_len (hK : X.K = g.K) : CallR X (.builtin "len") (rLen2 g.K) := by
  rw [← hK]
  exact CallR.or call_len_seq call_len_str
theorem o1_len : Op1 g (rLen2 g.K) (prim1 .len) := by
  intro E S ρ H v d Q r hv q
  have seq : Fin g E ρ H (bd (items d) (fun l => ret (.int l.length)) S) (fun d _ ρ' H' => ∀ v, DV g.K ρ' H' v d → Q v H') → rLen2 g.K [v] H Q := fun q => by
    obtain ⟨a, xs, ds, rfl, h, t, q⟩ := fin_items r hv q
    refine .inl ⟨a, xs, rfl, h, ?_⟩
    rw [t.length]
    exact q.ret r _ (.int _)
  cases d with
  | str s =>
    cases hv
    obtain ⟨hz, q⟩ := fin_if q
    exact .inr ⟨s, rfl, hz, q.now r _ (.int _)⟩
  | _ => exact seq q
theorem o1_int : Op1 g (fun xs H Q => (∃ i, xs = [.int i] ∧ Q (.int i) H) ∨ ∃ k, xs = [.bl k] ∧ Q (.int (if k then 1 else 0)) H) (prim1 .int) := by
  intro E S ρ H v d Q r hv q
  cases hv with
  | int i => exact .inl ⟨i, rfl, q.ret r _ (.int _)⟩
  | bl b => exact .inr ⟨b, rfl, q.ret r _ (.int _)⟩
  | _ => exact q.elim
theorem o1_bool : Op1 g (fun xs H Q => (∃ i, xs = [.int i] ∧ Q (.bl (i != 0)) H) ∨ ∃ k, xs = [.bl k] ∧ Q (.bl k) H) (prim1 .bool) := by
  intro E S ρ H v d Q r hv q
  cases hv with
  | int i => exact .inl ⟨i, rfl, q.ret r _ (.bl _)⟩
  | bl b => exact .inr ⟨b, rfl, q.ret r _ (.bl _)⟩
  | _ => exact q.elim
theorem o1_abs : Op1 g (fun xs H Q => ∃ i, xs = [.int i] ∧ Q (.int (if i < 0 then -i else i)) H) (prim1 .abs) := by
  intro E S ρ H v d Q r hv q
  cases hv with
  | int i => exact ⟨i, rfl, q.ret r _ (.int _)⟩
  | _ => exact q.elim
theorem o1_str : Op1 g (fun xs H Q => ∃ i : Int, xs = [.int i] ∧ i.natAbs.log2 < 1920 ∧ Q (.str (toString i)) H) (prim1 .str) := by
  intro E S ρ H v d Q r hv q
  cases hv with
  | int i =>
    obtain ⟨hz, q⟩ := fin_if q
    exact ⟨i, rfl, hz, q.now r _ (.str _)⟩
  | _ => exact q.elim
theorem o2_max : Op2 g (fun xs H Q => ∃ i j, xs = [.int i, .int j] ∧ Q (.int (if j > i then j else i)) H) (prim2 .max) := by
  intro E S ρ H v u x y Q r hv hu q
  cases hv with
  | int i =>
    cases hu with
    | int j => exact ⟨i, j, rfl, q.ret r _ (.int _)⟩
    | _ => exact q.elim
  | _ => cases hu <;> exact q.elim
theorem o2_min : Op2 g (fun xs H Q => ∃ i j, xs = [.int i, .int j] ∧ Q (.int (if j < i then j else i)) H) (prim2 .min) := by
  intro E S ρ H v u x y Q r hv hu q
  cases hv with
  | int i =>
    cases hu with
    | int j => exact ⟨i, j, rfl, q.ret r _ (.int _)⟩
    | _ => exact q.elim
  | _ => cases hu <;> exact q.elim
theorem ints_of : ∀ {ds : List D} {vs : List V} {ns : List Int}, intsD ds = some ns → DVs g.K ρ H vs ds → vs = ns.map V.int
  | [], _, _, e, .nil => by simp only [intsD, Option.some.injEq] at e; subst e; rfl
  | .int i :: r, _, _, e, .cons (.int _) t => by
    simp only [intsD, Option.map_eq_some_iff] at e
    obtain ⟨ns, e1, e2⟩ := e
    subst e2
    rw [ints_of e1 t]; rfl
  | .non :: r, _, _, e, _ => by simp only [intsD] at e; cases e
  | .bl _ :: r, _, _, e, _ => by simp only [intsD] at e; cases e
  | .str _ :: r, _, _, e, _ => by simp only [intsD] at e; cases e
  | .tup _ :: r, _, _, e, _ => by simp only [intsD] at e; cases e
  | .ro _ :: r, _, _, e, _ => by simp only [intsD] at e; cases e
  | .loc _ :: r, _, _, e, _ => by simp only [intsD] at e; cases e
theorem lmin_le : ∀ {ns : List Int}, ∀ y ∈ ns, lmin ns ≤ y
  | [x], y, h => by simp at h; subst h; simp [lmin]
  | x :: z :: r, y, h => by
    simp only [lmin]
    rcases List.mem_cons.mp h with e | h'
    · subst e; omega
    · have := lmin_le (ns := z :: r) y h'
      omega
theorem lmin_mem : ∀ {ns : List Int}, ns ≠ [] → lmin ns ∈ ns
  | [x], _ => by simp [lmin]
  | x :: z :: r, _ => by
    have h := lmin_mem (ns := z :: r) (by simp)
    simp only [lmin]
    by_cases e : x ≤ lmin (z :: r)
    · rw [Int.min_eq_left (e)]; simp
    · rw [Int.min_eq_right (by omega)]
      exact List.mem_cons_of_mem _ h
theorem lmax_le : ∀ {ns : List Int}, ∀ y ∈ ns, y ≤ lmax ns
  | [x], y, h => by simp at h; subst h; simp [lmax]
  | x :: z :: r, y, h => by
    simp only [lmax]
    rcases List.mem_cons.mp h with e | h'
    · subst e; omega
    · have := lmax_le (ns := z :: r) y h'
      omega
theorem lmax_mem : ∀ {ns : List Int}, ns ≠ [] → lmax ns ∈ ns
  | [x], _ => by simp [lmax]
  | x :: z :: r, _ => by
    have h := lmax_mem (ns := z :: r) (by simp)
    simp only [lmax]
    by_cases e : lmax (z :: r) ≤ x
    · rw [Int.max_eq_left (e)]; simp
    · rw [Int.max_eq_right (by omega)]
      exact List.mem_cons_of_mem _ h
theorem o1_sum : Op1 g (rSum g.K) (prim1 .sum) := by
  intro E S ρ H v d Q r hv q
  cases hv with
  | loc hl =>
    obtain ⟨xs, ds, e1, t, z, _, q⟩ := fin_getL r hl q
    cases e : intsD ds with
    | none => simp only [e] at q; exact q.elim
    | some ns =>
      simp only [e] at q
      have ex := ints_of e t
      subst ex
      exact ⟨_, ns, rfl, SqL.of e1, q.ret r _ (.int _)⟩
  | _ => exact q.elim
theorem o1_min : Op1 g (rMin g.K) (prim1 .min) := by
  intro E S ρ H v d Q r hv q
  cases hv with
  | loc hl =>
    obtain ⟨xs, ds, e1, t, z, _, q⟩ := fin_getL r hl q
    cases e : intsD ds with
    | none => simp only [e] at q; exact q.elim
    | some ns =>
      have ex := ints_of e t
      subst ex
      cases ns with
      | nil => simp only [e] at q; exact q.elim
      | cons x0 r0 =>
        simp only [e] at q
        refine ⟨_, x0 :: r0, rfl, SqL.of e1, by simp, fun m hm hle => ?_⟩
        have e : m = lmin (x0 :: r0) := Int.le_antisymm (hle _ (lmin_mem (by simp))) (lmin_le m hm)
        rw [e]
        exact q.ret r _ (.int _)
  | _ => exact q.elim
theorem o1_max : Op1 g (rMax g.K) (prim1 .max) := by
  intro E S ρ H v d Q r hv q
  cases hv with
  | loc hl =>
    obtain ⟨xs, ds, e1, t, z, _, q⟩ := fin_getL r hl q
    cases e : intsD ds with
    | none => simp only [e] at q; exact q.elim
    | some ns =>
      have ex := ints_of e t
      subst ex
      cases ns with
      | nil => simp only [e] at q; exact q.elim
      | cons x0 r0 =>
        simp only [e] at q
        refine ⟨_, x0 :: r0, rfl, SqL.of e1, by simp, fun m hm hle => ?_⟩
        have e : m = lmax (x0 :: r0) := Int.le_antisymm (lmax_le m hm) (hle _ (lmax_mem (by simp)))
        rw [e]
        exact q.ret r _ (.int _)
  | _ => exact q.elim

/-! ### items, slices -/
theorem place_eq (n : Nat) (i : Int) : place n i = ixN n i := rfl
theorem at_of {xs : List V} {ds : List D} {k : Int} {d : D} (t : DVs g.K ρ H xs ds) (h : (place ds.length k).bind (fun j => ds[j]?) = some d) : ∃ v, atI xs k = some v ∧ DV g.K ρ H v d := by
  unfold atI
  rw [t.length]
  rw [place_eq] at h
  cases e : ixN ds.length k with
  | none => rw [e] at h; cases h
  | some j =>
    rw [e] at h
    obtain ⟨v, e1, e2⟩ := t.get h
    exact ⟨v, e1, e2⟩
theorem od_index : OpD g (fun x y H Q => rIxL g.K x y H Q ∨ rIxT g.K x y H Q) index := by
  intro E S ρ H v u x y Q r hv hu q
  cases hu with
  | int k =>
    obtain ⟨a, xs, ds, rfl, h, t, q⟩ := fin_items r hv q
    cases e : (place ds.length k).bind (fun j => ds[j]?) with
    | none => simp only [e] at q; exact q.elim
    | some d =>
      simp only [e] at q
      obtain ⟨w, e1, e2⟩ := at_of t e
      rcases h with h | h
      · exact .inl ⟨a, xs, k, w, rfl, rfl, h, e1, q.ret r w e2⟩
      · exact .inr ⟨a, xs, k, w, rfl, rfl, h, e1, q.ret r w e2⟩
  | _ => exact q.elim
theorem de_ix (hK : X.K = g.K) (ha : PE X a (tD g E fa)) (hb : PE X b (tD g E fb)) (hs : PlainIx b) : PE X (.Subscript a b pos) (tD g E fun env => bd (fa env) fun x => bd (fb env) fun y => index x y) := by
  have h : IxR X (fun x y H Q => rIxL g.K x y H Q ∨ rIxT g.K x y H Q) := by
    rw [← hK]
    exact ix_list.or ix_tup
  exact (pe_ix h ha hb hs).imp fun σ H Q h => tD_2 (r := fun x y H Q => rIxL g.K x y H Q ∨ rIxT g.K x y H Q) h fun S ρ H v u x y r1 hv hu q => od_index E S ρ H v u x y Q r1 hv hu q
theorem bound_eq (n d : Nat) (o : Option Int) : bound n d o = HT.sIx n d o := by cases o <;> rfl
theorem cut_len {α : Type} (xs : List α) (lo hi : Option Int) : (cut xs lo hi).length ≤ xs.length := by
  unfold cut
  rw [List.length_take, List.length_drop]
  omega
theorem dvs_cut {xs : List V} {ds : List D} (t : DVs g.K ρ H xs ds) (lo hi : Option Int) : DVs g.K ρ H (cutV xs lo hi) (cut ds lo hi) := by
  unfold cutV cut
  rw [t.length, bound_eq, bound_eq]
  exact (t.drop _).take _
theorem cutV_all {xs : List V} {lo hi : Option Int} (h1 : HT.sIx xs.length 0 lo = 0) (h2 : HT.sIx xs.length xs.length hi = xs.length) : cutV xs lo hi = xs := by
  unfold cutV
  rw [h1, h2]
  simp
def rSl2 (K : PySem.W.Frag) : V → Option Int → Option Int → Hp → VK → Prop := fun x lo hi H Q => rSlA K x lo hi H Q ∨ rSlL K x lo hi H Q
theorem sr_2 (hK : X.K = g.K) : SlR X (rSl2 g.K) := by
  rw [← hK]
  exact sl_tupA.or sl_list
theorem fin_slice {v : V} {d : D} {lo hi : Option Int} {Q : VK} (r : Rel g.K g.T S ρ H) (hv : DV g.K ρ H v d) (q : Fin g E ρ H (slice d lo hi S) fun d _ ρ' H' => ∀ v, DV g.K ρ' H' v d → Q v H') : rSl2 g.K v lo hi H Q := by
  cases hv with
  | tup h t =>
    refine .inl ⟨_, _, rfl, h, fun z => ?_, fun z p hp => ?_⟩
    · have c := dvs_cut t lo hi
      rw [cutV_all z.1 z.2] at c
      exact q.ret r _ (.tup h c)
    · exact q ρ _ (Ex.new hp) (r.new hp) _ (tup_new r hp (dvs_cut t lo hi))
  | loc hl =>
    obtain ⟨xs, ds, e1, t, z, _, q⟩ := fin_getL r hl q
    obtain ⟨_, h2⟩ := fin_new r (dvs_cut t lo hi) q
    exact .inr ⟨_, xs, rfl, SqL.of e1, h2⟩
  | _ => exact q.elim
theorem de_sl {lo hi : Expr} {fl fh : Env → M D} {p2 : Pos} (hK : X.K = g.K) (ha : PE X a (tD g E fa)) (hl : PE X lo (tD g E fl)) (hh : PE X hi (tD g E fh)) :
    PE X (.Subscript a (.Slice (some lo) (some hi) none p2) pos) (tD g E fun env => bd (fa env) fun x => bd (fl env) fun l => match l with
      | .int l => bd (fh env) fun h => match h with
        | .int h => slice x (some l) (some h)
        | _ => stuck
      | _ => stuck) :=
  (pe_slice (sr_2 hK) ha (po_some hl) (po_some hh)).imp fun σ H Q ⟨S, ρ, env, hr, he, h⟩ => by
    refine ⟨S, ρ, env, hr, he, h.bd.imp fun d S1 ρ1 H1 x r1 q v hv => ⟨S1, ρ1, env, r1, he.ex hr x, q.bd.imp fun d2 S2 ρ2 H2 x2 r2 q2 u hu => ?_⟩⟩
    cases hu with
    | int i =>
      refine ⟨i, rfl, S2, ρ2, env, r2, (he.ex hr x).ex r1 x2, Fin.imp (Fin.bd q2) fun d3 S3 ρ3 H3 x3 r3 q3 w hw => ?_⟩
      cases hw with
      | int j => exact ⟨j, rfl, fin_slice r3 ((hv.ex r1 x2).ex r2 x3) q3⟩
      | _ => exact q3.elim
    | _ => exact q2.elim
theorem de_slo {lo : Expr} {fl : Env → M D} {p2 : Pos} (hK : X.K = g.K) (ha : PE X a (tD g E fa)) (hl : PE X lo (tD g E fl)) :
    PE X (.Subscript a (.Slice (some lo) none none p2) pos) (tD g E fun env => bd (fa env) fun x => bd (fl env) fun l => match l with
      | .int l => slice x (some l) none
      | _ => stuck) :=
  (pe_slice (sr_2 hK) ha (po_some hl) po_none).imp fun σ H Q ⟨S, ρ, env, hr, he, h⟩ => by
    refine ⟨S, ρ, env, hr, he, h.bd.imp fun d S1 ρ1 H1 x r1 q v hv => ⟨S1, ρ1, env, r1, he.ex hr x, q.bd.imp fun d2 S2 ρ2 H2 x2 r2 q2 u hu => ?_⟩⟩
    cases hu with
    | int i => exact ⟨i, rfl, fin_slice r2 (hv.ex r1 x2) q2⟩
    | _ => exact q2.elim
theorem de_shi {hi : Expr} {fh : Env → M D} {p2 : Pos} (hK : X.K = g.K) (ha : PE X a (tD g E fa)) (hh : PE X hi (tD g E fh)) :
    PE X (.Subscript a (.Slice none (some hi) none p2) pos) (tD g E fun env => bd (fa env) fun x => bd (fh env) fun h => match h with
      | .int h => slice x none (some h)
      | _ => stuck) :=
  (pe_slice (sr_2 hK) ha po_none (po_some hh)).imp fun σ H Q ⟨S, ρ, env, hr, he, h⟩ => by
    refine ⟨S, ρ, env, hr, he, h.bd.imp fun d S1 ρ1 H1 x r1 q v hv => ⟨S1, ρ1, env, r1, he.ex hr x, q.bd.imp fun d2 S2 ρ2 H2 x2 r2 q2 u hu => ?_⟩⟩
    cases hu with
    | int i => exact ⟨i, rfl, fin_slice r2 (hv.ex r1 x2) q2⟩
    | _ => exact q2.elim

/-! ### methods of lists -/
theorem sq_loc {l : Nat} {a0 : Addr} (r : Rel g.K g.T S ρ H) (hl : ρ[l]? = some a0) : tyV g.K "list" (.ref a0) H := by
  obtain ⟨xs, hx⟩ := r.addr (List.mem_of_getElem? hl)
  exact .inl ⟨rfl, xs, SqL.of hx⟩
theorem de_app (hK : X.K = g.K) {apos : Pos} (ho : PE X a (tD g E fa)) (hb : PE X b (tD g E fb)) (hbase : attributeBase a "append" X.env (eval a X.env) = eval a X.env) (hline : (apos.endLine == pos.line) = true) (hs : starEach [b] X.env = (false, eval b X.env) :: starEach [] X.env) :
    PE X (.Call (.Attribute a "append" apos) [b] [] pos) (tD g E fun env => bd (fa env) fun o => match o with
      | .loc a => bd (fb env) fun y => bd (getL a) fun xs => bd (putL a (xs ++ [y])) fun _ => ret .non
      | _ => stuck) :=
  (pe_bm PySem.F.plainAttrs_list PySem.F.slot_list_append PySem.F.type_list_append mt_append ho (pa_cons hb pa_nil hs) hbase (by rw [hs]; rfl) hline hs (by rfl)).imp fun σ H Q ⟨S, ρ, env, hr, he, h⟩ => by
    refine ⟨S, ρ, env, hr, he, h.bd.imp fun d S1 ρ1 H1 x r1 q v hv => ?_⟩
    cases hv with
    | @loc a0 l hl =>
      refine ⟨by rw [hK]; exact sq_loc r1 hl, S1, ρ1, env, r1, he.ex hr x, Fin.imp (Fin.bd q) fun d2 S2 ρ2 H2 x2 r2 q2 u hu => ?_⟩
      obtain ⟨xs, ds, e1, t, z, _, q3⟩ := fin_getL r2 (x2.get hl) q2
      obtain ⟨z2, r3, x3, q4⟩ := fin_putL r2 (x2.get hl) (t.app (.one hu)) q3
      refine ⟨a0, xs, u, rfl, rfl, e1, ?_, Fin.ret r3 q4 _ .non⟩
      rw [t.length]
      rw [List.length_append, List.length_singleton] at z2
      omega
    | _ => exact q.elim
theorem de_ext (hK : X.K = g.K) {apos : Pos} (ho : PE X a (tD g E fa)) (hb : PE X b (tD g E fb)) (hbase : attributeBase a "extend" X.env (eval a X.env) = eval a X.env) (hline : (apos.endLine == pos.line) = true) (hs : starEach [b] X.env = (false, eval b X.env) :: starEach [] X.env) :
    PE X (.Call (.Attribute a "extend" apos) [b] [] pos) (tD g E fun env => bd (fa env) fun o => match o with
      | .loc a => bd (fb env) fun y => match y with
        | .loc b => bd (getL a) fun xs => bd (getL b) fun ys => bd (putL a (xs ++ ys)) fun _ => ret .non
        | _ => stuck
      | _ => stuck) :=
  (pe_bm PySem.F.plainAttrs_list PySem.F.slot_list_extend PySem.F.type_list_extend mt_extend ho (pa_cons hb pa_nil hs) hbase (by rw [hs]; rfl) hline hs (by rfl)).imp fun σ H Q ⟨S, ρ, env, hr, he, h⟩ => by
    refine ⟨S, ρ, env, hr, he, h.bd.imp fun d S1 ρ1 H1 x r1 q v hv => ?_⟩
    cases hv with
    | @loc a0 l hl =>
      refine ⟨by rw [hK]; exact sq_loc r1 hl, S1, ρ1, env, r1, he.ex hr x, Fin.imp (Fin.bd q) fun d2 S2 ρ2 H2 x2 r2 q2 u hu => ?_⟩
      cases hu with
      | @loc b0 k hk =>
        obtain ⟨xs, ds, e1, t, z, _, q3⟩ := fin_getL r2 (x2.get hl) q2
        obtain ⟨ys, es, e2, t', z', _, q4⟩ := fin_getL r2 hk q3
        obtain ⟨z2, r3, x3, q5⟩ := fin_putL r2 (x2.get hl) (t.app t') q4
        refine ⟨a0, b0, xs, ys, rfl, rfl, e1, e2, ?_, Fin.ret r3 q5 _ .non⟩
        rw [t.length, t'.length, ← List.length_append]
        exact z2
      | _ => exact q2.elim
    | _ => exact q.elim
theorem dvs_dropLast : ∀ {xs : List V} {ds : List D}, DVs g.K ρ H xs ds → DVs g.K ρ H xs.dropLast ds.dropLast
  | _, _, .nil => .nil
  | _, _, .cons _ .nil => .nil
  | _, _, .cons h (.cons h' t) => .cons h (dvs_dropLast (.cons h' t))
theorem de_pop (hK : X.K = g.K) {apos : Pos} (ho : PE X a (tD g E fa)) (hbase : attributeBase a "pop" X.env (eval a X.env) = eval a X.env) (hline : (apos.endLine == pos.line) = true) :
    PE X (.Call (.Attribute a "pop" apos) [] [] pos) (tD g E fun env => bd (fa env) fun o => match o with
      | .loc a => bd (getL a) fun xs => match xs.getLast? with
        | some y => bd (putL a xs.dropLast) fun _ => ret y
        | none => stuck
      | _ => stuck) :=
  (pe_bm0 PySem.F.plainAttrs_list PySem.F.slot_list_pop PySem.F.type_list_pop mt_pop ho hbase hline).imp fun σ H Q ⟨S, ρ, env, hr, he, h⟩ => by
    refine ⟨S, ρ, env, hr, he, h.bd.imp fun d S1 ρ1 H1 x r1 q v hv => ?_⟩
    cases hv with
    | @loc a0 l hl =>
      refine ⟨by rw [hK]; exact sq_loc r1 hl, ?_⟩
      obtain ⟨xs, ds, e1, t, z, _, q3⟩ := fin_getL r1 hl q
      cases e : ds.getLast? with
      | none => simp only [e] at q3; exact q3.elim
      | some y =>
        simp only [e] at q3
        obtain ⟨z2, r3, x3, q5⟩ := fin_putL r1 hl (dvs_dropLast t) q3
        rw [List.getLast?_eq_getElem?] at e
        obtain ⟨w, e2, e3⟩ := t.get e
        refine ⟨a0, xs, w, rfl, rfl, e1, by rw [t.length]; exact e2, Fin.ret r3 q5 w (e3.ex r1 x3)⟩
    | _ => exact q.elim
end
end Z
end
section
/-! ZSd: targets, walks, statements, comprehensions by data. -/
namespace Z
open PySem PySem.Spec PyProof.Rows L2
section
variable {g : Gl0} {E : XK} {X : Cx} {ρ : List Addr} {H : Hp} {S : Sto} {a b e tg it : Expr} {fa fb : Env → M D} {p pos : Pos} {α : Type}

/-! ### targets -/
def gNames : List Nat → TGs
  | [] => gNil
  | i :: is => gCons (gName i) (gNames is)
def gD (g : Gl0) : T → TG
  | .nm i => gName i
  | .tp is => gTup g.K is.length (gNames is)
theorem EnvR.set {σ : L2.St} {env : Env} {i : Nat} {v : V} {d : D} (h : EnvR g.K ρ H σ env) (hv : DV g.K ρ H v d) : EnvR g.K ρ H (σ.set i (some v)) (env.set i (some d)) := by
  refine ⟨by simp [h.len], fun j d' e => ?_⟩
  by_cases hij : i = j
  · subst hij
    by_cases hl : i < env.length
    · rw [List.getElem?_set_self hl] at e
      cases e
      exact ⟨v, List.getElem?_set_self (by rw [h.len]; exact hl), hv⟩
    · rw [List.getElem?_eq_none (by simpa using hl)] at e
      cases e
  · rw [List.getElem?_set_ne hij] at e
    obtain ⟨u, e1, e2⟩ := h.get j d' e
    exact ⟨u, by rw [List.getElem?_set_ne hij]; exact e1, e2⟩
theorem gNames_ok {env2 : Env} : ∀ {is : List Nat} {vs : List V} {ds : List D} {σ : L2.St} {env : Env} {Q : L2.St → Hp → Prop}, DVs g.K ρ H vs ds → EnvR g.K ρ H σ env → setAll is ds env = some env2 →
    (∀ σ2, EnvR g.K ρ H σ2 env2 → (σ2.length = σ.length ∧ ∀ j, j ∉ is → σ2[j]? = σ[j]?) → Q σ2 H) → gNames is vs σ H Q
  | [], _, _, σ, env, Q, .nil, he, e, h => by
    simp only [setAll, Option.some.injEq] at e
    subst e
    exact ⟨rfl, h σ he ⟨rfl, fun _ _ => rfl⟩⟩
  | i :: is, _, _, σ, env, Q, .cons hv t, he, e, h => by
    simp only [setAll] at e
    refine ⟨_, _, rfl, ?_⟩
    refine gNames_ok t (he.set hv) e fun σ2 h2 hk => h σ2 h2 ⟨by rw [hk.1, List.length_set], fun j hj => ?_⟩
    rw [hk.2 j fun z => hj (List.mem_cons_of_mem _ z), List.getElem?_set_ne fun z => hj (by simp [z])]
  | [], _, _, _, _, _, .cons _ _, _, e, _ => by simp only [setAll] at e; cases e
  | _ :: _, _, _, _, _, _, .nil, _, e, _ => by simp only [setAll] at e; cases e
theorem setAll_len : ∀ {is : List Nat} {ds : List D} {env env2 : Env}, setAll is ds env = some env2 → ds.length = is.length
  | [], [], _, _, _ => rfl
  | _ :: _, _ :: _, _, _, e => by
    simp only [setAll] at e
    simp [setAll_len e]
  | [], _ :: _, _, _, e => by simp only [setAll] at e; cases e
  | _ :: _, [], _, _, e => by simp only [setAll] at e; cases e
/-- a target bound -/
theorem fin_bindT {t : T} {d : D} {v : V} {σ : L2.St} {env : Env} {f : Env → M α} {ok : α → Sto → List Addr → Hp → Prop} {Q : L2.St → Hp → Prop} (r : Rel g.K g.T S ρ H) (he : EnvR g.K ρ H σ env) (hv : DV g.K ρ H v d) (q : Fin g E ρ H (bd (bindT t d env) f S) ok)
    (h : ∀ σ2 env2, EnvR g.K ρ H σ2 env2 → (σ2.length = σ.length ∧ ∀ j, j ∉ t.own → σ2[j]? = σ[j]?) → Fin g E ρ H (f env2 S) ok → Q σ2 H) : gD g t v σ H Q := by
  cases t with
  | nm i => exact h _ _ (he.set hv) ⟨List.length_set .., fun j hj => List.getElem?_set_ne fun z => hj (by simp [T.own, z])⟩ q
  | tp is =>
    cases hv with
    | tup hq t =>
      rename_i a xs ds
      cases e : setAll is ds env with
      | none =>
        unfold bindT Z.bd at q
        simp only [e] at q
        exact q.elim
      | some env2 =>
        have q' : Fin g E ρ H (f env2 S) ok := by
          unfold bindT Z.bd at q
          simp only [e] at q
          exact q
        refine ⟨a, xs, rfl, hq, ?_, gNames_ok t he e fun σ2 h2 hk => h σ2 env2 h2 hk q'⟩
        rw [t.length]
        exact setAll_len e
    | _ =>
      unfold bindT Z.bd at q
      exact q.elim

/-! ### walks -/
/-- what J serves at each turn is what w tells -/
def Serves (g : Gl0) (ρ0 : List Addr) (H0 : Hp) (J : It) (w : W) : Prop := ∀ ρ H S, Ex ρ0 H0 ρ H → Rel g.K g.T S ρ H →
  (∀ i d, i < w.len → w.get i S = .ok d S → J.go i H ∧ ∀ x H', J.yld i H x H' → Ex ρ H ρ H' ∧ Rel g.K g.T S ρ H' ∧ DV g.K ρ H' x d) ∧ (w.fin S = .ok () S → J.stop w.len H)
def tI (g : Gl0) (E : XK) (f : Env → M W) : TI := fun σ H R => ∃ S ρ env, Rel g.K g.T S ρ H ∧ EnvR g.K ρ H σ env ∧ Fin g E ρ H (f env S) fun w _ ρ' H' => ∀ J, Serves g ρ' H' J w → R J H'
theorem _root_.L2.PI.imp {X : Cx} {tg it : Expr} {w w' : TI} (h : PI X tg it w) (i : ∀ σ H R, w' σ H R → w σ H R) : PI X tg it w' := ⟨fun pins s σ H R I q => h.run pins s σ H R I (i σ H R q)⟩
theorem serves_tup {ρ0 : List Addr} {H0 : Hp} {S0 : Sto} {a0 : Addr} {xs : List V} {ds : List D} (r0 : Rel g.K g.T S0 ρ0 H0) (h : SqT g.K H0 a0 xs) (t : DVs g.K ρ0 H0 xs ds) : Serves g ρ0 H0 (Itt g.K a0) (.fix ds) := by
  intro ρ H S x r
  have h' := sqT_ex r0 x h
  have t' := t.ex r0 x
  refine ⟨fun i d hi e => ?_, fun _ => ⟨xs, h', Nat.le_of_eq t'.length⟩⟩
  have e' : ds[i]? = some d := by
    unfold W.get at e
    cases q : ds[i]? with
    | none => simp only [q] at e; cases e
    | some y => simp only [q] at e; cases e; rfl
  obtain ⟨v, h1, h2⟩ := t'.get e'
  refine ⟨⟨xs, v, h', h1⟩, fun y H' hy => ?_⟩
  obtain ⟨e1, e2⟩ := hy
  subst e1
  have e3 := e2 xs h'
  rw [h1] at e3
  cases e3
  exact ⟨Ex.refl _ _, r, h2⟩
theorem serves_ro {ρ0 : List Addr} {H0 : Hp} {S0 : Sto} {a0 : Addr} {xs : List V} {ds : List D} (r0 : Rel g.K g.T S0 ρ0 H0) (h : RoL g.K H0 a0 xs) (t : DVs g.K ρ0 H0 xs ds) : Serves g ρ0 H0 (Itl g.K a0) (.fix ds) := by
  intro ρ H S x r
  have h' := (roL_ex r0 x h).sq
  have t' := t.ex r0 x
  refine ⟨fun i d hi e => ?_, fun _ => ⟨xs, h', Nat.le_of_eq t'.length⟩⟩
  have e' : ds[i]? = some d := by
    unfold W.get at e
    cases q : ds[i]? with
    | none => simp only [q] at e; cases e
    | some y => simp only [q] at e; cases e; rfl
  obtain ⟨v, h1, h2⟩ := t'.get e'
  refine ⟨⟨xs, v, h', h1⟩, fun y H' hy => ?_⟩
  obtain ⟨e1, e2⟩ := hy
  subst e1
  have e3 := e2 xs h'
  rw [h1] at e3
  cases e3
  exact ⟨Ex.refl _ _, r, h2⟩
theorem getL_ok {l : Nat} {S S' : Sto} {ds : List D} (h : getL l S = .ok ds S') : S[l]? = some (.lst ds) ∧ S' = S := by
  unfold getL at h
  cases q : S[l]? with
  | none => simp only [q] at h; cases h
  | some o =>
    cases o with
    | lst k => simp only [q] at h; cases h; exact ⟨rfl, rfl⟩
theorem serves_loc {ρ0 : List Addr} {H0 : Hp} {l : Nat} {a0 : Addr} {n : Nat} (hl : ρ0[l]? = some a0) : Serves g ρ0 H0 (Itl g.K a0) (.at l n) := by
  intro ρ H S x r
  have hl' := x.get hl
  refine ⟨fun i d hi e => ?_, fun e => ?_⟩
  · unfold W.get Z.bd at e
    cases q : getL l S with
    | ok ds S' =>
      obtain ⟨e1, e2⟩ := getL_ok q
      subst e2
      simp only [q] at e
      by_cases hn : ds.length = n
      · rw [if_pos hn] at e
        have e' : ds[i]? = some d := by
          cases q2 : ds[i]? with
          | none => simp only [q2] at e; cases e
          | some y => simp only [q2] at e; cases e; rfl
        obtain ⟨a', xs, h1, h2, t, _⟩ := r.lst e1
        rw [hl'] at h1
        cases h1
        obtain ⟨v, h3, h4⟩ := t.get e'
        refine ⟨⟨xs, v, SqL.of h2, h3⟩, fun y H' hy => ?_⟩
        obtain ⟨e3, e4⟩ := hy
        subst e3
        have e5 := e4 xs (SqL.of h2)
        rw [h3] at e5
        cases e5
        exact ⟨Ex.refl _ _, r, h4⟩
      · rw [if_neg hn] at e
        cases e
    | exc c w S' => simp only [q] at e; cases e
    | stuck => simp only [q] at e; cases e
  · unfold W.fin Z.bd at e
    cases q : getL l S with
    | ok ds S' =>
      obtain ⟨e1, e2⟩ := getL_ok q
      subst e2
      simp only [q] at e
      by_cases hn : ds.length = n
      · obtain ⟨a', xs, h1, h2, t, _⟩ := r.lst e1
        rw [hl'] at h1
        cases h1
        exact ⟨xs, SqL.of h2, by rw [t.length, hn]; exact Nat.le_refl _⟩
      · rw [if_neg hn] at e
        cases e
    | exc c w S' => simp only [q] at e; cases e
    | stuck => simp only [q] at e; cases e
theorem ranges_get {lo hi : Int} {i : Nat} {d : D} (h : (ranges lo hi)[i]? = some d) : d = .int (lo + i) ∧ i < (hi - lo).toNat := by
  unfold ranges at h
  rw [List.getElem?_map] at h
  have hl : i < (List.range (hi - lo).toNat).length := by
    cases q : (List.range (hi - lo).toNat)[i]? with
    | none => rw [q] at h; cases h
    | some y => exact (List.getElem?_eq_some_iff.mp q).1
  simp at hl
  simp [hl] at h
  exact ⟨h.symm, by omega⟩
theorem ranges_len (lo hi : Int) : (ranges lo hi).length = (hi - lo).toNat := by unfold ranges; simp
theorem serves_range {ρ0 : List Addr} {H0 : Hp} {lo hi : Int} : Serves g ρ0 H0 (Itr lo (hi - lo).toNat) (.fix (ranges lo hi)) := by
  intro ρ H S x r
  refine ⟨fun i d hi' e => ?_, fun _ => ?_⟩
  · have e' : (ranges lo hi)[i]? = some d := by
      unfold W.get at e
      cases q : (ranges lo hi)[i]? with
      | none => simp only [q] at e; cases e
      | some y => simp only [q] at e; cases e; rfl
    obtain ⟨e1, e2⟩ := ranges_get e'
    subst e1
    refine ⟨e2, fun y H' hy => ?_⟩
    obtain ⟨e3, e4⟩ := hy
    subst e3 e4
    exact ⟨Ex.refl _ _, r, .int _⟩
  · show (hi - lo).toNat ≤ (ranges lo hi).length
    rw [ranges_len]
    exact Nat.le_refl _
theorem numbered_get {ds : List D} {i : Nat} {d : D} (h : (numbered ds)[i]? = some d) : ∃ y, ds[i]? = some y ∧ d = .tup [.int (i : Int), y] := by
  unfold numbered at h
  rw [List.getElem?_map, List.getElem?_zipIdx] at h
  cases q : ds[i]? with
  | none => rw [q] at h; cases h
  | some y =>
    rw [q] at h
    simp at h
    exact ⟨y, rfl, h.symm⟩
theorem numbered_len (ds : List D) : (numbered ds).length = ds.length := by unfold numbered; simp
theorem fix_get {l : List D} {i : Nat} {d : D} {S : Sto} (e : W.get (.fix l) i S = .ok d S) : l[i]? = some d := by
  unfold W.get at e
  cases q : l[i]? with
  | none => simp only [q] at e; cases e
  | some y => simp only [q] at e; cases e; rfl
theorem serves_enum {ρ0 : List Addr} {H0 : Hp} {S0 : Sto} {a0 : Addr} {xs : List V} {ds : List D} (r0 : Rel g.K g.T S0 ρ0 H0) (h : SqT g.K H0 a0 xs) (t : DVs g.K ρ0 H0 xs ds) : Serves g ρ0 H0 (IteT g.K a0) (.fix (numbered ds)) := by
  intro ρ H S x r
  have h' := sqT_ex r0 x h
  have t' := t.ex r0 x
  refine ⟨fun i d hi e => ?_, fun _ => ⟨xs, h', ?_⟩⟩
  · obtain ⟨y, e1, e2⟩ := numbered_get (fix_get e)
    subst e2
    obtain ⟨v, h1, h2⟩ := t'.get e1
    refine ⟨⟨xs, v, h', h1⟩, fun z H' hz => ?_⟩
    obtain ⟨T, x', e3, e4, e5, e6⟩ := hz
    subst e3 e5
    have e7 := e6 xs h'
    rw [h1] at e7
    cases e7
    exact ⟨Ex.new e4, r.new e4, tup_new r e4 (.cons (.int _) (.one h2))⟩
  · show xs.length ≤ (numbered ds).length
    rw [numbered_len, t'.length]
    exact Nat.le_refl _
/-- a value walked -/
theorem di_val (hK : X.K = g.K) (ha : PE X a (tD g E fa)) : PI X tg a (tI g E fun env => bd (fa env) walkOf) :=
  (pi_seq ha).imp fun σ H R ⟨S, ρ, env, hr, he, h⟩ => by
    refine ⟨S, ρ, env, hr, he, h.bd.imp fun d S1 ρ1 H1 x r1 q v hv => ?_⟩
    rw [hK]
    cases hv with
    | tup h t => exact ⟨_, rfl, .inr ⟨⟨_, h⟩, Fin.ret r1 q _ (serves_tup r1 h t)⟩⟩
    | ro h t => exact ⟨_, rfl, .inl ⟨⟨_, h.sq⟩, Fin.ret r1 q _ (serves_ro r1 h t)⟩⟩
    | loc hl =>
      obtain ⟨xs, ds, e1, t, z, _, q⟩ := fin_getL r1 hl q
      exact ⟨_, rfl, .inl ⟨⟨_, SqL.of e1⟩, Fin.ret r1 q _ (serves_loc hl)⟩⟩
    | _ => exact q.elim
theorem rgok_iff {i : Int} (h : rgok i = true) : -(2 ^ 62) ≤ i ∧ i < 2 ^ 62 := by
  unfold rgok at h
  simpa using h
theorem di_rg1 (hg : Gl X "range") (hm : X.mg "range" = none) (ha : PE X a (tD g E fa)) (hs : starEach [a] X.env = (false, eval a X.env) :: starEach [] X.env) :
    PI X tg (.Call (.Name "range" p) [a] [] pos) (tI g E fun env => bd (fa env) fun x => match x with
      | .int j => if rgok j = true then ret (.fix (ranges 0 j)) else stuck
      | _ => stuck) :=
  (pi_range1 hg hm (pa_cons ha pa_nil hs) hs).imp fun σ H R ⟨S, ρ, env, hr, he, h⟩ => by
    refine ⟨S, ρ, env, hr, he, h.bd.imp fun d S1 ρ1 H1 x r1 q v hv => ?_⟩
    cases hv with
    | int j =>
      by_cases hj : rgok j = true
      · have q' : Fin g E ρ1 H1 (ret (W.fix (ranges 0 j)) S1) (fun w _ ρ' H' => ∀ J, Serves g ρ' H' J w → R J H') := by
          have e : (if rgok j = true then ret (W.fix (ranges 0 j)) else stuck) = ret (W.fix (ranges 0 j)) := if_pos hj
          rw [← e]
          exact q
        obtain ⟨h1, h2⟩ := rgok_iff hj
        refine ⟨j, rfl, h1, h2, Fin.ret r1 q' _ ?_⟩
        have := serves_range (g := g) (ρ0 := ρ1) (H0 := H1) (lo := 0) (hi := j)
        rw [Int.sub_zero] at this
        exact this
      · have e : (if rgok j = true then ret (W.fix (ranges 0 j)) else stuck) = stuck := if_neg hj
        have q' : Fin g E ρ1 H1 ((stuck : M W) S1) (fun w _ ρ' H' => ∀ J, Serves g ρ' H' J w → R J H') := by
          rw [← e]
          exact q
        exact q'.elim
    | _ => exact q.elim
theorem di_rg2 (hg : Gl X "range") (hm : X.mg "range" = none) (ha : PE X a (tD g E fa)) (hb : PE X b (tD g E fb)) (hs : starEach [a, b] X.env = (false, eval a X.env) :: starEach [b] X.env) (hs2 : starEach [b] X.env = (false, eval b X.env) :: starEach [] X.env) :
    PI X tg (.Call (.Name "range" p) [a, b] [] pos) (tI g E fun env => bd (fa env) fun x => bd (fb env) fun y => match x, y with
      | .int i, .int j => if (rgok i && rgok j) = true then ret (.fix (ranges i j)) else stuck
      | _, _ => stuck) :=
  (pi_range2 hg hm (pa_cons ha (pa_cons hb pa_nil hs2) hs) (by rw [hs, hs2]; rfl) (by rw [hs2]; rfl)).imp fun σ H R ⟨S, ρ, env, hr, he, h⟩ => by
    refine ⟨S, ρ, env, hr, he, h.bd.imp fun d S1 ρ1 H1 x r1 q v hv => ⟨S1, ρ1, env, r1, he.ex hr x, q.bd.imp fun d2 S2 ρ2 H2 x2 r2 q2 u hu => ?_⟩⟩
    cases hv with
    | int i =>
      cases hu with
      | int j =>
        by_cases hj : (rgok i && rgok j) = true
        · have e : (if (rgok i && rgok j) = true then ret (W.fix (ranges i j)) else stuck) = ret (W.fix (ranges i j)) := if_pos hj
          have q' : Fin g E ρ2 H2 (ret (W.fix (ranges i j)) S2) (fun w _ ρ' H' => ∀ J, Serves g ρ' H' J w → R J H') := by
            rw [← e]
            exact q2
          rw [Bool.and_eq_true] at hj
          obtain ⟨h1, h2⟩ := rgok_iff hj.1
          obtain ⟨h3, h4⟩ := rgok_iff hj.2
          exact ⟨i, j, rfl, ⟨h1, h2, h3, h4⟩, Fin.ret r2 q' _ serves_range⟩
        · have e : (if (rgok i && rgok j) = true then ret (W.fix (ranges i j)) else stuck) = stuck := if_neg hj
          have q' : Fin g E ρ2 H2 ((stuck : M W) S2) (fun w _ ρ' H' => ∀ J, Serves g ρ' H' J w → R J H') := by
            rw [← e]
            exact q2
          exact q'.elim
      | _ => exact q2.elim
    | _ => cases hu <;> exact q2.elim
theorem di_enum {elts : List Expr} {kk : Nat} {tpos : Pos} (hK : X.K = g.K) (hg : Gl X "enumerate") (hm : X.mg "enumerate" = none) (ha : PE X a (tD g E fa)) (hs : starEach [a] X.env = (false, eval a X.env) :: starEach [] X.env) :
    PI X (.Tuple elts kk tpos) (.Call (.Name "enumerate" p) [a] [] pos) (tI g E fun env => bd (fa env) fun x => match x with
      | .tup l => ret (.fix (numbered l))
      | _ => stuck) :=
  (pi_enumT hg hm (pa_cons ha pa_nil hs) hs).imp fun σ H R ⟨S, ρ, env, hr, he, h⟩ => by
    refine ⟨S, ρ, env, hr, he, h.bd.imp fun d S1 ρ1 H1 x r1 q v hv => ?_⟩
    cases hv with
    | tup h t =>
      refine ⟨_, _, rfl, by rw [hK]; exact h, ?_⟩
      rw [hK]
      exact Fin.ret r1 q _ (serves_enum r1 h t)
    | _ => exact q.elim

/-! ### statements -/
def okF (g : Gl0) (D : Ends) : F → Sto → List Addr → Hp → Prop := fun f _ ρ' H' => match f with
  | .next env' => ∀ σ', EnvR g.K ρ' H' σ' env' → D.nx σ' H'
  | .brk env' => ∀ σ', EnvR g.K ρ' H' σ' env' → D.bk σ' H'
  | .cont env' => ∀ σ', EnvR g.K ρ' H' σ' env' → D.ct σ' H'
  | .ret d => ∀ v, DV g.K ρ' H' v d → D.rt v H'
def tS (g : Gl0) (E : XK) (f : Env → M F) : TS := fun D σ H => ∃ S ρ env, Rel g.K g.T S ρ H ∧ EnvR g.K ρ H σ env ∧ Fin g E ρ H (f env S) (okF g D)
theorem ds_nil : PSs X [] (tS g E fun env => Z.ret (.next env)) := pss_nil.imp fun D σ H ⟨S, ρ, env, hr, he, h⟩ => h.ret hr σ he
theorem ds_cons {st : Stmt} {rest : List Stmt} {f h : Env → M F} (h1 : PS X st (tS g E f)) (h2 : PSs X rest (tS g E h)) : PSs X (st :: rest) (tS g E fun env => bd (f env) fun k => match k with
    | .next env' => h env'
    | k => Z.ret k) :=
  (pss_cons h1 h2).imp fun D σ H ⟨S, ρ, env, hr, he, q⟩ => by
    refine ⟨S, ρ, env, hr, he, q.bd.imp fun k S1 ρ1 H1 x r1 q1 => ?_⟩
    cases k with
    | next env' => exact fun σ' he' => ⟨S1, ρ1, env', r1, he', q1⟩
    | brk env' => exact fun σ' he' => Fin.ret r1 q1 σ' he'
    | cont env' => exact fun σ' he' => Fin.ret r1 q1 σ' he'
    | ret d => exact fun v hv => Fin.ret r1 q1 v hv
theorem ds_pass : PS X (.Pass pos) (tS g E fun env => Z.ret (.next env)) := ps_pass.imp fun D σ H ⟨S, ρ, env, hr, he, h⟩ => h.ret hr σ he
theorem ds_brk : PS X (.Break pos) (tS g E fun env => Z.ret (.brk env)) := ps_break.imp fun D σ H ⟨S, ρ, env, hr, he, h⟩ => h.ret hr σ he
theorem ds_cont : PS X (.Continue pos) (tS g E fun env => Z.ret (.cont env)) := ps_continue.imp fun D σ H ⟨S, ρ, env, hr, he, h⟩ => h.ret hr σ he
theorem ds_expr (ha : PE X a (tD g E fa)) (hs : swapsWith a none pos.line X.env = pure false) : PS X (.Expr a pos) (tS g E fun env => bd (fa env) fun _ => Z.ret (.next env)) :=
  (ps_expr ha hs).imp fun D σ H ⟨S, ρ, env, hr, he, h⟩ => ⟨S, ρ, env, hr, he, h.bd.imp fun d S1 ρ1 H1 x r1 q v hv => q.ret r1 σ (he.ex hr x)⟩
theorem ds_ret (ha : PE X a (tD g E fa)) : PS X (.Return (some a) pos) (tS g E fun env => bd (fa env) fun d => Z.ret (.ret d)) :=
  (ps_ret ha).imp fun D σ H ⟨S, ρ, env, hr, he, h⟩ => ⟨S, ρ, env, hr, he, h.bd.imp fun d S1 ρ1 H1 x r1 q v hv => q.ret r1 v hv⟩
theorem ds_if {t : Expr} {ft : Env → M Bool} {sa sb : List Stmt} {f h : Env → M F} (ht : PT X t (tTst g E ft)) (ha : PSs X sa (tS g E f)) (hb : PSs X sb (tS g E h)) : PS X (.If t sa sb pos) (tS g E fun env => bd (ft env) fun c => if c = true then f env else h env) :=
  (ps_if ht ha hb).imp fun D σ H ⟨S, ρ, env, hr, he, q⟩ => by
    refine ⟨S, ρ, env, hr, he, q.bd.imp fun c S1 ρ1 H1 x r1 q => ?_⟩
    cases c with
    | true => exact ⟨S1, ρ1, env, r1, he.ex hr x, q⟩
    | false => exact ⟨S1, ρ1, env, r1, he.ex hr x, q⟩
/-- target = e -/
theorem ds_asg {t : T} (hp : PG X tg (gD g t)) (ha : PE X a (tD g E fa)) (h : ∀ (te : TE) (gg : TG), PE X a te → PG X tg gg → PS X (.Assign [tg] a pos) (tAsg te gg)) :
    PS X (.Assign [tg] a pos) (tS g E fun env => bd (fa env) fun d => bd (bindT t d env) fun env' => Z.ret (.next env')) :=
  (h _ _ ha hp).imp fun D σ H ⟨S, ρ, env, hr, he, q⟩ => by
    refine ⟨S, ρ, env, hr, he, q.bd.imp fun d S1 ρ1 H1 x r1 q1 v hv => ?_⟩
    exact fin_bindT r1 (he.ex hr x) hv q1 fun σ2 env2 h2 _ q2 => Fin.ret r1 q2 σ2 h2
/-- a, b = x, y -/
theorem ds_par {i j : Nat} {x y : Str} {px py pt : Pos} {kt k2 : Nat} {pt2 : Pos} (hc : X.calm = true) (hN : X.N.Nodup) (hi : X.N[i]? = some x) (hj : X.N[j]? = some y) (hij : i ≠ j)
    (hx : X.env.scope.names.lookup x = some .local) (hy : X.env.scope.names.lookup y = some .local) (ha : PE X a (tD g E fa)) (hb : PE X b (tD g E fb)) (hs : starEach [a, b] X.env = (false, eval a X.env) :: starEach [b] X.env) (hs2 : starEach [b] X.env = (false, eval b X.env) :: starEach [] X.env)
    (hw : swappedStores [.Tuple [.Name x px, .Name y py] kt pt] (.Tuple [a, b] k2 pt2) X.env = pure (some [x, y])) :
    PS X (.Assign [.Tuple [.Name x px, .Name y py] kt pt] (.Tuple [a, b] k2 pt2) pos) (tS g E fun env => bd (fa env) fun d => bd (fb env) fun d' => Z.ret (.next ((env.set i (some d)).set j (some d')))) :=
  (ps_par hc hN hi hj hij hx hy (pa_cons ha (pa_cons hb pa_nil hs2) hs) hw).imp fun D σ H ⟨S, ρ, env, hr, he, h⟩ => by
    refine ⟨S, ρ, env, hr, he, h.bd.imp fun d S1 ρ1 H1 x r1 q v hv => ⟨S1, ρ1, env, r1, he.ex hr x, q.bd.imp fun d2 S2 ρ2 H2 x2 r2 q2 u hu => ⟨v, u, rfl, ?_⟩⟩⟩
    exact q2.ret r2 _ ((((he.ex hr x).ex r1 x2).set (hv.ex r1 x2)).set hu)
/-- o[i] = e -/
theorem ds_put {o i : Expr} {fo fi : Env → M D} {p2 : Pos} (ha : PE X a (tD g E fa)) (ho : PE X o (tD g E fo)) (hi : PE X i (tD g E fi)) (hs : swapsWithSole [.Subscript o i p2] a pos.line X.env = pure false) (hw : swappedStores [.Subscript o i p2] a X.env = pure none)
    (hq : ∀ v, assign (.Subscript o i p2) X.env v = (do
      let ov ← holding [v] (eval o X.env)
      let iv ← holding [v, ov] (eval i X.env)
      standAt p2
      holding [v, ov, iv] (setItem ov iv v)
      release [v, ov, iv] [])) :
    PS X (.Assign [.Subscript o i p2] a pos) (tS g E fun env => bd (fa env) fun y => bd (fo env) fun x => bd (fi env) fun k => match x, k with
      | .loc a, .int n => bd (getL a) fun l => match place l.length n with
        | some j => bd (putL a (l.set j y)) fun _ => Z.ret (.next env)
        | none => stuck
      | _, _ => stuck) :=
  (ps_asg ha (pg_sub ho hi set_list hq) hs hw (by rfl)).imp fun D σ H ⟨S, ρ, env, hr, he, h⟩ => by
    refine ⟨S, ρ, env, hr, he, h.bd.imp fun d S1 ρ1 H1 x r1 q v hv => ⟨S1, ρ1, env, r1, he.ex hr x, q.bd.imp fun d2 S2 ρ2 H2 x2 r2 q2 u hu => ⟨S2, ρ2, env, r2, (he.ex hr x).ex r1 x2, q2.bd.imp fun d3 S3 ρ3 H3 x3 r3 q3 w hw => ?_⟩⟩⟩
    have hu := hu.ex r2 x3
    have hv := (hv.ex r1 x2).ex r2 x3
    cases hu with
    | loc hl =>
      cases hw with
      | int n =>
        obtain ⟨xs, ds, e1, t, z, _, q4⟩ := fin_getL r3 hl q3
        cases e : place ds.length n with
        | none => simp only [e] at q4; exact q4.elim
        | some j =>
          simp only [e] at q4
          obtain ⟨z2, r4, x4, q5⟩ := fin_putL r3 hl (t.set j hv) q4
          exact ⟨_, xs, n, j, rfl, rfl, e1, by rw [t.length, ← place_eq]; exact e, Fin.ret r4 q5 σ ((((he.ex hr x).ex r1 x2).ex r2 x3).ex r3 x4)⟩
      | _ => exact q3.elim
    | _ => cases hw <;> exact q3.elim
theorem getL_no {l : Nat} {S S' : Sto} {c : Nat} {w : D} : getL l S ≠ .exc c w S' := fun q => by
  unfold getL at q
  split at q <;> cases q
theorem w_fin (w : W) (S : Sto) : w.fin S = .ok () S ∨ w.fin S = .stuck := by
  cases w with
  | fix l => exact .inl rfl
  | «at» a0 n =>
    have e : W.fin (.at a0 n) S = bd (getL a0) (fun l => if l.length = n then ret () else stuck) S := rfl
    rw [e]
    cases q : getL a0 S with
    | ok ds S' =>
      obtain ⟨_, e2⟩ := getL_ok q
      subst e2
      by_cases hn : ds.length = n
      · exact .inl (by simp only [bd, q, if_pos hn]; rfl)
      · exact .inr (by simp only [bd, q, if_neg hn]; rfl)
    | exc c w S' => exact (getL_no q).elim
    | stuck => exact .inr (by simp only [bd, q])
theorem w_get (w : W) (i : Nat) (S : Sto) : (∃ d, w.get i S = .ok d S) ∨ w.get i S = .stuck := by
  cases w with
  | fix l =>
    have e : W.get (.fix l) i S = (match l[i]? with | some d => ret d | none => (stuck : M D)) S := rfl
    rw [e]
    cases q : l[i]? with
    | none => exact .inr rfl
    | some y => exact .inl ⟨y, rfl⟩
  | «at» a0 n =>
    have e : W.get (.at a0 n) i S = bd (getL a0) (fun l => if l.length = n then (match l[i]? with | some d => ret d | none => stuck) else stuck) S := rfl
    rw [e]
    cases q : getL a0 S with
    | ok ds S' =>
      obtain ⟨_, e2⟩ := getL_ok q
      subst e2
      by_cases hn : ds.length = n
      · cases q2 : ds[i]? with
        | none => exact .inr (by simp only [bd, q, if_pos hn, q2]; rfl)
        | some y => exact .inl ⟨y, by simp only [bd, q, if_pos hn, q2]; rfl⟩
      · exact .inr (by simp only [bd, q, if_neg hn]; rfl)
    | exc c w S' => exact (getL_no q).elim
    | stuck => exact .inr (by simp only [bd, q])
theorem fin_wfin {w : W} {f : Unit → M α} {ok : α → Sto → List Addr → Hp → Prop} (q : Fin g E ρ H (bd w.fin f S) ok) : w.fin S = .ok () S ∧ Fin g E ρ H (f () S) ok := by
  unfold Z.bd at q
  rcases w_fin w S with e | e
  · rw [e] at q; exact ⟨e, q⟩
  · rw [e] at q; exact q.elim
theorem fin_wget {w : W} {i : Nat} {f : D → M α} {ok : α → Sto → List Addr → Hp → Prop} (q : Fin g E ρ H (bd (w.get i) f S) ok) : ∃ d, w.get i S = .ok d S ∧ Fin g E ρ H (f d S) ok := by
  unfold Z.bd at q
  rcases w_get w i S with ⟨d, e⟩ | e
  · rw [e] at q; exact ⟨d, e, q⟩
  · rw [e] at q; exact q.elim
/-- what a turn of a loop asks -/
theorem turn_ok {f : Env → M F} {k : F → M F} {D : Ends} {N : L2.St → Hp → Prop} {env : Env} (q : Fin g E ρ H (bd (f env) k S) (okF g D))
    (hn : ∀ env' S' ρ' H' σ', Ex ρ H ρ' H' → Rel g.K g.T S' ρ' H' → EnvR g.K ρ' H' σ' env' → Fin g E ρ' H' (k (.next env') S') (okF g D) → N σ' H')
    (hk : ∀ env', k (.cont env') = k (.next env')) (hb : ∀ env', k (.brk env') = Z.ret (.next env')) (hr : ∀ d, k (.ret d) = Z.ret (.ret d)) :
    Fin g E ρ H (f env S) (okF g { D with nx := N, ct := N, bk := D.nx }) := by
  refine q.bd.imp fun a S' ρ' H' x r q => ?_
  cases a with
  | next env' => exact fun σ' he => hn env' S' ρ' H' σ' x r he q
  | cont env' => exact fun σ' he => hn env' S' ρ' H' σ' x r he (by rw [hk] at q; exact q)
  | brk env' =>
    rw [hb] at q
    exact fun σ' he => Fin.ret r q σ' he
  | ret d =>
    rw [hr] at q
    exact fun v hv => Fin.ret r q v hv
/-- a for -/
theorem ds_for {t : T} {fw : Env → M W} {body : List Stmt} {fbody : Env → M F} (hp : PassesOwn (model X.prog X.w) X.A X.env X.xe) (hc : X.calm = true) (hi : PI X tg it (tI g E fw)) (hg : PG X tg (gD g t)) (hb : PSs X body (tS g E fbody))
    (hs : ∀ x, foldedSetIterable it X.env x = pure x) : PS X (.For tg it body [] pos) (tS g E fun env => bd (fw env) fun w => forL w (fun d env => bd (bindT t d env) fbody) 0 w.len env) :=
  (ps_for hp hc hi hg hb hs).imp fun D σ H ⟨S, ρ, env, hr, he, h⟩ => by
    refine ⟨S, ρ, env, hr, he, h.bd.imp fun w S1 ρ1 H1 x r1 q J sv => ?_⟩
    refine ⟨fun i m σ H => i + m = w.len ∧ ∃ S ρ env, Ex ρ1 H1 ρ H ∧ Rel g.K g.T S ρ H ∧ EnvR g.K ρ H σ env ∧ Fin g E ρ H (forL w (fun d env => bd (bindT t d env) fbody) i m env S) (okF g D),
      ⟨w.len, by simp, S1, ρ1, env, Ex.refl _ _, r1, he.ex hr x, q⟩, ?_⟩
    rintro i m σ3 H3 ⟨hm, S3, ρ3, env3, x3, r3, he3, q3⟩
    obtain ⟨sv1, sv2⟩ := sv ρ3 H3 S3 x3 r3
    cases m with
    | zero =>
      obtain ⟨e, q4⟩ := fin_wfin (w := w) (f := fun _ => Z.ret (F.next env3)) q3
      refine .inl ⟨?_, Fin.ret r3 q4 σ3 he3⟩
      have : i = w.len := by omega
      rw [this]
      exact sv2 e
    | succ m =>
      obtain ⟨d, e, q4⟩ := fin_wget (w := w) (i := i) (f := fun d => bd (bd (bindT t d env3) fbody) fun f => match f with
        | .next σ' | .cont σ' => forL w (fun d env => bd (bindT t d env) fbody) (i + 1) m σ'
        | .brk σ' => Z.ret (.next σ')
        | .ret d => Z.ret (.ret d)) q3
      obtain ⟨go, yl⟩ := sv1 i d (by omega) e
      refine .inr ⟨go, fun σ' H' => ∃ m', m' < m + 1 ∧ (i + 1 + m' = w.len ∧ ∃ S ρ env, Ex ρ1 H1 ρ H' ∧ Rel g.K g.T S ρ H' ∧ EnvR g.K ρ H' σ' env ∧ Fin g E ρ H' (forL w (fun d env => bd (bindT t d env) fbody) (i + 1) m' env S) (okF g D)), fun σ' H' h => h, fun y H' hy => ?_⟩
      obtain ⟨x4, r4, hv⟩ := yl y H' hy
      have q5 : Fin g E ρ3 H' (bd (bindT t d env3) (fun env2 => bd (fbody env2) fun f => match f with
        | .next σ' | .cont σ' => forL w (fun d env => bd (bindT t d env) fbody) (i + 1) m σ'
        | .brk σ' => Z.ret (.next σ')
        | .ret d => Z.ret (.ret d)) S3) (okF g D) := by
        have e : ∀ {α β γ : Type} (m : M α) (f : α → M β) (k : β → M γ) S, bd (bd m f) k S = bd m (fun x => bd (f x) k) S := fun m f k S => by
          unfold bd
          cases m S <;> rfl
        rw [← e]
        exact q4.ex x4
      refine fin_bindT r4 (he3.ex r3 x4) hv q5 fun σ2 env2 h2 _ q6 => ⟨S3, ρ3, env2, r4, h2, turn_ok q6 (fun env' S' ρ' H'' σ' x r he q => ?_) (fun _ => rfl) (fun _ => rfl) fun _ => rfl⟩
      exact ⟨m, Nat.lt_succ_self m, by omega, S', ρ', env', (x3.trans x4).trans x, r, he, q⟩
/-- a while -/
theorem ds_while {t : Expr} {ft : Env → M Bool} {body : List Stmt} {fbody : Env → M F} (hp : PassesOwn (model X.prog X.w) X.A X.env X.xe) (ht : PT X t (tTst g E ft)) (hb : PSs X body (tS g E fbody)) :
    PS X (.While t body [] pos) (tS g E fun env => whilL ft fbody env) :=
  (ps_while hp ht hb).imp fun D σ H ⟨S, ρ, env, hr, he, h⟩ => by
    have h' : ∃ n, Fin g E ρ H (whilN ft fbody n env S) (okF g D) := by
      obtain ⟨n, e⟩ := whilL_is (t := ft) (b := fbody) (σ := env) (S := S)
      exact ⟨n, by rw [← e]; exact h⟩
    obtain ⟨n, h⟩ := h'
    refine ⟨fun m σ H => ∃ S ρ env, Rel g.K g.T S ρ H ∧ EnvR g.K ρ H σ env ∧ Fin g E ρ H (whilN ft fbody m env S) (okF g D), ⟨n, S, ρ, env, hr, he, h⟩, ?_⟩
    rintro m σ3 H3 ⟨S3, ρ3, env3, r3, he3, q3⟩
    cases m with
    | zero => exact q3.elim
    | succ m =>
      refine ⟨S3, ρ3, env3, r3, he3, Fin.imp (Fin.bd (f := fun c => if c = true then bd (fbody env3) fun f => match f with
        | .next σ' | .cont σ' => whilN ft fbody m σ'
        | .brk σ' => Z.ret (.next σ')
        | .ret d => Z.ret (.ret d)
        else Z.ret (.next env3)) q3) fun c S4 ρ4 H4 x4 r4 q4 => ?_⟩
      cases c with
      | true =>
        refine ⟨fun σ' H' => ∃ m', m' < m + 1 ∧ ∃ S ρ env, Rel g.K g.T S ρ H' ∧ EnvR g.K ρ H' σ' env ∧ Fin g E ρ H' (whilN ft fbody m' env S) (okF g D), fun σ' H' h => h, S4, ρ4, env3, r4, he3.ex r3 x4, turn_ok q4 (fun env' S' ρ' H'' σ' x r he q => ?_) (fun _ => rfl) (fun _ => rfl) fun _ => rfl⟩
        exact ⟨m, Nat.lt_succ_self m, S', ρ', env', r, he, q⟩
      | false => exact Fin.ret r4 q4 σ3 (he3.ex r3 x4)
end
end Z
end
section
/-! ZSe: comprehensions by data. -/
namespace Z
open PySem PySem.Spec PyProof.Rows L2
section
variable {g : Gl0} {E : XK} {X : Cx} {ρ : List Addr} {H : Hp} {S : Sto} {tg iter elt : Expr} {pos : Pos} {Da : Addr} {xs ys : List V} {ds : List D}
/-- nothing leaves -/
abbrev noE : XK := fun _ _ _ => False
mutual
theorem dv_aside (hD : H Da = some (.lst xs)) : ∀ {v : V} {d : D}, DV g.K ρ H v d → DV g.K ρ (upd H Da (.lst ys)) v d
  | _, _, .non => .non
  | _, _, .bl b => .bl b
  | _, _, .int i => .int i
  | _, _, .str x => .str x
  | _, _, .tup h t => .tup (by
      rcases h with (h | ⟨o, h⟩) | h
      · exact .inl (.inl (by rw [upd_ne (ne_of h hD (by intro z; cases z))]; exact h))
      · exact .inl (.inr ⟨o, by rw [upd_ne (ne_of h hD (by intro z; cases z))]; exact h⟩)
      · exact .inr h) (dvs_aside hD t)
  | _, _, .ro h t => .ro (by
      rcases h with ⟨o, h⟩ | h
      · exact .inl ⟨o, by rw [upd_ne (ne_of h hD (by intro z; cases z))]; exact h⟩
      · exact .inr h) (dvs_aside hD t)
  | _, _, .loc h => .loc h
theorem dvs_aside (hD : H Da = some (.lst xs)) : ∀ {vs : List V} {ds : List D}, DVs g.K ρ H vs ds → DVs g.K ρ (upd H Da (.lst ys)) vs ds
  | _, _, .nil => .nil
  | _, _, .cons h t => .cons (dv_aside hD h) (dvs_aside hD t)
end
/-- a list that is not of the store is written -/
theorem Rel.aside (r : Rel g.K g.T S ρ H) (hD : H Da = some (.lst xs)) (hn : Da ∉ ρ) : Rel g.K g.T S ρ (upd H Da (.lst ys)) := by
  refine ⟨r.len, r.inj, fun l o h => ?_, fun p hp => ?_⟩
  · obtain ⟨a, e, x⟩ := r.obj l o h
    refine ⟨a, e, ?_⟩
    cases o with
    | lst ds =>
      obtain ⟨z, vs, h1, h2⟩ := x
      refine ⟨z, vs, ?_, dvs_aside hD h2⟩
      rw [upd_ne]
      · exact h1
      · rintro rfl
        exact hn (List.mem_of_getElem? e)
  · obtain ⟨ps, h1, h2, h3⟩ := r.tab p hp
    refine ⟨ps, ?_, h2, fun pos cv hc => ?_⟩
    · rw [upd_ne (ne_of h1 hD (by intro z; cases z))]
      exact h1
    · obtain ⟨c, e1, e2⟩ := h3 pos cv hc
      refine ⟨c, e1, ?_⟩
      rw [upd_ne (ne_of e2 hD (by intro z; unfold LamX.CodeO at z; cases z))]
      exact e2
mutual
theorem dv_up {more : List Addr} : ∀ {v : V} {d : D}, DV g.K ρ H v d → DV g.K (ρ ++ more) H v d
  | _, _, .non => .non
  | _, _, .bl b => .bl b
  | _, _, .int i => .int i
  | _, _, .str x => .str x
  | _, _, .tup h t => .tup h (dvs_up t)
  | _, _, .ro h t => .ro h (dvs_up t)
  | _, _, .loc h => .loc (by rw [List.getElem?_append_left (List.getElem?_eq_some_iff.mp h).1]; exact h)
theorem dvs_up {more : List Addr} : ∀ {vs : List V} {ds : List D}, DVs g.K ρ H vs ds → DVs g.K (ρ ++ more) H vs ds
  | _, _, .nil => .nil
  | _, _, .cons h t => .cons (dv_up h) (dvs_up t)
end
/-- such a list comes into the store -/
theorem Rel.adopt (r : Rel g.K g.T S ρ H) (hD : H Da = some (.lst xs)) (hn : Da ∉ ρ) (t : DVs g.K ρ H xs ds) (hz : ds.length ≤ sizeLine) : Rel g.K g.T (S ++ [.lst ds]) (ρ ++ [Da]) H := by
  refine ⟨by simp [r.len], ?_, fun l u h => ?_, r.tab⟩
  · rw [List.nodup_append]
    refine ⟨r.inj, by simp, fun a ha b hb e => ?_⟩
    rw [List.mem_singleton] at hb
    subst hb; subst e
    exact hn ha
  · by_cases hl : l < S.length
    · rw [List.getElem?_append_left hl] at h
      obtain ⟨a, e, x⟩ := r.obj l u h
      refine ⟨a, by rw [List.getElem?_append_left (by rw [r.len]; exact hl)]; exact e, ?_⟩
      cases u with
      | lst es =>
        obtain ⟨z, vs, h1, h2⟩ := x
        exact ⟨z, vs, h1, dvs_up h2⟩
    · rw [List.getElem?_append_right (by omega)] at h
      have hl0 : l - S.length = 0 := by
        have := (List.getElem?_eq_some_iff.mp h).1
        simp at this
        omega
      rw [hl0] at h
      simp at h
      subst h
      have e1 : l = ρ.length := by rw [r.len]; omega
      exact ⟨Da, by rw [e1]; simp, hz, xs, hD, dvs_up t⟩

/-! ### the names of a comprehension's own -/
theorem wipe_get (σ : L2.St) : ∀ (vs : List Nat) (j : Nat), (wipe σ vs)[j]? = if j ∈ vs then (if j < σ.length then some none else none) else σ[j]?
  | [], j => by simp [wipe]
  | v :: vs, j => by
    show ((wipe σ vs).set v none)[j]? = _
    by_cases e : v = j
    · subst e
      rw [if_pos (by simp)]
      by_cases hl : v < σ.length
      · rw [if_pos hl, List.getElem?_set_self (by rw [wipe_length]; exact hl)]
      · rw [if_neg hl, List.getElem?_eq_none (by rw [List.length_set, wipe_length]; omega)]
    · rw [List.getElem?_set_ne e, wipe_get σ vs j]
      by_cases h : j ∈ vs
      · rw [if_pos h, if_pos (List.mem_cons_of_mem _ h)]
      · rw [if_neg h, if_neg (by simp [h]; exact fun z => e z.symm)]
theorem wipeE_len (σ : Env) : ∀ vs : List Nat, (wipeE σ vs).length = σ.length
  | [] => rfl
  | v :: vs => by
    show ((wipeE σ vs).set v none).length = _
    rw [List.length_set, wipeE_len σ vs]
theorem wipeE_get (σ : Env) : ∀ (vs : List Nat) (j : Nat), (wipeE σ vs)[j]? = if j ∈ vs then (if j < σ.length then some none else none) else σ[j]?
  | [], j => by simp [wipeE]
  | v :: vs, j => by
    show ((wipeE σ vs).set v none)[j]? = _
    by_cases e : v = j
    · subst e
      rw [if_pos (by simp)]
      by_cases hl : v < σ.length
      · rw [if_pos hl, List.getElem?_set_self (by rw [wipeE_len]; exact hl)]
      · rw [if_neg hl, List.getElem?_eq_none (by rw [List.length_set, wipeE_len]; omega)]
    · rw [List.getElem?_set_ne e, wipeE_get σ vs j]
      by_cases h : j ∈ vs
      · rw [if_pos h, if_pos (List.mem_cons_of_mem _ h)]
      · rw [if_neg h, if_neg (by simp [h]; exact fun z => e z.symm)]
theorem EnvR.wipe {σ : L2.St} {env : Env} (h : EnvR g.K ρ H σ env) (vs : List Nat) : EnvR g.K ρ H (L2.wipe σ vs) (wipeE env vs) := by
  refine ⟨by rw [wipe_length, wipeE_len]; exact h.len, fun j d e => ?_⟩
  rw [wipeE_get] at e
  rw [wipe_get]
  by_cases hj : j ∈ vs
  · rw [if_pos hj] at e
    split at e <;> cases e
  · rw [if_neg hj] at e
    rw [if_neg hj]
    exact h.get j d e
theorem wipe_back {σ σ2 : L2.St} {vs : List Nat} (hl : σ2.length = σ.length) (h : ∀ j, j ∉ vs → σ2[j]? = (wipe σ vs)[j]?) : wipe σ2 vs = wipe σ vs := by
  apply List.ext_getElem?
  intro j
  rw [wipe_get, hl]
  by_cases hj : j ∈ vs
  · rw [if_pos hj, wipe_get, if_pos hj]
  · rw [if_neg hj]
    exact h j hj

/-! ### the comprehension -/
theorem calm_ok {α : Type} {m : M α} {β : Type} {f : α → M β} {ok : β → Sto → List Addr → Hp → Prop} (q : Fin g E ρ H (bd (calm m) f S) ok) : ∃ a S', m S = .ok a S' ∧ Fin g E ρ H (f a S') ok := by
  unfold bd calm at q
  cases e : m S with
  | ok a S' =>
    rw [e] at q
    exact ⟨a, S', rfl, q⟩
  | exc c w S' =>
    rw [e] at q
    exact q.elim
  | stuck =>
    rw [e] at q
    exact q.elim
theorem bd_ok {α β : Type} {m : M α} {f : α → M β} {b : β} {S' : Sto} (h : bd m f S = .ok b S') : ∃ a S1, m S = .ok a S1 ∧ f a S1 = .ok b S' := by
  unfold bd at h
  cases e : m S with
  | ok a S1 =>
    rw [e] at h
    exact ⟨a, S1, rfl, h⟩
  | exc c w S1 => rw [e] at h; cases h
  | stuck => rw [e] at h; cases h
/-- what a turn asks of its parts -/
def BodyR (g : Gl0) (tt : TT) (te : TE) (body : Env → M (Option D)) : Prop := ∀ (S : Sto) ρ H σ env (ok : Option D → Sto → List Addr → Hp → Prop), Rel g.K g.T S ρ H → EnvR g.K ρ H σ env → Fin g noE ρ H (body env S) ok →
  tt σ H fun b H3 => if b = true then te σ H3 fun y H4 => ∃ S4 ρ4 d, Ex ρ H ρ4 H4 ∧ Rel g.K g.T S4 ρ4 H4 ∧ DV g.K ρ4 H4 y d ∧ ok (some d) S4 ρ4 H4 else ∃ S3 ρ3, Ex ρ H ρ3 H3 ∧ Rel g.K g.T S3 ρ3 H3 ∧ ok none S3 ρ3 H3
/-- readings may be weakened -/
def MonoT (tt : TT) : Prop := ∀ σ H Q Q', (∀ b H', Q b H' → Q' b H') → tt σ H Q → tt σ H Q'
def MonoE (te : TE) : Prop := ∀ σ H Q Q', (∀ y H', Q y H' → Q' y H') → te σ H Q → te σ H Q'
theorem mono_tD {E : XK} {f : Env → M D} : MonoE (tD g E f) := fun σ H Q Q' i ⟨S, ρ, env, r, he, h⟩ => ⟨S, ρ, env, r, he, h.imp fun d S' ρ' H' x r' q v hv => i v H' (q v hv)⟩
theorem mono_tTst {E : XK} {f : Env → M Bool} : MonoT (tTst g E f) := fun σ H Q Q' i ⟨S, ρ, env, r, he, h⟩ => ⟨S, ρ, env, r, he, h.imp fun d S' ρ' H' x r' q => i d H' q⟩
theorem mono_yes : MonoT tYes := fun σ H Q Q' i h => i _ _ h
theorem gNames_mono : ∀ {is : List Nat} {vs : List V} {σ : L2.St} {H : Hp} {Q Q' : L2.St → Hp → Prop}, (∀ σ H, Q σ H → Q' σ H) → gNames is vs σ H Q → gNames is vs σ H Q'
  | [], _, _, _, _, _, i, h => ⟨h.1, i _ _ h.2⟩
  | _ :: _, _, _, _, _, _, i, ⟨v, r, e, h⟩ => ⟨v, r, e, gNames_mono i h⟩
theorem gD_mono {t : T} {v : V} {σ : L2.St} {H : Hp} {Q Q' : L2.St → Hp → Prop} (i : ∀ σ H, Q σ H → Q' σ H) (h : gD g t v σ H Q) : gD g t v σ H Q' := by
  cases t with
  | nm j => exact i _ _ h
  | tp is =>
    obtain ⟨a, xs, e, h1, h2, h3⟩ := h
    exact ⟨a, xs, e, h1, h2, gNames_mono i h3⟩
theorem lc_read {t : T} {fw : Env → M W} {tt : TT} {te : TE} {body : Env → M (Option D)} (hB : BodyR g tt te body) (mt : MonoT tt) (me : MonoE te) {σ : L2.St} {Q : VK}
    (h : tD g E (fun env => bd (fw env) fun w => bd (calm (lcL w (fun d => bd (bindT t d (wipeE env t.own)) body) 0 w.len)) fun l => new l) σ H Q) : tLc (tI g E fw) (gD g t) tt te t.own σ H Q := by
  obtain ⟨S, ρ, env, hr, he, h⟩ := h
  refine ⟨S, ρ, env, hr, he, h.bd.imp fun w S1 ρ1 H1 x r1 q J sv Da hD => ?_⟩
  obtain ⟨l0, S0, e0, q⟩ := calm_ok q
  have nD : Da ∉ ρ1 := r1.notin0 hD
  refine ⟨fun i m H => i + m = w.len ∧ ∃ (S : Sto) (ρ : List Addr) (acc : List D) (vacc : List V) (rest : List D) (S' : Sto), Ex ρ1 H1 ρ H ∧ Da ∉ ρ ∧ Rel g.K g.T S ρ H ∧ H Da = some (.lst vacc) ∧ DVs g.K ρ H vacc acc ∧
      lcL w (fun d => bd (bindT t d (wipeE env t.own)) body) i m S = .ok rest S' ∧ Fin g E ρ1 H1 (new (acc ++ rest) S') (fun d _ ρ' H' => ∀ v, DV g.K ρ' H' v d → Q v H'),
    ⟨w.len, by simp, S1, ρ1, [], [], l0, S0, Ex.new hD, nD, r1.new hD, upd_same, .nil, e0, q⟩, ?_⟩
  rintro i m H3 ⟨hm, S3, ρ3, acc, vacc, rest, S', x3, n3, r3, hD3, t3, e3, q3⟩
  obtain ⟨sv1, sv2⟩ := sv ρ3 H3 S3 x3 r3
  cases m with
  | zero =>
    obtain ⟨u, S4, e4, e5⟩ := bd_ok (m := w.fin) (f := fun _ => ret ([] : List D)) e3
    have e6 : w.fin S3 = .ok () S3 := by
      rcases w_fin w S3 with z | z
      · exact z
      · rw [z] at e4; cases e4
    rw [e6] at e4
    cases e4
    cases e5
    rw [List.append_nil] at q3
    obtain ⟨hz, q4⟩ := fin_if q3
    refine .inl ⟨?_, q4 (ρ3 ++ [Da]) H3 ⟨?_, fun a o ha no na => ?_⟩ (r3.adopt hD3 n3 t3 hz) _ (.loc (by rw [← r3.len]; simp))⟩
    · have : i = w.len := by omega
      rw [this]
      exact sv2 e6
    · obtain ⟨more, e⟩ := x3.pre
      exact ⟨more ++ [Da], by rw [e, List.append_assoc]⟩
    · obtain ⟨h1, h2⟩ := x3.fr a o ha no na
      refine ⟨fun z => ?_, h2⟩
      rw [List.mem_append, List.mem_singleton] at z
      rcases z with z | z
      · exact h1 z
      · rw [z, hD] at ha; cases ha
  | succ m =>
    obtain ⟨d, S4, e4, e5⟩ := bd_ok (m := w.get i) (f := fun d => bd (bd (bindT t d (wipeE env t.own)) body) fun o => bd (lcL w (fun d => bd (bindT t d (wipeE env t.own)) body) (i + 1) m) fun r => ret (α := List D) (match o with
      | some y => y :: r
      | none => r)) e3
    have e6 : w.get i S3 = .ok d S3 := by
      rcases w_get w i S3 with ⟨d', z⟩ | z
      · rw [z] at e4; cases e4; exact z
      · rw [z] at e4; cases e4
    rw [e6] at e4
    cases e4
    obtain ⟨o, Sb, e7, e8⟩ := bd_ok e5
    obtain ⟨r, Sr, e9, e10⟩ := bd_ok e8
    cases e10
    obtain ⟨go, yl⟩ := sv1 i d (by omega) e6
    refine .inr ⟨go, fun H' => ∃ m', m' < m + 1 ∧ (i + 1 + m' = w.len ∧ ∃ (S : Sto) (ρ : List Addr) (acc : List D) (vacc : List V) (rest : List D) (S' : Sto), Ex ρ1 H1 ρ H' ∧ Da ∉ ρ ∧ Rel g.K g.T S ρ H' ∧ H' Da = some (.lst vacc) ∧ DVs g.K ρ H' vacc acc ∧
      lcL w (fun d => bd (bindT t d (wipeE env t.own)) body) (i + 1) m' S = .ok rest S' ∧ Fin g E ρ1 H1 (new (acc ++ rest) S') (fun d _ ρ' H' => ∀ v, DV g.K ρ' H' v d → Q v H')), fun _ h => h, fun y H' hy => ?_⟩
    obtain ⟨x4, r4, hv⟩ := yl y H' hy
    have he4 : EnvR g.K ρ3 H' (wipe σ t.own) (wipeE env t.own) := (((he.ex hr x).ex r1 x3).ex r3 x4).wipe t.own
    have q5 : Fin g noE ρ3 H' (bd (bindT t d (wipeE env t.own)) body S3) fun o' S4 _ _ => o' = o ∧ S4 = Sb := by
      rw [e7]
      exact fun _ _ _ _ => ⟨rfl, rfl⟩
    have hD4 := (x4.fr Da _ hD3 (fun _ z => nomatch z) n3).2
    refine fin_bindT r4 he4 hv q5 fun σ2 env2 h2 hk q6 => ⟨wipe_back (by rw [hk.1, wipe_length]) hk.2, ?_⟩
    · refine mt _ _ _ _ (fun b H5 hb => ?_) (hB S3 ρ3 H' σ2 env2 _ r4 h2 q6)
      cases b with
      | true =>
        rw [if_pos rfl] at hb ⊢
        refine me _ _ _ _ (fun z H6 hz => ?_) hb
        obtain ⟨S6, ρ6, d6, x6, r6, hv6, hd6, hS6⟩ := hz
        subst hd6 hS6
        obtain ⟨n6, hD6⟩ := x6.fr Da _ hD4 (fun _ z => nomatch z) n3
        have q7 : Fin g E ρ1 H1 (new (acc ++ d6 :: r) S') (fun d _ ρ' H' => ∀ v, DV g.K ρ' H' v d → Q v H') := q3
        have hz : (acc ++ d6 :: r).length ≤ line := (fin_if q7).1
        refine ⟨vacc, hD6, ?_, m, Nat.lt_succ_self m, by omega, S6, ρ6, acc ++ [d6], vacc ++ [z], r, S', ?_, n6, r6.aside hD6 n6, upd_same, ?_, e9, ?_⟩
        · rw [t3.length]
          rw [List.length_append, List.length_cons] at hz
          show acc.length < 16777216
          have e : line = 16777216 := rfl
          omega
        · refine ⟨((x3.trans x4).trans x6).pre, fun a o ha no na => ?_⟩
          obtain ⟨h1, h2⟩ := ((x3.trans x4).trans x6).fr a o ha no na
          exact ⟨h1, by rw [upd_ne (ne_of_none ha hD)]; exact h2⟩
        · exact (dvs_aside hD6 ((t3.ex r3 x4).ex r4 x6)).app (.one (dv_aside hD6 hv6))
        · rw [List.append_assoc]
          exact q7
      | false =>
        rw [if_neg Bool.false_ne_true] at hb ⊢
        obtain ⟨S6, ρ6, x6, r6, hd6, hS6⟩ := hb
        subst hd6 hS6
        obtain ⟨n6, hD6⟩ := x6.fr Da _ hD4 (fun _ z => nomatch z) n3
        exact ⟨m, Nat.lt_succ_self m, by omega, S6, ρ6, acc, vacc, r, S', (x3.trans x4).trans x6, n6, r6, hD6, (t3.ex r3 x4).ex r4 x6, e9, q3⟩
end
end Z
end
section
/-! ZSf: comprehensions, conversions, own calls by data. -/
namespace Z
open PySem PySem.Spec PyProof.Rows L2
section
variable {g : Gl0} {E : XK} {X : Cx} {ρ : List Addr} {H : Hp} {S : Sto} {a b e tg iter elt : Expr} {fa fb : Env → M D} {fw : Env → M W} {p p1 p2 p3 pos : Pos}
/-! ### comprehensions -/
theorem bodyR_all {fe : Env → M D} : BodyR g tYes (tD g noE fe) (fun env => bd (fe env) fun y => ret (some y)) := fun S ρ H σ env ok r he q => by
  unfold tYes
  dsimp only
  rw [if_pos rfl]
  exact ⟨S, ρ, env, r, he, q.bd.imp fun d S1 ρ1 H1 x r1 q1 v hv => ⟨S1, ρ1, d, x, r1, hv, Fin.ret r1 q1⟩⟩
theorem bodyR_if {ft : Env → M Bool} {fe : Env → M D} : BodyR g (tTst g noE ft) (tD g noE fe) (fun env => bd (ft env) fun c => if c = true then bd (fe env) fun y => ret (some y) else ret none) := fun S ρ H σ env ok r he q => by
  refine ⟨S, ρ, env, r, he, q.bd.imp fun c S1 ρ1 H1 x r1 q1 => ?_⟩
  cases c with
  | true =>
    rw [if_pos rfl] at q1 ⊢
    exact ⟨S1, ρ1, env, r1, he.ex r x, (Fin.bd q1).imp fun d S2 ρ2 H2 x2 r2 q2 v hv => ⟨S2, ρ2, d, x.trans x2, r2, hv, Fin.ret r2 q2⟩⟩
  | false =>
    rw [if_neg Bool.false_ne_true] at q1 ⊢
    exact ⟨S1, ρ1, x, r1, Fin.ret r1 q1⟩
/-- the inner context -/
abbrev Blk (X : Cx) (scope : Scope) (P : Cx → Prop) : Prop := ∀ (s : Shared) (H : Hp) (C : Addr) (cl : List (Str × Addr)) (fp : List Addr), P (X.blk s H scope (compEnvC scope cl C X.env) fp)
theorem de_lc {t : T} {fe : Env → M D} {scope : Scope} {own : List (Str × Nat)} (hc : X.calm = true) (hN : X.N.Nodup) (hi : PI X tg iter (tI g E fw)) (ok : BlkOk X.N X.env.scope scope own) (ho : own.map (·.2) = t.own)
    (hg : Blk X scope fun Y => PG Y tg (gD g t)) (he : Blk X scope fun Y => PE Y elt (tD g noE fe)) (hs : ∀ x, foldedSetIterable iter X.env x = pure x) :
    PE X (.ListComp elt [⟨tg, iter, [], 0⟩] scope pos) (tD g E fun env => bd (fw env) fun w => bd (calm (lcL w (fun d => bd (bindT t d (wipeE env t.own)) fun σ' => bd (fe σ') fun y => ret (some y)) 0 w.len)) fun l => new l) :=
  (pe_lc hc hN hi ok hg (fun _ _ _ _ _ => pts_nil) he hs).imp fun σ H Q h => by
    rw [ho]
    exact lc_read bodyR_all mono_yes mono_tD h
theorem de_lcif {t : T} {ft : Env → M Bool} {fe : Env → M D} {scope : Scope} {own : List (Str × Nat)} (hc : X.calm = true) (hN : X.N.Nodup) (hi : PI X tg iter (tI g E fw)) (ok : BlkOk X.N X.env.scope scope own) (ho : own.map (·.2) = t.own)
    (hg : Blk X scope fun Y => PG Y tg (gD g t)) (ht : Blk X scope fun Y => PT Y a (tTst g noE ft)) (he : Blk X scope fun Y => PE Y elt (tD g noE fe)) (hs : ∀ x, foldedSetIterable iter X.env x = pure x) :
    PE X (.ListComp elt [⟨tg, iter, [a], 0⟩] scope pos) (tD g E fun env => bd (fw env) fun w => bd (calm (lcL w (fun d => bd (bindT t d (wipeE env t.own)) fun σ' => bd (ft σ') fun c => if c = true then bd (fe σ') fun y => ret (some y) else ret none) 0 w.len)) fun l => new l) :=
  (pe_lc hc hN hi ok hg (fun s H C cl fp => pts_one (ht s H C cl fp)) he hs).imp fun σ H Q h => by
    rw [ho]
    exact lc_read bodyR_if mono_tTst mono_tD h
/-- x = [..] on one line -/
theorem ds_setLc {t : T} {tt : TT} {te : TE} {body : Env → M (Option D)} {scope : Scope} {own : List (Str × Nat)} {ifs : List Expr} {i : Nat} {y : Str} {py spos : Pos} (hB : BodyR g tt te body) (mt : MonoT tt) (me : MonoE te) (hc : X.calm = true) (hN : X.N.Nodup) (hy : X.N[i]? = some y) (hyl : X.env.scope.names.lookup y = some .local)
    (hsw : swapsWith (.ListComp elt [⟨tg, iter, ifs, 0⟩] scope pos) (some (.Name y py)) spos.line X.env = pure true) (hi : PI X tg iter (tI g E fw)) (ok : BlkOk X.N X.env.scope scope own) (ho : own.map (·.2) = t.own)
    (hg : Blk X scope fun Y => PG Y tg (gD g t)) (ht : Blk X scope fun Y => PTs Y ifs tt) (he : Blk X scope fun Y => PE Y elt te) (hs : ∀ x, foldedSetIterable iter X.env x = pure x) :
    PS X (.Assign [.Name y py] (.ListComp elt [⟨tg, iter, ifs, 0⟩] scope pos) spos) (tS g E fun env => bd (bd (fw env) fun w => bd (calm (lcL w (fun d => bd (bindT t d (wipeE env t.own)) body) 0 w.len)) fun l => new l) fun d => Z.ret (.next (env.set i (some d)))) :=
  (ps_setLc hc hN hy hyl hsw hi ok hg ht he hs).imp fun D σ H ⟨S, ρ, env, hr, he, q⟩ => by
    rw [ho]
    refine lc_read hB mt me (Q := fun x H1 => gName i x σ H1 D.nx) ⟨S, ρ, env, hr, he, (Fin.bd q).imp fun d S1 ρ1 H1 x r1 q1 v hv => ?_⟩
    exact Fin.ret r1 q1 _ ((he.ex hr x).set hv)
/-! ### conversions -/
theorem rg_dvs {lo hi : Int} : DVs g.K ρ H (rgV lo hi) (ranges lo hi) := by
  refine DVs.of_get ?_ fun i v d h1 h2 => ?_
  · rw [rgV_length, ranges_len]
  · obtain ⟨e1, e2⟩ := ranges_get h2
    subst e1
    unfold rgV at h1
    rw [List.getElem?_map] at h1
    simp [e2] at h1
    subst h1
    exact .int _
theorem de_tupOf (hK : X.K = g.K) (hg : Gl X "tuple") (hm : X.mg "tuple" = none) (ha : PE X a (tD g E fa)) (hs : starEach [a] X.env = (false, eval a X.env) :: starEach [] X.env) :
    PE X (.Call (.Name "tuple" p) [a] [] pos) (tD g E fun env => bd (bd (fa env) walkOf) fun w => match w with
      | .fix l => newT l
      | .at a _ => bd (getL a) fun l => newT l) :=
  (pe_tupleOf hg hm ha hs).imp fun σ H Q ⟨S, ρ, env, hr, he, h⟩ => by
    refine ⟨S, ρ, env, hr, he, h.bd.bd.imp fun d S1 ρ1 H1 x r1 q v hv => ?_⟩
    rw [hK]
    cases hv with
    | tup h t =>
      have q' := fin_if (Fin.ret r1 q)
      exact .inr ⟨_, _, rfl, h, q'.2.now r1 _ (.tup h t)⟩
    | ro h t => exact .inl ⟨_, _, rfl, h.sq, (fin_newT r1 t (Fin.ret r1 q)).2⟩
    | loc hl =>
      obtain ⟨xs, ds, e1, t, z, e0, q⟩ := fin_getL r1 hl q
      have q2 := Fin.ret r1 q
      obtain ⟨xs', ds', e1', t', z', e0', q3⟩ := fin_getL r1 hl q2
      exact .inl ⟨_, _, rfl, SqL.of e1', (fin_newT r1 t' q3).2⟩
    | _ => exact q.elim
theorem de_lstOf (hK : X.K = g.K) (hg : Gl X "list") (hm : X.mg "list" = none) (ha : PE X a (tD g E fa)) (hs : starEach [a] X.env = (false, eval a X.env) :: starEach [] X.env) :
    PE X (.Call (.Name "list" p) [a] [] pos) (tD g E fun env => bd (bd (fa env) walkOf) fun w => match w with
      | .fix l => new l
      | .at a _ => bd (getL a) fun l => new l) :=
  (pe_callTy call_list_of hg hm boot_list (pa_cons ha pa_nil hs) (by decide) (by decide) hs (by rfl)).imp fun σ H Q ⟨S, ρ, env, hr, he, h⟩ => by
    refine ⟨S, ρ, env, hr, he, h.bd.bd.imp fun d S1 ρ1 H1 x r1 q v hv => ?_⟩
    rw [hK]
    cases hv with
    | tup h t => exact ⟨_, _, rfl, .inr h, (fin_new r1 t (Fin.ret r1 q)).2⟩
    | ro h t => exact ⟨_, _, rfl, .inl h.sq, (fin_new r1 t (Fin.ret r1 q)).2⟩
    | loc hl =>
      obtain ⟨xs, ds, e1, t, z, e0, q⟩ := fin_getL r1 hl q
      have q2 := Fin.ret r1 q
      obtain ⟨xs', ds', e1', t', z', e0', q3⟩ := fin_getL r1 hl q2
      exact ⟨_, _, rfl, .inl (SqL.of e1'), (fin_new r1 t' q3).2⟩
    | _ => exact q.elim
/-- a range as an argument -/
theorem rgok0 : rgok 0 = true := by decide
def PRg' (X : Cx) (g : Gl0) (E : XK) (e : Expr) (f : Env → M W) : Prop := ∃ t, PRg X e t ∧ ∀ σ H R, (∃ S ρ env, Rel g.K g.T S ρ H ∧ EnvR g.K ρ H σ env ∧ Fin g E ρ H (f env S) fun w S' ρ' H' => ∀ lo hi, w = .fix (ranges lo hi) → rgok lo = true → rgok hi = true → Rel g.K g.T S' ρ' H' → R lo hi H') → t σ H R
theorem dr_1 (hg : Gl X "range") (hm : X.mg "range" = none) (ha : PE X a (tD g E fa)) (hs : starEach [a] X.env = (false, eval a X.env) :: starEach [] X.env) :
    PRg' X g E (.Call (.Name "range" p) [a] [] pos) (fun env => bd (fa env) fun x => match x with
      | .int j => if rgok j = true then ret (.fix (ranges 0 j)) else stuck
      | _ => stuck) := by
  refine ⟨_, prg_1 hg hm ha hs, fun σ H R ⟨S, ρ, env, hr, he, h⟩ => ⟨S, ρ, env, hr, he, h.bd.imp fun d S1 ρ1 H1 x r1 q v hv => ?_⟩⟩
  cases hv with
  | int j =>
    by_cases hj : rgok j = true
    · have e : (if rgok j = true then ret (W.fix (ranges 0 j)) else stuck) = ret (W.fix (ranges 0 j)) := if_pos hj
      dsimp only at q
      rw [e] at q
      exact ⟨j, rfl, Fin.ret r1 q 0 j rfl rgok0 hj r1⟩
    · have e : (if rgok j = true then ret (W.fix (ranges 0 j)) else stuck) = stuck := if_neg hj
      dsimp only at q
      rw [e] at q
      exact q.elim
  | _ => exact q.elim
theorem dr_2 (hg : Gl X "range") (hm : X.mg "range" = none) (ha : PE X a (tD g E fa)) (hb : PE X b (tD g E fb)) (hs : starEach [a, b] X.env = (false, eval a X.env) :: starEach [b] X.env) (hs2 : starEach [b] X.env = (false, eval b X.env) :: starEach [] X.env) :
    PRg' X g E (.Call (.Name "range" p) [a, b] [] pos) (fun env => bd (fa env) fun x => bd (fb env) fun y => match x, y with
      | .int i, .int j => if (rgok i && rgok j) = true then ret (.fix (ranges i j)) else stuck
      | _, _ => stuck) := by
  refine ⟨_, prg_2 hg hm ha hb hs hs2 (by rw [hs2]; rfl), fun σ H R ⟨S, ρ, env, hr, he, h⟩ => ⟨S, ρ, env, hr, he, h.bd.imp fun d S1 ρ1 H1 x r1 q v hv => ⟨S1, ρ1, env, r1, he.ex hr x, q.bd.imp fun d2 S2 ρ2 H2 x2 r2 q2 u hu => ?_⟩⟩⟩
  cases hv with
  | int i =>
    cases hu with
    | int j =>
      by_cases hj : (rgok i && rgok j) = true
      · have e : (if (rgok i && rgok j) = true then ret (W.fix (ranges i j)) else stuck) = ret (W.fix (ranges i j)) := if_pos hj
        dsimp only at q2
        rw [e] at q2
        rw [Bool.and_eq_true] at hj
        exact ⟨i, j, rfl, rfl, Fin.ret r2 q2 i j rfl hj.1 hj.2 r2⟩
      · have e : (if (rgok i && rgok j) = true then ret (W.fix (ranges i j)) else stuck) = stuck := if_neg hj
        dsimp only at q2
        rw [e] at q2
        exact q2.elim
    | _ => exact q2.elim
  | _ => cases hu <;> exact q2.elim
theorem rgOk_of {lo hi : Int} (h1 : rgok lo = true) (h2 : rgok hi = true) (h3 : (hi - lo).toNat ≤ sizeLine) : RgOk lo hi := by
  obtain ⟨a1, a2⟩ := rgok_iff h1
  obtain ⟨a3, a4⟩ := rgok_iff h2
  exact ⟨a1, a2, a3, a4, by rw [sizeLine_eq] at h3; omega⟩
theorem de_tupRg (hc : X.calm = true) (hg : Gl X "tuple") (hm : X.mg "tuple" = none) (ha : PRg' X g E a fw) (hs : starEach [a] X.env = (false, eval a X.env) :: starEach [] X.env) :
    PE X (.Call (.Name "tuple" p) [a] [] pos) (tD g E fun env => bd (fw env) fun w => match w with
      | .fix l => newT l
      | .at a _ => bd (getL a) fun l => newT l) := by
  obtain ⟨t, h1, h2⟩ := ha
  refine (pe_tupRg hc hg hm h1 hs).imp fun σ H Q ⟨S, ρ, env, hr, he, h⟩ => h2 σ H _ ⟨S, ρ, env, hr, he, h.bd.imp fun w S1 ρ1 H1 x r1 q lo hi e k1 k2 r2 => ?_⟩
  subst e
  obtain ⟨z, q1⟩ := fin_newT r2 rg_dvs q
  rw [rgV_length] at z
  exact ⟨rgOk_of k1 k2 z, q1⟩
theorem de_lstRg (hc : X.calm = true) (hg : Gl X "list") (hm : X.mg "list" = none) (ha : PRg' X g E a fw) (hs : starEach [a] X.env = (false, eval a X.env) :: starEach [] X.env) :
    PE X (.Call (.Name "list" p) [a] [] pos) (tD g E fun env => bd (fw env) fun w => match w with
      | .fix l => new l
      | .at a _ => bd (getL a) fun l => new l) := by
  obtain ⟨t, h1, h2⟩ := ha
  refine (pe_listRg hc hg hm h1 hs).imp fun σ H Q ⟨S, ρ, env, hr, he, h⟩ => h2 σ H _ ⟨S, ρ, env, hr, he, h.bd.imp fun w S1 ρ1 H1 x r1 q lo hi e k1 k2 r2 => ?_⟩
  subst e
  obtain ⟨z, q1⟩ := fin_new r2 rg_dvs q
  rw [rgV_length] at z
  exact ⟨rgOk_of k1 k2 z, q1⟩
end
end Z
end
section
/-! ZSg: the reversed tuple, own calls, own refusals. -/
namespace Z
open PySem PySem.Spec PyProof.Rows L2
/-! ### t[::-1] of a tuple -/
theorem rev_places (n : Nat) : Builtin.Slice.slicePlaces ((n : Int) - 1) (-1) (-1) = n := by
  unfold Builtin.Slice.slicePlaces
  have h1 : ¬ ((-1 : Int) > 0) := by decide
  have e1 : (- -1 : Int) = 1 := by decide
  simp only [h1, if_false, e1, Int.ediv_one]
  split <;> omega
theorem fm_congr {α β : Type} {f h : α → Option β} : ∀ {l : List α}, (∀ x ∈ l, f x = h x) → l.filterMap f = l.filterMap h
  | [], _ => rfl
  | x :: l, e => by
    rw [List.filterMap_cons, List.filterMap_cons, e x (by simp), fm_congr fun y hy => e y (List.mem_cons_of_mem _ hy)]
theorem rev_pick (xs : Array Value) : ((List.range xs.size).filterMap fun (k : Nat) => xs[(((xs.size : Nat) : Int) - 1 + (k : Int) * (-1)).toNat]?).toArray = xs.toList.reverse.toArray := by
  have e : (List.range xs.size).filterMap (fun (k : Nat) => xs[(((xs.size : Nat) : Int) - 1 + (k : Int) * (-1)).toNat]?) = ((List.range xs.size).map fun k => xs.size - 1 - k).filterMap (xs[·]?) := by
    rw [List.filterMap_map]
    refine fm_congr fun k hk => ?_
    have hk := List.mem_range.mp hk
    have e2 : (((xs.size : Nat) : Int) - 1 + (k : Int) * (-1)).toNat = xs.size - 1 - k := by omega
    show xs[(((xs.size : Nat) : Int) - 1 + (k : Int) * (-1)).toNat]? = xs[xs.size - 1 - k]?
    rw [e2]
  rw [e, PySem.W.krv_range, List.filterMap_reverse, PySem.W.krv_all]
section
variable {prog : Program} {w : World} {A : Around} {E : Value → Shared → Prop} {s : Shared}
theorem sliceApplied_rev {sl : Addr} {vl vu vs : Value} {n : Nat} {Q : Int × Int × Nat → Shared → Prop} (hs : s.heap.IsSliceOf sl vl vu vs) (pl : IsPart vl none) (pu : IsPart vu none) (ps : IsPart vs (some (-1)))
    (h : Q ((n : Int) - 1, -1, n) s) : wpAny (model prog w) A (Builtin.Slice.sliceApplied (.ref sl) (pure (n : Int))) Q E s := by
  obtain ⟨os, hos, hcs, hds⟩ := id hs
  unfold Builtin.Slice.sliceApplied Builtin.Slice.sliceFields
  refine wpAny_bind (wpAny_bind (wpAny_field hos hds (x := vl) rfl (wpAny_bind (wpAny_field hos hds (x := vu) rfl (wpAny_bind (wpAny_field hos hds (x := vs) rfl (wpAny_pure ?_)))))))
  refine wpAny_bind (HT.slicePart_ ps ?_)
  show wpAny _ _ (if ((-1 : Int) == 0) = true then _ else _) _ _ s
  rw [if_neg (by decide)]
  refine wpAny_bind (HT.slicePart_ pl (wpAny_bind (HT.slicePart_ pu (wpAny_bind (wpAny_pure ?_)))))
  show wpAny _ _ (match Builtin.Slice.sliceAdjust none none (-1) (n : Int) with | (lo, hi) => pure (lo, (-1 : Int), Builtin.Slice.slicePlaces lo hi (-1))) _ _ s
  show wpAny _ _ (pure ((n : Int) - 1, (-1 : Int), Builtin.Slice.slicePlaces ((n : Int) - 1) (-1) (-1))) _ _ s
  rw [rev_places]
  exact wpAny_pure h
theorem getItem_tuple_rev {t sl : Addr} {items : Array Value} {vl vu vs : Value} {Q : Value → Shared → Prop} (ht : IsTup s.heap t items) (hs : s.heap.IsSliceOf sl vl vu vs) (pl : IsPart vl none) (pu : IsPart vu none) (ps : IsPart vs (some (-1)))
    (h : Q (.ref s.heap.objs.size) { s with heap := s.heap.push { cls := .type "tuple", data := .seq items.toList.reverse.toArray } })
    (hsz : items.size ≤ sizeLine) : wpAny (model prog w) A (getItem (.ref t) (.ref sl)) Q E s := by
  have htake : sizeOk (.seq items.toList.reverse.toArray) := by
    show items.toList.reverse.toArray.size ≤ sizeLine
    rw [List.size_toArray, List.length_reverse, Array.length_toList]
    omega
  obtain ⟨os, hos, hcs, hds⟩ := id hs
  have hTs : s.TypeIs (.ref sl) "slice" := ⟨os, hos, hcs⟩
  unfold getItem
  try with_reducible refine wpAny_holding ?_
  first | refine wpAny_bind (wpAny_pure ?_) | skip
  refine wpAny_bind (wpAny_sequenceKey ht.typeIs (by decide) ?_)
  refine wpAny_bind (wpAny_callSpecial?_slot (name := Str.ofString "__getitem__") ht.typeIs PyProof.Rows.slot_tuple_getitem
    (wpAny_call_entry PyProof.Rows.slot_tuple_getitem ht.typeIs entry_tuple_getitem ?_ (args_tuple_getitem _ _)))
  show wpAny _ _ (Builtin.Tuple.tupleItemsOf (.ref t) >>= _) _ _ s
  refine wpAny_bind (tupleItemsOf_ ht ?_)
  refine wpAny_bind (wpAny_typeOf hTs ?_)
  rw [if_pos (by decide)]
  refine wpAny_bind (sliceApplied_rev hs pl pu ps ?_)
  have hno : ¬ ((((items.size : Nat) : Int) - 1 == 0 && (-1 : Int) == 1 && items.size == items.size) = true) := by
    have e : ((-1 : Int) == 1) = false := by decide
    rw [e, Bool.and_false, Bool.false_and]
    decide
  show wpAny _ _ (if (((items.size : Nat) : Int) - 1 == 0 && (-1 : Int) == 1 && items.size == items.size) = true then _ else _) _ _ s
  rw [if_neg hno, rev_pick]
  first
    | exact wpAny_bind (m := Builtin.Tuple.tupleExact _) (wpAny_newObj_type (wpAny_pure ⟨_, rfl, wpAny_pure h⟩) htake)
    | exact wpAny_bind (m := Builtin.Tuple.tupleExact _) (wpAny_newObj_type (wpAny_bind (wpAny_pure (wpAny_pure ⟨_, rfl, wpAny_pure h⟩))) htake)
    | exact wpAny_bind (wpAny_bind (m := Builtin.Tuple.tupleExact _) (wpAny_newObj_type (wpAny_pure (wpAny_pure ⟨_, rfl, wpAny_pure h⟩)) htake))
    | exact wpAny_bind (wpAny_bind (m := Builtin.Tuple.tupleExact _) (wpAny_newObj_type (wpAny_pure ⟨_, rfl, wpAny_pure h⟩) htake))
end
section
variable {g : Gl0} {E : XK} {X : Cx} {ρ : List Addr} {H : Hp} {S : Sto} {a e : Expr} {fa : Env → M D} {p p1 p2 p3 pos : Pos}
def tRevT (K : PySem.W.Frag) (te : TE) : TE := fun σ H Q => te σ H fun x H1 => ∃ a xs, x = .ref a ∧ SqT K H1 a xs ∧ ∀ p, H1 p = none → Q (.ref p) (upd H1 p (.tup xs.reverse))
theorem pe_revT {te : TE} {k : Nat} (he : PE X e te) : PE X (.Subscript e (.Slice none none (some (.UnaryOp .USub (.Constant (.int 1) k p1) p2)) p3) pos) (tRevT X.K te) := by
  refine ⟨fun pins s σ H Q I h => ?_⟩
  refine Subscript_ (thn (he.run pins s σ H _ I h) fun v s1 ⟨x, H1, I1, r1, q1⟩ => ?_)
  obtain ⟨a, xs, ex, hx, q⟩ := q1
  subst ex
  cases r1
  have hst : PO X (some (.UnaryOp .USub (.Constant (.int 1) k p1) p2)) (tPart (tUn (rU fun i => .int (-i)) (tC (.int 1)))) := po_some (pe_un un_neg pe_int)
  refine wpAny_Slice (thn (po_none.run pins s1 σ H1 (fun o H2 => o = none ∧ H2 = H1) I1 ⟨rfl, rfl⟩) fun vl s2 ⟨l, H2, I2, pl, el, e2⟩ => ?_)
  subst el e2
  refine thn (po_none.run pins s2 σ H2 (fun o H3 => o = none ∧ H3 = H2) I2 ⟨rfl, rfl⟩) fun vu s3 ⟨u, H3, I3, pu, eu, e3⟩ => ?_
  subst eu e3
  refine thn (hst.run pins s3 σ H3 (fun o H4 => o = some (-1) ∧ H4 = H3) I3 ⟨1, rfl, -1, rfl, rfl, rfl⟩) fun vs s4 ⟨o, H4, I4, ps, eo, e4⟩ => ?_
  subst eo e4
  have I5 : Inv X pins σ H4 { s4 with heap := s4.heap.push { cls := .type "slice", data := .fields #[vl, vu, vs] } } := I4.kept (t' := s4.toks) fun b ob q => Heap.get?_push_of_some _ q
  obtain ⟨its, r, ht, hz⟩ := I5.tuple hx
  have hlen := r.length
  show wpAny (model X.prog X.w) X.A (subscriptTail e (.Slice none none (some (.UnaryOp .USub (.Constant (.int 1) k p1) p2)) p3) (.ref a) (.ref s4.heap.objs.size)) (EP X pins σ Q) X.xe { s4 with heap := s4.heap.push { cls := .type "slice", data := .fields #[vl, vu, vs] } }
  refine tail_any (ops := [.ref a, .ref s4.heap.objs.size]) ht.typeIs PyProof.Rows.slot_tuple_getitem.lookup ?_ (by with_unfolding_all rfl)
  refine getItem_tuple_rev ht (Heap.IsSliceOf.new _ vl vu vs) pl pu ps ?_ (by rw [List.size_toArray]; omega)
  refine ⟨.ref _, _, I5.laid (t' := s4.toks) (o := .tup xs.reverse) (fun b ob q => Heap.get?_push_of_some _ q) (Nat.le_refl _) ?_, rfl, q _ (I5.hok.fresh (Nat.le_refl _))⟩
  refine ⟨by rw [List.length_reverse]; exact hz, _, r.reverse, ?_⟩
  exact IsTup.new _ _
theorem de_rev {k : Nat} (hK : X.K = g.K) (ha : PE X a (tD g E fa)) : PE X (.Subscript a (.Slice none none (some (.UnaryOp .USub (.Constant (.int 1) k p1) p2)) p3) pos) (tD g E fun env => bd (fa env) fun x => match x with
      | .tup l => newT l.reverse
      | _ => stuck) :=
  (pe_revT ha).imp fun σ H Q ⟨S, ρ, env, hr, he, h⟩ => by
    refine ⟨S, ρ, env, hr, he, h.bd.imp fun d S1 ρ1 H1 x r1 q v hv => ?_⟩
    rw [hK]
    cases hv with
    | tup h t => exact ⟨_, _, rfl, h, (fin_newT r1 t.rev q).2⟩
    | _ => exact q.elim

/-! ### own calls -/
/-- what a def promises by data -/
def spD (g : Gl0) (np : Nat) (c : List D → M D) : Sp := fun vs H Q E => vs.length = np ∧ ∃ S ρ ds, Rel g.K g.T S ρ H ∧ DVs g.K ρ H vs ds ∧ Fin g E ρ H (c ds S) (fun d _ ρ' H' => ∀ v, DV g.K ρ' H' v d → Q v H')
theorem de_call {es : List Expr} {fs : Env → M (List D)} {c : List D → M D} {x : Str} {k : Nat} {f : Addr} {fd : FuncData} {ps : List Str} {np : Nat} (F : FnOk X.prog X.w X.K X.mg X.base (L2N.CX X.prog X.w) k f fd ps (spD g np c)) (hr : Room k X.A) (hg : Gl X x) (hm : X.mg x = some (.ref f))
    (hk : PySem.W.keepIn X.K (.ref f) = true) (hb : L2.Binds X.K fd ps []) (tk : L2N.Takes X (fun cls d _ H => E cls d H)) (hl : ∀ ds S, ds.length ≠ np → c ds S = .stuck) (hdb : (x == ("__debug__" : Str)) = false)
    (ha : PA X (e :: es) (tDs g E fs)) (hs : starEach (e :: es) X.env = (false, eval e X.env) :: starEach es X.env) (hpl : (backTo pos (starEach es X.env)).any (·.1) = false) :
    PE X (.Call (.Name x p) (e :: es) [] pos) (tD g E fun env => bd (fs env) c) :=
  (pe_callS F hr hg hm hk hb (E := fun σ => E) (fun σ => L2N.passAt tk σ) ha hdb hs hpl).imp fun σ H Q h => tDs_1 (r := fun vs H1 Q => spD g np c vs H1 Q E) h fun S ρ H vs ds r1 hv q => by
    refine ⟨?_, S, ρ, ds, r1, hv, q⟩
    rw [hv.length]
    cases Nat.decEq ds.length np with
    | isTrue h => exact h
    | isFalse h =>
      rw [hl ds S h] at q
      exact q.elim
theorem de_call0 {c : List D → M D} {x : Str} {k : Nat} {f : Addr} {fd : FuncData} {ps : List Str} {np : Nat} (F : FnOk X.prog X.w X.K X.mg X.base (L2N.CX X.prog X.w) k f fd ps (spD g np c)) (hr : Room k X.A) (hg : Gl X x) (hm : X.mg x = some (.ref f))
    (hk : PySem.W.keepIn X.K (.ref f) = true) (hb : L2.Binds X.K fd ps []) (tk : L2N.Takes X (fun cls d _ H => E cls d H)) (hl : ∀ ds S, ds.length ≠ np → c ds S = .stuck) (hdb : (x == ("__debug__" : Str)) = false) :
    PE X (.Call (.Name x p) [] [] pos) (tD g E fun env => bd (ret []) c) :=
  (pe_call0 F hr hg hm hk hb (dvs := []) (ds := []) .nil (L2N.passes_call tk fun _ _ _ _ h => h) hdb).imp fun σ H Q ⟨S, ρ, env, hr, he, h⟩ => by
    have q : Fin g E ρ H (c [] S) (fun d _ ρ' H' => ∀ v, DV g.K ρ' H' v d → Q v H') := h
    refine ⟨?_, S, ρ, [], hr, .nil, q⟩
    cases Nat.decEq ([] : List D).length np with
    | isTrue h => exact h
    | isFalse h =>
      rw [hl [] S h] at q
      exact q.elim
end
end Z
end
section
/-! ZSh: own refusals: made by an __init__ that is walked, raised. -/
namespace Z
open PySem PySem.Spec PyProof.Rows L2
section
variable {g : Gl0} {E : XK} {X : Cx} {ρ : List Addr} {H : Hp} {S : Sto} {a e : Expr} {fa : Env → M D} {p p1 p2 p3 pos : Pos} {es : List Expr} {ta : TA}
/-- C(e, ..), C an own refusal: its context is None -/
theorem pmk_oexN {CX : CXT} {x : Str} {C fI : Addr} {k : Nat} {fd : FuncData} {ps : List Str} {sp : Sp} {ds : List Value} {dvs : List V} (T : OexC X.K C) (iC : PySem.W.findIn X.K (.ref C) "__init__" = some (some (.ref fI))) (tI : PySem.W.typeIn X.K (.ref fI) = some (.type "function"))
    (F1 : FnOk X.prog X.w X.K X.mg X.base CX k fI fd ps sp) (hr : Room (k + 1) X.A) (hb : L2.Binds X.K fd ps ds) (hd : Vals dvs ds) (hx : Passes CX X (fun _ _ _ => False)) (hg : Gl X x) (hm : X.mg x = some (.ref C)) (ha : PA X (e :: es) ta)
    (hdb : (x == ("__debug__" : Str)) = false) (he : starEach (e :: es) X.env = (false, eval e X.env) :: starEach es X.env) (hpl : (backTo pos (starEach es X.env)).any (·.1) = false) :
    L2N.PMk X (.Call (.Name x p) (e :: es) [] pos) (tMkO C sp dvs ta) := by
  intro pins s σ H Q I h
  obtain ⟨nm, q, N, bs, bm, sn, sub, ab, col, dd, k0, k1, k2, k3, k5, hC, hbm⟩ := T.cls
  refine wpAny_Call_Name_kw (ld_glob I hg hm ?_ hdb)
  refine PySem.W.callWith_K (h₀ := X.base) I.ok.mod.kin T.kC (thn (ha.run pos pins s σ H _ I h) fun us s1 ⟨vs, H1, I1, r1, hz, q1⟩ => ⟨I1.kIn, ?_⟩) he hpl
  show wpAny _ _ (PySem.call (.ref C) us) _ _ _
  obtain ⟨hp, gg, dr, tk, os⟩ := s1
  have hsz : hp.objs.size ≤ hp.objs.size + 1 := Nat.le_succ _
  have hn : H1 (hp.objs.size + 1) = none := I1.hok.fresh hsz
  have hq := q1 (hp.objs.size + 1) hn
  have kk : ∀ b o, hp.get? b = some o → ((hp.push (PySem.W.kdv_tup us)).push (PySem.HandSPX.excO C hp.objs.size)).get? b = some o := fun b o e => Heap.get?_push_of_some _ (Heap.get?_push_of_some _ e)
  have hget : ((hp.push (PySem.W.kdv_tup us)).push (PySem.HandSPX.excO C hp.objs.size)).get? (hp.objs.size + 1) = some (PySem.HandSPX.excO C hp.objs.size) := by heap_get
  have I2 : Inv X pins σ (upd H1 (hp.objs.size + 1) (exo (hp.objs.size + 1) C none)) ⟨(hp.push (PySem.W.kdv_tup us)).push (PySem.HandSPX.excO C hp.objs.size), gg, dr, tk, os⟩ :=
    I1.laid (t' := tk) (a := hp.objs.size + 1) (o := exo (hp.objs.size + 1) C none) (h' := (hp.push (PySem.W.kdv_tup us)).push (PySem.HandSPX.excO C hp.objs.size)) kk hsz (exo_ok hget)
  have r2 : Vals (V.ref (hp.objs.size + 1) :: (vs ++ dvs)) (Value.ref (hp.objs.size + 1) :: (us ++ ds)) := .cons rfl (r1.append hd)
  have hl : (Value.ref (hp.objs.size + 1) :: us ++ ds).length = ps.length := by
    have e := r2.length
    rw [F1.len _ _ _ _ hq] at e
    exact e.symm
  have hus : us.length ≤ sizeLine := by
    rw [← Paired.length r1, sizeLine_eq]
    omega
  refine wpAny_call (PySem.HandSPX.call_own F.excBase_ValueError (fun Y => PySem.HandSPX.refsVE_contains Y bm hbm) (I1.kIn _ _ hC) (PySem.W.looks_findIn I1.kIn iC) (fun self => PySem.W.bind_fn I1.kIn self tI) hus
    (codeAny_mono (F1.run _ X.stack _ _ ⟨Value.ref (hp.objs.size + 1) :: us, []⟩ (Value.ref (hp.objs.size + 1) :: (us ++ ds)) _ _ (fun _ _ _ => False) (hr.make C us []) (I2.env0.make C us []) (hb _ (Value.ref (hp.objs.size + 1) :: us) I2.kIn hl) r2 hq) fun r s' hq' => ?_))
  cases r with
  | error er => exact hx pins σ _ _ er s' I2 hq'
  | ok fl =>
    cases fl with
    | ret u =>
      obtain ⟨v, H2, os2, bare2, un2, hok2, rv, ev, d, fs, ea, ed, hd1, q2⟩ := hq'
      subst ev
      obtain ⟨h2, g2, d2, t2, os'⟩ := s'
      obtain ⟨t0, G, J, kG, ge, hoe, na⟩ := mk_end0 (d2 := d2) (t2 := t2) I1 hsz kk un2 hok2 os2 bare2 ea ed hd1
      exact ⟨rv, hp.objs.size + 1, _, _, ⟨G, g2, d2, t2, os'⟩, _, .ref C, some d, rfl, J, kG, ge, hoe, ⟨rfl, rfl, fun vs e => by cases e; rfl⟩, rfl, rfl, na, rfl, bare2, raises_own T.exC T.tyC, q2⟩
    | next => exact False.elim hq'
    | brk => exact False.elim hq'
    | cont => exact False.elim hq'
theorem mline {o : Expr} {m : Str} {apos cpos : Pos} {env : PySem.Env} {args : List Expr} (hbase : attributeBase o m env (eval o env) = eval o env) (hf : methodCallForm (args.length + ([] : List Keyword).length) (backTo cpos (starEach args env)) (backToKw cpos (keywordEach [] env)) = true) (hl : (apos.endLine == cpos.line) = true) :
    eval (.Call (.Attribute o m apos) args [] cpos) env = (do
      let ov ← eval o env
      standAt apos.atName
      let (f, first) ← holding [ov] (getMethod ov m (plainOf o env))
      callWith cpos f first (backTo cpos (starEach args env)) (backToKw cpos (keywordEach [] env))) := by
  show (do
    let ov ← attributeBase o m env (eval o env)
    standAt apos.atName
    methodCall o m apos cpos env ov (args.length + ([] : List Keyword).length) (backTo cpos (starEach args env)) (backToKw cpos (keywordEach [] env))) = _
  rw [hbase]
  have e : ∀ ov, methodCall o m apos cpos env ov (args.length + ([] : List Keyword).length) (backTo cpos (starEach args env)) (backToKw cpos (keywordEach [] env)) = (do
      let (f, first) ← holding [ov] (getMethod ov m (plainOf o env))
      callWith cpos f first (backTo cpos (starEach args env)) (backToKw cpos (keywordEach [] env))) := fun ov => mcall_line hf hl
  simp only [e]
/-- what the __init__ of the refusals promises -/
def spInit (K : PySem.W.Frag) : Sp := fun vs H Q _ => ∃ (a C : Addr) (v : V), vs = [.ref a, v] ∧ OexC K C ∧ PySem.W.findIn K (.ref C) "what" = some none ∧ H a = some (exo a C none) ∧ ∀ dx, H dx = none → dx ≠ a → Q .non (upd (upd H dx (exd dx [("what", v)])) a (exo a C (some dx)))
/-- its body -/
def initB (p1 p2 p3 p4 p5 p6 p7 p8 p9 p10 : Pos) : List Stmt :=
  [.Expr (.Call (.Attribute (.Name "ValueError" p1) "__init__" p2) [.Name "self" p3, .Name "what" p4] [] p5) p6, .Assign [.Attribute (.Name "self" p7) "what" p8] (.Name "what" p9) p10]
theorem init_fn {CX : CXT} {P : Program} {w : World} {K : PySem.W.Frag} {mg : Str → Option Value} {base : Heap} {k : Nat} {f : Addr} {name qual : Str} {params : Arguments} {scope : Scope} {dV kV doc pm cdv ct oc : Value} {an od : Option Addr}
    {osl : Array (Option Value)} {q1 q2 q3 q4 q5 q6 q7 q8 q9 q10 : Pos} (lk : K.lookup f = some ⟨oc, od, .func (PySem.W.fnOf name qual params (initB q1 q2 q3 q4 q5 q6 q7 q8 q9 q10) scope dV kV doc pm an cdv ct), osl⟩) (hcd : PySem.W.codeIn K cdv qual = true) (hl : (q2.endLine == q5.line) = true)
    (S : FnScope ["self", "what"] ["self", "what"] scope) (h1 : scope.names.lookup ("self" : Str) = some .local) (h2 : scope.names.lookup ("what" : Str) = some .local) (h3 : scope.names.lookup ("ValueError" : Str) = some .globalImplicit) (hm : mg "ValueError" = none)
    (vV : PySem.W.findCls K (.type "ValueError") (.type "type") "__init__" = some (.val (.builtin "ValueError.__init__"))) :
    FnOk P w K mg base CX (k + 1) f (PySem.W.fnOf name qual params (initB q1 q2 q3 q4 q5 q6 q7 q8 q9 q10) scope dV kV doc pm an cdv ct) ["self", "what"] (spInit K) := by
  refine fn_of lk hcd S (fun vs H Q E ⟨a, C, v, e, _⟩ => by subst e; rfl) fun A outer s H vs Q E hr h => ?_
  obtain ⟨a, C, v, e, T, hno, hH, h⟩ := h
  subst e
  have vs1 : PE (cxOf CX P w K mg base ["self", "what"] qual scope f cdv A outer s H E) (.Name "self" q3) (tVar 0) := pe_var (i := 0) rfl (.inl h1)
  have vs2 : PE (cxOf CX P w K mg base ["self", "what"] qual scope f cdv A outer s H E) (.Name "what" q4) (tVar 1) := pe_var (i := 1) rfl (.inl h2)
  have vs3 : PE (cxOf CX P w K mg base ["self", "what"] qual scope f cdv A outer s H E) (.Name "self" q7) (tVar 0) := pe_var (i := 0) rfl (.inl h1)
  have vs4 : PE (cxOf CX P w K mg base ["self", "what"] qual scope f cdv A outer s H E) (.Name "what" q9) (tVar 1) := pe_var (i := 1) rfl (.inl h2)
  have st1 : PS (cxOf CX P w K mg base ["self", "what"] qual scope f cdv A outer s H E) (.Expr (.Call (.Attribute (.Name "ValueError" q1) "__init__" q2) [.Name "self" q3, .Name "what" q4] [] q5) q6) _ := ps_expr (pe_veinit (X := cxOf CX P w K mg base ["self", "what"] qual scope f cdv A outer s H E) h3 hm vV (pa_cons vs1 (pa_cons vs2 pa_nil (by rfl)) (by rfl)) (mline (by rfl) (by rfl) hl) (by rfl) (by rfl)) (by rfl)
  have st2 : PS (cxOf CX P w K mg base ["self", "what"] qual scope f cdv A outer s H E) (.Assign [.Attribute (.Name "self" q7) "what" q8] (.Name "what" q9) q10) _ := ps_ost vs3 vs4 (by rfl)
  refine ⟨_, pss_cons st1 (pss_cons st2 pss_nil), ?_⟩
  refine ⟨.ref a, rfl, v, rfl, a, C, [v], rfl, by show 1 ≤ 1000; decide, T, hH, ?_⟩
  refine ⟨v, rfl, .ref a, rfl, a, C, rfl, T, hno, .inl ⟨hH, fun dx hdx hne => ?_⟩⟩
  exact h dx hdx hne
/-- raise C(e) -/
theorem ds_rais {CX : CXT} {x : Str} {j : Nat} {fI : Addr} {k : Nat} {fd : FuncData} {ps : List Str} {q1 : Pos} (hK : X.K = g.K) (hc : X.calm = true) (tk : L2N.Takes X (fun cls d _ H => E cls d H)) (T : OexC X.K (g.L.ca j)) (hno : PySem.W.findIn X.K (.ref (g.L.ca j)) "what" = some none)
    (iC : PySem.W.findIn X.K (.ref (g.L.ca j)) "__init__" = some (some (.ref fI))) (tI : PySem.W.typeIn X.K (.ref fI) = some (.type "function"))
    (F1 : FnOk X.prog X.w X.K X.mg X.base CX k fI fd ps (spInit X.K)) (hr : Room (k + 1) X.A) (hb : L2.Binds X.K fd ps []) (hx : Passes CX X (fun _ _ _ => False)) (hg : Gl X x) (hm : X.mg x = some (.ref (g.L.ca j))) (ha : PE X e (tD g E fa))
    (hdb : (x == ("__debug__" : Str)) = false) (he : starEach [e] X.env = (false, eval e X.env) :: starEach [] X.env) :
    PS X (.Raise (some (.Call (.Name x p) [e] [] q1)) none pos) (tS g E fun env => bd (fa env) fun d => thr j d) :=
  (L2N.ps_raise hc tk (pmk_oexN (dvs := []) (ds := []) T iC tI F1 hr hb .nil hx hg hm (pa_cons ha pa_nil he) hdb he (by rfl))).imp fun D σ H ⟨S, ρ, env, hr, he, q⟩ => by
    refine ⟨S, ρ, env, hr, he, q.bd.imp fun d S1 ρ1 H1 x r1 q1 v hv => ⟨by show 1 ≤ 1000; decide, fun a ha => ?_⟩⟩
    refine ⟨a, g.L.ca j, v, rfl, T, hno, upd_same, fun dx hdx hne => ⟨rfl, dx, [("what", v)], upd_same, by rw [upd_ne hne, upd_same], by rw [upd_ne hne] at hdx; exact hdx, ?_⟩⟩
    have hdx' : H1 dx = none := by rw [upd_ne hne] at hdx; exact hdx
    have eH : upd (del (upd (upd (upd H1 a (exo a (g.L.ca j) none)) dx (exd dx [("what", v)])) a (exo a (g.L.ca j) (some dx))) a) dx (.xd [("what", v)]) = upd H1 dx (.xd [("what", v)]) := by
      funext b
      by_cases h1 : b = dx
      · rw [h1, upd_same, upd_same]
      · rw [upd_ne h1, upd_ne h1]
        by_cases h2 : b = a
        · rw [h2, del_same, ha]
        · rw [del_ne h2, upd_ne h2, upd_ne h1, upd_ne h2]
    rw [eH]
    have q2 : Fin g E ρ1 H1 (R.exc (α := F) j d S1) (okF g D) := q1
    exact q2 ρ1 _ _ _ (Ex.new hdx') (r1.new hdx') ⟨rfl, dx, v, rfl, upd_same, hv.ex r1 (Ex.new hdx')⟩
end
end Z
end
section
/-! ZHa: walks that end, tuples taken apart, list comprehensions: within an except suite. -/
namespace Z
open PySem PySem.Spec PyProof.Rows L2
section
variable {prog : Program} {w : World} {A : Around} {E : Value → Shared → Prop} {s : Shared}
theorem extBut_upd {it a : Addr} {h h1 : Heap} {f : Obj → Obj} (e : Heap.ExtBut it h h1) (ha : h.objs.size ≤ a) : Heap.ExtBut it h (h1.update a f) := fun b o hb ho => by
  rw [Heap.get?_update_other _ _ (Nat.ne_of_gt (Nat.lt_of_lt_of_le (Heap.lt_size ho) ha))]
  exact e b o hb ho
theorem list_end_hot {it l x1 : Addr} {i : Nat} {items : Array Value} {Q : Option Value → Shared → Prop} (hot : HotX.HotAt A x1 s.heap) (hne : x1 ≠ it)
    (hit : s.heap.IsListIter it l i) (hl : s.heap.IsList l items) (hx : items[i]? = none)
    (hQ : ∀ h', Heap.ExtBut it s.heap h' → Q none { s with heap := h' }) : wpAny (model prog w) A (pyNext (.ref it)) Q E s := by
  obtain ⟨o, ho, hc, hd⟩ := id hit
  obtain ⟨ol, hol, _, nl, hdl⟩ := hl
  obtain ⟨hh, o1, vs1, h1, d1, c1⟩ := hot
  unfold pyNext
  refine wpAny_bind (wpAny_attempt (wpAny_callSpecial?_slot (name := Str.ofString "__next__") hit.typeIs slot_listiter_next
    (wpAny_call_entry slot_listiter_next hit.typeIs entry_listiter_next ?_ (args_listiter_next _))))
  show wpAny _ _ (field (.ref it) 0 >>= _) _ _ s
  refine wpAny_bind (wpAny_field ho hd (x := .ref l) rfl ?_)
  show wpAny _ _ (if (Value.ref l == Value.none) = true then _ else _) _ _ s
  rw [if_neg (show ¬ ((Value.ref l == Value.none) = true) from Bool.false_ne_true)]
  show wpAny _ _ (field (.ref it) 1 >>= _) _ _ s
  refine wpAny_bind (wpAny_field ho hd (x := .int i 0) rfl ?_)
  show wpAny _ _ (seqItems? (.ref l) >>= _) _ _ s
  refine wpAny_bind (wpAny_seqItems hol hdl ?_)
  simp only [Int.toNat_natCast, hx]
  refine wpAny_bind (wpAny_rule (wpAny_bind (wpAny_setField ho hd (by simp) ?_)))
  show wpAny _ _ (newExc (.type "StopIteration") [] >>= _) _ _ _
  refine wpAny_bind ?_
  simp only [newExc, newTuple]
  refine wpAny_bind (wpAny_newObj_type ?_ (by size_fits))
  refine wpAny_bind (m := firstArgMember _ _) (wpAny_of_eq (a := Value.none) (by first | rfl | (simp only [firstArgMember]; rfl)) ?_)
  refine wpAny_newObj_type ?_ (by size_fits)
  have h1' : ∀ f : Obj → Obj, (s.heap.update it f).get? x1 = some o1 := fun f => (Heap.get?_update_other _ _ (Ne.symm hne)).trans h1
  refine HotX.raiseNew_hot ⟨hh, o1, vs1, Heap.get?_push_of_some _ (Heap.get?_push_of_some _ (h1' _)), d1, c1⟩ (Nat.ne_of_lt (Heap.lt_size (Heap.get?_push_of_some _ (h1' _)))) (Heap.get?_push_size _ rfl) rfl (by first | (simp; done) | (simp; omega) | (simp only [Array.size_append]; simp; omega)) ?_
  refine wpAny_bind (wpAny_isInstance (T := "StopIteration") (b := true) ⟨_, Heap.get?_update_self _ (Heap.get?_push_size _ rfl) rfl, rfl⟩ isSubtype_stop ?_)
  exact wpAny_pure (hQ _ (extBut_upd (((Heap.SameBut.update ..).extBut.push _).push _) (by simp [Heap.size_push, Heap.size_update])))
theorem tuple_end_hot {it t x1 : Addr} {i : Nat} {items : Array Value} {Q : Option Value → Shared → Prop} (hot : HotX.HotAt A x1 s.heap) (hne : x1 ≠ it)
    (hit : IsTupIter s.heap it t i) (ht : IsTup s.heap t items) (hx : items[i]? = none)
    (hQ : ∀ h', Heap.ExtBut it s.heap h' → Q none { s with heap := h' }) : wpAny (model prog w) A (pyNext (.ref it)) Q E s := by
  obtain ⟨o, ho, hc, hd⟩ := id hit
  obtain ⟨ol, hol, _, nl, hdl⟩ := ht
  obtain ⟨hh, o1, vs1, h1, d1, c1⟩ := hot
  unfold pyNext
  refine wpAny_bind (wpAny_attempt (wpAny_callSpecial?_slot (name := Str.ofString "__next__") hit.typeIs slot_tupleiter_next
    (wpAny_call_entry slot_tupleiter_next hit.typeIs entry_tupleiter_next ?_ (args_tupleiter_next _))))
  show wpAny _ _ (field (.ref it) 0 >>= _) _ _ s
  refine wpAny_bind (wpAny_field ho hd (x := .ref t) rfl ?_)
  show wpAny _ _ (if (Value.ref t == Value.none) = true then _ else _) _ _ s
  rw [if_neg (show ¬ ((Value.ref t == Value.none) = true) from Bool.false_ne_true)]
  show wpAny _ _ (field (.ref it) 1 >>= _) _ _ s
  refine wpAny_bind (wpAny_field ho hd (x := .int i 0) rfl ?_)
  show wpAny _ _ (seqItems? (.ref t) >>= _) _ _ s
  refine wpAny_bind (wpAny_seqItems hol hdl ?_)
  simp only [Int.toNat_natCast, hx]
  refine wpAny_bind (wpAny_rule (wpAny_bind (wpAny_setField ho hd (by simp) ?_)))
  show wpAny _ _ (newExc (.type "StopIteration") [] >>= _) _ _ _
  refine wpAny_bind ?_
  simp only [newExc, newTuple]
  refine wpAny_bind (wpAny_newObj_type ?_ (by size_fits))
  refine wpAny_bind (m := firstArgMember _ _) (wpAny_of_eq (a := Value.none) (by first | rfl | (simp only [firstArgMember]; rfl)) ?_)
  refine wpAny_newObj_type ?_ (by size_fits)
  have h1' : ∀ f : Obj → Obj, (s.heap.update it f).get? x1 = some o1 := fun f => (Heap.get?_update_other _ _ (Ne.symm hne)).trans h1
  refine HotX.raiseNew_hot ⟨hh, o1, vs1, Heap.get?_push_of_some _ (Heap.get?_push_of_some _ (h1' _)), d1, c1⟩ (Nat.ne_of_lt (Heap.lt_size (Heap.get?_push_of_some _ (h1' _)))) (Heap.get?_push_size _ rfl) rfl (by first | (simp; done) | (simp; omega) | (simp only [Array.size_append]; simp; omega)) ?_
  refine wpAny_bind (wpAny_isInstance (T := "StopIteration") (b := true) ⟨_, Heap.get?_update_self _ (Heap.get?_push_size _ rfl) rfl, rfl⟩ isSubtype_stop ?_)
  exact wpAny_pure (hQ _ (extBut_upd (((Heap.SameBut.update ..).extBut.push _).push _) (by simp [Heap.size_push, Heap.size_update])))

theorem unpackItems_hot {t x1 : Addr} {items : Array Value} {Q : List Value → Shared → Prop} (hot : HotX.HotAt A x1 s.heap) (ht : IsTup s.heap t items)
    (hQ : ∀ h', Heap.ExtBut s.heap.objs.size s.heap h' → Q items.toList { s with heap := h' }) : wpAny (model prog w) A (unpackItems (.ref t) items.size none) Q E s := by
  have hlt : t ≠ s.heap.objs.size := by obtain ⟨o, ho, _⟩ := ht; exact Nat.ne_of_lt (Heap.lt_size ho)
  obtain ⟨hh, o1, vs1, h1, d1, c1⟩ := hot
  have hx1 : x1 ≠ s.heap.objs.size := Nat.ne_of_lt (Heap.lt_size h1)
  unfold unpackItems
  refine wpAny_bind ?_
  unfold notIterableAtAll
  refine wpAny_bind (wpAny_specialOf ht.typeIs slot_tuple_iter.lookup ?_)
  refine wpAny_pure ?_
  simp only [Bool.false_eq_true, if_false]
  refine wpAny_bind (wpAny_holding (iter_tuple ht ?_))
  refine wpAny_bind (wpAny_holding (draw_tuple hlt items.size 0 _ _ ⟨_, Heap.get?_push_size _ rfl, rfl, rfl⟩ (ht.push _) (by omega) fun h₁ hit₁ hs₁ => ?_))
  have hall : List.take items.size (List.drop 0 items.toList) = items.toList := by
    rw [List.drop_zero]; exact List.take_of_length_le (by simp)
  rw [hall]
  rw [if_neg (by simp)]
  have ht₁ : IsTup h₁ t items := (ht.push _).extBut hs₁.extBut hlt
  refine wpAny_bind (wpAny_holding (tuple_end_hot (x1 := x1) ⟨hh, o1, vs1, hs₁.extBut x1 o1 hx1 (Heap.get?_push_of_some _ h1), d1, c1⟩ hx1 hit₁ ht₁ (by simp) fun h₂ he₂ => ?_))
  simp only [Option.isSome_none, Bool.false_eq_true, if_false]
  refine wpAny_pure (hQ h₂ fun b o hb e => he₂ b o hb (hs₁.extBut b o hb (Heap.get?_push_of_some _ e)))
theorem assign_tup_hot {env : PySem.Env} {elts : List Expr} {x0 : Nat} {pos : Pos} {t x1 : Addr} {items : Array Value} {Q : Unit → Shared → Prop} (hot : HotX.HotAt A x1 s.heap) (ht : IsTup s.heap t items)
    (hn : (assignEach elts env).length = items.size) (hstar : (assignEach elts env).findIdx? (·.1) = none)
    (h : ∀ h', Heap.ExtBut s.heap.objs.size s.heap h' → wpAny (model prog w) A (assignInOrder ((assignEach elts env).map (·.2)) items.toList) Q E { s with heap := h' }) :
    wpAny (model prog w) A (assign (.Tuple elts x0 pos) env (.ref t)) Q E s := by
  rw [assign_Tuple]
  refine wpAny_bind (wpAny_standAt ?_)
  unfold unpack
  rw [hn, hstar]
  exact wpAny_bind (wpAny_holding (unpackItems_hot hot ht h))
end
section
variable {X : Cx} {tg : Expr}
theorem pg_tupH {es : List Expr} {k : Nat} {t : TGs} {n : Nat} {pos : Pos} (hc : L2H.HotC X) (h : PGs X es t)
    (hn : (assignEach es X.env).length = n) (hst : (assignEach es X.env).findIdx? (·.1) = none) : PG X (.Tuple es k pos) (gTup X.K n t) := by
  refine ⟨fun pins s σ H v u Q I r hw => ?_⟩
  obtain ⟨a, xs, e1, hq, hl, hw⟩ := hw
  subst e1
  cases r
  obtain ⟨its, rv, ht, hz⟩ := I.tuple hq
  obtain ⟨x1, hot⟩ := hc.at I
  refine assign_tup_hot hot ht (by simp [hn, ← hl, rv.length]) hst fun h' hx => ?_
  have I1 : Inv X pins σ H { s with heap := h' } := I.kept (t' := s.toks) fun b o e => hx b o (Nat.ne_of_lt (Heap.lt_size e)) e
  exact h.run pins _ σ H xs _ Q I1 (by simpa using rv) hw
theorem turn_listH {P : Program} {w : World} {K : PySem.W.Frag} (a it : Addr) : L2H.TurnH P w K tg (Itl K a) [it] it (fun i h => h.IsListIter it a i) where
  mem := by simp
  obj := fun i h st b hb => by
    have e : b = it := by simpa using hb
    subst e
    obtain ⟨o, e, c, d⟩ := st
    exact ⟨o, e, fun v z => by rw [d] at z; cases z⟩
  keep := fun i h h' st k => st.at fun o e => k it (by simp) o e
  item := by
    intro X hP hw hK hc i pins s σ H E I hf st hg
    subst hP hw hK
    obtain ⟨xs, x, hq, hx⟩ := hg
    obtain ⟨its, rv, p, hz⟩ := I.list hq
    obtain ⟨u, hu, ru⟩ := rv.get hx
    obtain ⟨f0, f1, f2, f3, f4, f5⟩ := hf it (by simp)
    refine wpAny_pyNext_list_item st p.isList (x := u) (by simpa using hu) fun h' st' sb => ?_
    have I1 : Inv X pins σ H { s with heap := h' } := I.turned (t' := s.toks) (fun b o hb e => (sb.2 b hb).trans e) f0 f1 f3 f4 f5
    obtain ⟨o, e, c, d⟩ := id st'
    exact ⟨u, rfl, go_of (s := { s with heap := h' }) e c d (by decide) ⟨x, H, I1, ru, ⟨rfl, fun ys hy => by rw [I.list_inj hy hq]; exact hx⟩, st', fun b hb => (hf b hb).1⟩⟩
  done := by
    intro X hP hw hK hc i pins s σ H E I hf st hg
    subst hP hw hK
    obtain ⟨xs, hq, hx⟩ := hg
    obtain ⟨its, rv, p, hz⟩ := I.list hq
    obtain ⟨f0, f1, f2, f3, f4, f5⟩ := hf it (by simp)
    have hl := rv.length
    obtain ⟨q, ⟨hh, v1, e1, c1⟩, hq1⟩ := hc
    have P1 := I.pin q (List.mem_append_left _ hq1)
    exact list_end_hot (x1 := q.1) ⟨hh, q.2, v1, P1.1, e1, c1⟩ (f5 q (List.mem_append_left _ hq1)) st p.isList (by simp; omega) fun h' eb => ⟨rfl, I.turned (t' := s.toks) (fun b o hb e => eb b o hb e) f0 f1 f3 f4 f5⟩
  self := fun _ _ _ _ _ st h => wpAny_pyIter_listiter st h
theorem pi_listH {l : Expr} {tl : TE} (hl : PE X l tl) : L2H.PIH X tg l (iList X.K tl) := by
  refine ⟨fun pins s σ H R I h => ?_⟩
  refine thn (hl.run pins s σ H _ I h) fun v s1 ⟨x, H1, I1, r1, q1⟩ => ?_
  obtain ⟨a, e, ⟨xs, hq⟩, q⟩ := q1
  subst e
  cases r1
  obtain ⟨its, rv, p, hz⟩ := I1.list hq
  refine wpAny_pyIter_list p.isList ?_
  refine ⟨s1.heap.objs.size, [s1.heap.objs.size], _, _, H1, rfl, I1.kept (t' := s1.toks) fun b o e => Heap.get?_push_of_some _ e, turn_listH a _, ⟨_, Heap.get?_push_size _ rfl, rfl, rfl⟩, fun b hb => ?_, q⟩
  have e : b = s1.heap.objs.size := by simpa using hb
  subst e
  exact I1.fpOk (Nat.le_refl _) (I1.hok.fresh (Nat.le_refl _))
/-- the block's context, what is handled still pinned -/
abbrev blkH (X : Cx) (s : Shared) (H : Hp) (scope : Scope) (cenv : PySem.Env) (fp : List Addr) : Cx := { X.blk s H scope cenv fp with pn := X.pn }
theorem inv_blkH {pins : List (Addr × Obj)} {σ σ' : L2.St} {H : Hp} {s s' : Shared} {scope : Scope} {cl : List (Str × Addr)} {fp : List Addr} (I : Inv X pins σ H s) (B : Inv (X.blk s H scope (compEnvC scope cl s.heap.objs.size X.env) fp) [] σ' H s') (hf : ∀ b ∈ fp, FpOk X pins H b ∧ b < s.heap.objs.size) :
    Inv (blkH X s H scope (compEnvC scope cl s.heap.objs.size X.env) fp) [] σ' H s' := by
  have ok := B.ok
  refine ⟨⟨ok.mod, ok.kind, ok.glob, ok.blt, ok.above, ok.inj, ok.has, ok.cab, ok.hd, ok.frames, ok.stk, ok.exf, ok.bs, ok.bsz, ok.noex, ok.exfs, ok.funs, ok.frf⟩, B.os, B.bare, B.base, B.loc, B.cell, B.free, B.freeC, fun p hp => ?_, B.hok, B.len⟩
  have hp : p ∈ X.pn := by simpa using (show p ∈ X.pn ++ ([] : List (Addr × Obj)) from hp)
  obtain ⟨p1, p2, p3, p4, p5⟩ := I.pin p (List.mem_append_left _ hp)
  have nst : p.1 ∉ frs X.stack := fun hm => (List.mem_cons.mp (I.stkSub p.1 hm)).elim p3 p4
  exact ⟨B.base.keep p.1 p.2 p1 p2 nst fun hm => (hf p.1 hm).1.2.2.2.2.2 p (List.mem_append_left _ hp) rfl, p2, Nat.ne_of_lt (Heap.lt_size p1), nst, p5⟩
section
variable {pins : List (Addr × Obj)} {σ : L2.St} {H : Hp} {s : Shared}
theorem lc_coreH {pins : List (Addr × Obj)} {s : Shared} {σ : L2.St} {H : Hp} {Q : VK} {elt tg iter : Expr} {ifs : List Expr} {scope : Scope} {own : List (Str × Nat)} {pos pos' : Pos} {wi : TI} {g : TG} {tt : TT} {te : TE} {use : Option (Value → Sem Unit)} {Qf : Value → Shared → Prop}
    (hc : L2H.HotC X) (hN : X.N.Nodup) (I : Inv X pins σ H s) (hi : L2H.PIH X tg iter wi) (ok : BlkOk X.N X.env.scope scope own)
    (hg : ∀ (s : Shared) (H : Hp) (C : Addr) (cl : List (Str × Addr)) (fp : List Addr), PG (blkH X s H scope (compEnvC scope cl C X.env) fp) tg g) (ht : ∀ (s : Shared) (H : Hp) (C : Addr) (cl : List (Str × Addr)) (fp : List Addr), PTs (blkH X s H scope (compEnvC scope cl C X.env) fp) ifs tt)
    (he : ∀ (s : Shared) (H : Hp) (C : Addr) (cl : List (Str × Addr)) (fp : List Addr), PE (blkH X s H scope (compEnvC scope cl C X.env) fp) elt te) (hs : ∀ x, foldedSetIterable iter X.env x = pure x)
    (h : tLc wi g tt te (own.map (·.2)) σ H Q)
    (hRR : ∀ D C s' m H', Inv X pins σ H' s' → Q (.ref D) H' → s'.heap.Ns C m → FpOk X pins H' C → compPost (model X.prog X.w) X.A X.xe use Qf (.ref D) C (.ok .next) s') :
    wpAny (model X.prog X.w) X.A (comprehension (.ListComp elt [⟨tg, iter, ifs, 0⟩] scope pos) scope X.env pos' (newList []) false (eval iter X.env) use) Qf X.xe s := by
  have hfree : ∀ y ∈ scope.names, y.2 = .free → ∃ c, X.env.cells.lookup y.1 = some c := fun y hy e => by
    rcases ok.free y hy e with k | k
    · exact I.ok.has _ (.inl k)
    · exact I.ok.has _ (.inr k)
  refine wpAny_comprehension_free (use := use) rfl hs (closure_ok hfree) ok.kind (fun y hy e => by rw [ok.uniq y hy, e])
    (thn (hi.run pins s σ H _ I h) fun xv s1 hx => thn hx fun itv s2 h2 => ?_)
  obtain ⟨it, fp, tn, J, H2, e, I2, T, st2, f2, q⟩ := h2
  subst e
  refine wpAny_newObj_type (newEnv_comp ?_) (by show 0 ≤ sizeLine; decide)
  generalize hD : s2.heap.objs.size = D
  have hDn : H2 D = none := I2.hok.fresh (Nat.le_of_eq hD)
  obtain ⟨W, ⟨m0, w0⟩, turn⟩ := q D hDn
  -- the new list
  generalize hs3 : ({ s2 with heap := s2.heap.push { cls := .type "list", data := .seq ([] : List Value).toArray } } : Shared) = s3
  have I3 : Inv X pins σ (upd H2 D (.lst [])) s3 := by
    rw [← hs3]
    refine I2.laid (t' := s2.toks) (fun b o e => Heap.get?_push_of_some _ e) (Nat.le_of_eq hD) ⟨Nat.zero_le _, [], 0, .nil, ?_⟩
    rw [← hD]
    exact Heap.get?_push_size _ rfl
  have h3 : s3.heap = s2.heap.push { cls := .type "list", data := .seq ([] : List Value).toArray } := by rw [← hs3]
  have sz : ∀ b ∈ fp, b < s2.heap.objs.size := fun b hb => by
    obtain ⟨o, e, _⟩ := T.obj _ _ st2 b hb
    exact Heap.lt_size e
  have f3 : ∀ b ∈ fp, FpOk X pins (upd H2 D (.lst [])) b ∧ b < s3.heap.objs.size := fun b hb => by
    have hlt := sz b hb
    refine ⟨⟨?_, (f2 b hb).2⟩, by rw [h3, Heap.size_push]; exact Nat.lt_succ_of_lt hlt⟩
    rw [upd_ne (by rw [← hD]; exact Nat.ne_of_lt hlt)]
    exact (f2 b hb).1
  have st3 : tn 0 s3.heap := T.keep _ _ _ st2 fun b _ o e => by rw [h3]; exact Heap.get?_push_of_some _ e
  have I4 := inv_blkH I3 (block_start I3 ok hN f3) f3
  have pg := hg s3 (upd H2 D (.lst [])) s3.heap.objs.size (cellsFrom (s3.heap.objs.size + 1) scope.names (cloFrom X.env.cells scope.names [])) fp
  have pt := ht s3 (upd H2 D (.lst [])) s3.heap.objs.size (cellsFrom (s3.heap.objs.size + 1) scope.names (cloFrom X.env.cells scope.names [])) fp
  have pe := he s3 (upd H2 D (.lst [])) s3.heap.objs.size (cellsFrom (s3.heap.objs.size + 1) scope.names (cloFrom X.env.cells scope.names [])) fp
  show codeAny _ _ (.compStart (.ListComp elt [⟨tg, iter, ifs, 0⟩] scope pos) 0 (.ref it) (.ref D) (compEnvC scope (cellsFrom (s3.heap.objs.size + 1) scope.names (cloFrom X.env.cells scope.names [])) s3.heap.objs.size X.env)) (compPost (model X.prog X.w) X.A X.xe use Qf (.ref D) s3.heap.objs.size) { s3 with heap := pushCells (s3.heap.push { cls := .type "dict", data := .dict #[] }) scope.names }
  have nfp : ∀ b ∈ fp, (upd H2 D (.lst [])) b = none := fun b hb => (f3 b hb).1.1
  generalize hce : compEnvC scope (cellsFrom (s3.heap.objs.size + 1) scope.names (cloFrom X.env.cells scope.names [])) s3.heap.objs.size X.env = ce at I4 pg pt pe ⊢
  have cL : ce.locals = s3.heap.objs.size := by subst hce; rfl
  generalize hH3 : upd H2 D (.lst []) = H3 at I3 I4 pg pt pe w0 nfp f3
  generalize hs4 : ({ s3 with heap := pushCells (s3.heap.push { cls := .type "dict", data := .dict #[] }) scope.names } : Shared) = s4 at I4 ⊢
  have st4 : tn 0 s4.heap := T.keep _ _ _ st3 fun b _ o e => by rw [← hs4]; exact pushCells_keeps _ _ _ _ (Heap.get?_push_of_some _ e)
  have stat : ∀ {σ' : L2.St} {H' : Hp} {s' : Shared}, Inv (blkH X s3 H3 scope ce fp) [] σ' H' s' → (∀ b ∈ fp, H' b = none) → ∀ b ∈ fp, FpOk (blkH X s3 H3 scope ce fp) [] H' b := fun {σ' H' s'} I' hn b hb =>
    ⟨hn b hb, (I'.ok.exf b hb).1, I'.ok.exfs b hb, .inl hb, fun x c e => (I'.ok.exf b hb).2 x c e, fun p hp => (f2 b hb).2.2.2.2.2 p (List.mem_append_left _ (by simpa using (show p ∈ X.pn ++ ([] : List (Addr × Obj)) from hp)))⟩
  have loop : codeAny (model X.prog X.w) X.A (.compLoop (.ListComp elt [⟨tg, iter, ifs, 0⟩] scope pos) 0 (.ref it) (.ref D) ce) (compPost (model X.prog X.w) X.A X.xe use Qf (.ref D) s3.heap.objs.size) s4 := by
    refine compLoop_any (fun n s' => ∃ i H', Inv (blkH X s3 H3 scope ce fp) [] (wipe σ (own.map (·.2))) H' s' ∧ tn i s'.heap ∧ (∀ b ∈ fp, H' b = none) ∧ W i n H') ?_ m0 ⟨0, H3, I4, st4, nfp, w0⟩
    rintro n s5 ⟨i, H5, I5, st5, n5, w5⟩
    rcases turn i n H5 w5 with ⟨stop, qq⟩ | ⟨go, Nx, hNx, step⟩
    · have td := T.done (blkH X s3 H3 scope ce fp) rfl rfl rfl hc i [] s5 _ H5 (fun _ _ => False) I5 (stat I5 n5) st5 stop
      refine thnF td fun r s6 ⟨hr, I6⟩ => ?_
      subst hr
      -- back in the def's context
      have I7 : Inv X pins σ H5 s6 := I3.call' (ch := fp) I6.os I6.base I6.hok I6.bare fun b hb => ⟨(f3 b hb).1.2.2.2.1, (f3 b hb).1.2.1, (f3 b hb).1.2.2.2.2.1, (f3 b hb).1.2.2.2.2.2⟩
      have nC : H5 s3.heap.objs.size = none := by
        have z : H5 ce.locals = none := I6.free
        rw [cL] at z
        exact z
      obtain ⟨m, hn, _⟩ := I6.loc
      have hn : s6.heap.Ns ce.locals m := hn
      rw [cL] at hn
      exact hRR D s3.heap.objs.size s6 m H5 I7 qq hn (I3.fpOk (Nat.le_refl _) nC)
    · have ti := T.item (blkH X s3 H3 scope ce fp) rfl rfl rfl hc i [] s5 _ H5 (fun _ _ => False) I5 (stat I5 n5) st5 go
      refine thnF ti fun r s6 ⟨u, hr, h6⟩ => ?_
      subst hr
      refine thnF h6 fun _ s7 ⟨x, H7, I7, r7, y7, st7, n7⟩ => ?_
      have I7' := I7.pinned (stat I7 n7) (T.obj _ _ st7)
      refine thnF (pg.run _ s7 _ H7 x u _ I7' r7 (step x H7 y7)) fun _ s8 ⟨σ8, H8, I8, hw8, q8⟩ => ?_
      refine thnF (pt.run _ s8 σ8 H8 _ I8 q8) fun b s9 ⟨H9, I9, q9⟩ => ?_
      -- the turn's end
      have fin : ∀ {s' : Shared} {H' : Hp}, Inv (blkH X s3 H3 scope ce fp) ([] ++ pinsAt fp s7.heap) σ8 H' s' → Nx H' → ∃ m, m < n ∧ ∃ i H', Inv (blkH X s3 H3 scope ce fp) [] (wipe σ (own.map (·.2))) H' s' ∧ tn i s'.heap ∧ (∀ b ∈ fp, H' b = none) ∧ W i m H' := fun {s' H'} I' nx => by
        obtain ⟨m', hm, w'⟩ := hNx H' nx
        have pin' : ∀ b ∈ fp, ∀ o, s7.heap.get? b = some o → s'.heap.get? b = some o ∧ H' b = none := fun b hb o e =>
          let z := I'.pin (b, o) (List.mem_append_right _ (List.mem_append_right _ (mem_pinsAt hb e)))
          ⟨z.1, z.2.1⟩
        have hl : (wipe σ (own.map (·.2))).length = σ8.length := by rw [← hw8, wipe_length]
        refine ⟨m', hm, i + 1, H', (I'.unpinned (pins := [])).weak hl (fun j v e => ?_), T.keep _ _ _ st7 fun b hb o e => (pin' b hb o e).1, fun b hb => ?_, w'⟩
        · rw [← hw8] at e
          exact (wipe_some e).1
        · obtain ⟨o, e, _⟩ := T.obj _ _ st7 b hb
          exact (pin' b hb o e).2
      cases b with
      | false =>
        simp only [Bool.false_eq_true, if_false] at q9 ⊢
        exact fin I9 q9
      | true =>
        simp only [if_true] at q9 ⊢
        refine thnF (pe.run _ s9 σ8 H9 _ I9 q9) fun z s10 ⟨yv, H10, I10, r10, acc, hD10, hz10, nx⟩ => ?_
        exact app_ok (X := blkH X s3 H3 scope ce fp) I10 hD10 hz10 r10 fun s11 I11 => fin I11 nx
  exact codeAny_compStart_list loop (T.self X.A 0 _ _ _ st4 loop)
theorem pe_lcH {elt tg iter : Expr} {ifs : List Expr} {scope : Scope} {own : List (Str × Nat)} {pos : Pos} {wi : TI} {g : TG} {tt : TT} {te : TE} (hc : L2H.HotC X) (hN : X.N.Nodup) (hi : L2H.PIH X tg iter wi) (ok : BlkOk X.N X.env.scope scope own)
    (hg : ∀ (s : Shared) (H : Hp) (C : Addr) (cl : List (Str × Addr)) (fp : List Addr), PG (blkH X s H scope (compEnvC scope cl C X.env) fp) tg g) (ht : ∀ (s : Shared) (H : Hp) (C : Addr) (cl : List (Str × Addr)) (fp : List Addr), PTs (blkH X s H scope (compEnvC scope cl C X.env) fp) ifs tt)
    (he : ∀ (s : Shared) (H : Hp) (C : Addr) (cl : List (Str × Addr)) (fp : List Addr), PE (blkH X s H scope (compEnvC scope cl C X.env) fp) elt te) (hs : ∀ x, foldedSetIterable iter X.env x = pure x := by intro _; rfl) :
    PE X (.ListComp elt [⟨tg, iter, ifs, 0⟩] scope pos) (tLc wi g tt te (own.map (·.2))) := by
  refine ⟨fun pins s σ H Q I h => ?_⟩
  rw [eval_ListComp]
  refine lc_coreH hc hN I hi ok hg ht he hs h fun D C s' m H' I' q hn f => ⟨m, hn, fun h'' sb => ?_⟩
  obtain ⟨f0, f1, f2, f3, f4, f5⟩ := f
  exact ⟨.ref D, H', I'.turned (t' := s'.toks) (fun b o hb e => (sb.2 b hb).trans e) f0 f1 f3 f4 f5, rfl, q⟩
end
end
end Z
end
section
/-! ZHb: isinstance of a caught refusal that has its own dict. -/
namespace PySem.W
open PySem PySem.Spec PySem.Calls PyProof.Rows
section
variable {prog : Program} {w : World} {A : Around} {E : Value → Shared → Prop} {s : Shared} {K : Frag} {x D : Addr} {ox : Obj}
theorem findObj_dataG {od : Option Obj} {C : Addr} {name : Str} {a g : Value} (hc : (clsIn K C).isSome = true) (ha : findIn K (.ref C) name = some (some a)) (hg : specialIn K a "__get__" = some (some g)) (ht : takesIn K a = some true) : findObj K C od name = some (.bind g a) := by
  obtain ⟨cd, hc⟩ := Option.isSome_iff_exists.mp hc
  unfold findObj
  rw [hc, Option.bind_some, ha, Option.bind_some]
  simp [hg, ht]
theorem kin_classG {od : Option Obj} {Q : Option Value → Shared → Prop} (hga : findIn K (.ref D) "__getattribute__" = some (some (.builtin "BaseException.__getattribute__"))) (hgt : findIn K (.ref D) "__getattr__" = some none) (hsub : subIn K (.ref D) (.type "BaseException") = some true)
    (hdct : hasDictIn K D = true) (ha : findIn K (.ref D) "__class__" = some (some (.builtin "object.__class__")))
    (hn : specialIn K (.builtin "object.__class__") "__get__" = some (some (.builtin "getset_descriptor.__get__"))) (htk : takesIn K (.builtin "object.__class__") = some true) (hm : mroIn K D (.type "object") = some true)
    (X : K.In s.heap) (I : InstAt s.heap x ox D od) (h : Q (some (.ref D)) { s with toks := s.toks + 1 }) : wpAny (model prog w) A (getAttr? (.ref x) "__class__") Q E s := by
  have hf : findObj K D od "__class__" = some (.bind (.builtin "getset_descriptor.__get__") (.builtin "object.__class__")) := findObj_dataG (by obtain ⟨cd, hc, _⟩ := any_some hdct; rw [hc]; rfl) ha hn htk
  obtain ⟨hp, g, d, t, os⟩ := s
  have L0 := I.type (M := model prog w)
  have L1 := looks_findIn (M := model prog w) X hga
  have L2 := looks_findIn (M := model prog w) X hgt
  have L3 := looks_find (M := model prog w) X I hf
  have sub : Looks (model prog w) hp (isInstance (.ref x) (.type "BaseException")) true := L0.andThen (looks_subIn X hsub)
  have hx0 : (false && onTheHeap (Value.builtin "BaseException.__getattribute__")) = false := rfl
  have hx2 : (Value.builtin "BaseException.__getattribute__" == Value.builtin "object.__getattribute__") = false := by decide +kernel
  have hx1 : (onTheHeap (Value.ref D) && Value.builtin "BaseException.__getattribute__" == Value.builtin "object.__getattribute__") = false := by rw [hx2]; rfl
  unfold getAttr? getAttrBy? getAttrBy
  refine wpAny_bind (wpAny_mkText (wpAny_bind (wpAny_attempt (wpAny_holding (wpAny_bind (L0.at (wpAny_bind (L1.at ?_))))))))
  show wpAny _ _ (if (onTheHeap (Value.ref D) && Value.builtin "BaseException.__getattribute__" == Value.builtin "object.__getattribute__") = true then _ else _) _ _ _
  rw [hx1, if_neg Bool.false_ne_true]
  unfold getAttrByItsOwn hookBefore
  refine wpAny_bind ?_
  rw [if_pos (show onTheHeap (Value.ref D) = true from rfl)]
  refine L2.at ?_
  refine wpAny_bind (wpAny_attempt (wpAny_holding ?_))
  unfold callGetattribute
  rw [hx0, if_neg Bool.false_ne_true]
  unfold boundAndCalled
  rw [PySem.F.excAttr_ValueError.ga.bind (.ref x)]
  refine wpAny_bind (wpAny_pure ?_)
  show wpAny _ _ (call (.builtin "BaseException.__getattribute__") [.ref x, .str "__class__" t]) _ _ _
  refine wpAny_call (codeAny_call_builtin PySem.F.excAttr_ValueError.ga.plain PySem.F.entry_bexc_ga ?_)
  refine @check_slot (model prog w) _ _ ⟨hp, g, d, t + 1, os⟩ "BaseException.__getattribute__" "BaseException" "__getattribute__" (.ref x) [.str "__class__" t] [] _ (by decide +kernel) (by decide +kernel) sub (PySem.F.args_bexc_ga (.ref x) (.str "__class__" t)) ?_
  unfold Builtin.«object.__getattribute__»
  refine wpAny_bind (wpAny_of_eq (a := ((Value.ref x : Value), [Value.str "__class__" t])) (by first | rfl | (simp only [slotArgs]; rfl)) ?_)
  refine wpAny_bind (wpAny_pure (wpAny_bind (L0.at (wpAny_bind (L3.at ?_)))))
  show wpAny _ _ (holding [Value.builtin "object.__class__"] (call (.builtin "getset_descriptor.__get__") [.builtin "object.__class__", .ref x, .ref D]) >>= ret) _ _ _
  refine wpAny_bind (wpAny_holding (wpAny_call (class_get (s := ⟨hp, g, d, t + 1, os⟩) (ox := ox) (od := od) X I hm ?_)))
  refine wpAny_pure ?_
  show wpAny _ _ (handedOut (.ref D)) _ _ _
  rw [handedOut_of (v := .ref D) rfl]
  first
    | exact wpAny_pure (wpAny_pure h)
    | exact wpAny_pure h
    | exact wpAny_pure (wpAny_bind (wpAny_pure (wpAny_pure h)))
theorem kitx_excG (hga : findIn K (.ref D) "__getattribute__" = some (some (.builtin "BaseException.__getattribute__"))) (hgt : findIn K (.ref D) "__getattr__" = some none) (hsub : subIn K (.ref D) (.type "BaseException") = some true) (hdct : hasDictIn K D = true) (ha : findIn K (.ref D) "__class__" = some (some (.builtin "object.__class__")))
    (hn : specialIn K (.builtin "object.__class__") "__get__" = some (some (.builtin "getset_descriptor.__get__"))) (htk : takesIn K (.builtin "object.__class__") = some true) (hm : mroIn K D (.type "object") = some true) :
    KitX K (.ref x) (.ref D) (fun h => ∃ od, InstAt h x ox D od) where
  ty := fun _ _ _ ⟨od, I⟩ => I.type
  it := fun _ _ X _ => by
    obtain ⟨cdD, hcD, _⟩ := any_some hdct
    unfold clsIn at hcD
    split at hcD
    · rename_i c' d' cd' sl' ho
      intro A' Q' E' s' k q
      unfold isType loadHead
      exact wpAny_bind (wpAny_loadPart (k _ _ (X _ _ ho)) (wpAny_pure q))
    · cases hcD
  ne := fun h tp dd its n sl X htp => by
    obtain ⟨cdD, hcD, _⟩ := any_some hdct
    refine Bool.eq_false_iff.mpr fun q => ?_
    have e : D = tp := Value.ref.inj (beq_iff_eq.mp q)
    subst e
    unfold clsIn at hcD
    split at hcD
    · rename_i c' d' cd' sl' ho
      have z := (X _ _ ho).symm.trans htp
      cases z
    · cases hcD
  ca := fun X ⟨od, I⟩ k => kin_classG hga hgt hsub hdct ha hn htk hm X I k
end
end PySem.W
namespace Z
open PySem PySem.Spec PyProof.Rows L2
/-- isinstance(e, c), e the caught refusal: d its dict -/
def rIsG (K : PySem.W.Frag) (D a d : Addr) : List V → Hp → VK → Prop := fun xs H Q => ∃ (c : V) (cv : Value) (b : Bool) (fs : List (Str × V)), xs = [.ref a, c] ∧ (∀ u, RelV c u → u = cv) ∧ PySem.W.kitOne K (.ref D) cv = some b ∧ H d = some (.xd fs) ∧ Q (.bl b) H
theorem call_isG {X : Cx} {a D d : Addr} {oe : Obj} {pn : List (Addr × Obj)} (C : ExcC X.K D) (hz : Zc (.ref D) (some d) oe) (hf : ∃ vs, oe.data = .fields vs) : CallR (X.suite a ((a, oe) :: pn)) (.builtin "isinstance") (rIsG X.K D a d) := by
  intro pins s σ H xs us Q I r h
  obtain ⟨c, cv, b, fs, rfl, hcv, e, hd, q⟩ := h
  cases r with
  | cons rx rr =>
    cases rr with
    | cons rt rr =>
      cases rr
      cases rx
      have ec := hcv _ rt
      subst ec
      obtain ⟨hget, _⟩ := I.pin (a, oe) (List.mem_append.mpr (.inl List.mem_cons_self))
      obtain ⟨vs, hv⟩ := hf
      have hx : ObjOk X.prog X.w H s.heap d (.xd fs) := I.hok d _ hd
      obtain ⟨mA, hns, hr⟩ := hx
      obtain ⟨od, ho, hl⟩ := lookIn_ns hns
      have J : ∃ od, PySem.W.InstAt s.heap a oe D od := ⟨some od, hget, hz.1, by unfold PySem.W.notCls; rw [hv] <;> rfl, by rw [hz.2]; exact ho⟩
      exact PySem.W.kia_one (PySem.W.kitx_excG C.hg C.hk C.hs C.hd C.ha C.hn C.ht C.hm) I.kIn J e (fun z => nomatch z) fun tk => ⟨.bl b, H, I.kept (t' := tk) fun _ _ z => z, rfl, q⟩
end Z
end
section
/-! ZHc: the suite that names a caught refusal. -/
namespace Z
open PySem PySem.Spec PyProof.Rows L2
/-! ### its shape: e the refusal's name, s the list's -/
inductive Row (e : Str) : Expr → Str → Str → Prop
  | mk (n c : Str) (j k : Nat) (p1 p2 p3 p4 p5 p6 : Pos) : Row e (.Tuple [.Constant (.str n) j p1, .Call (.Name "isinstance" p2) [.Name e p3, .Name c p4] [] p5] k p6) n c
inductive RowsX (e : Str) : List Expr → List (Str × Str) → Prop
  | nil : RowsX e [] []
  | cons {x : Expr} {xs : List Expr} {n c : Str} {rs : List (Str × Str)} : Row e x n c → RowsX e xs rs → RowsX e (x :: xs) ((n, c) :: rs)
inductive Step (e s : Str) : Stmt → List (Str × Str) → Prop
  | app {x : Expr} {n c : Str} (q ap cp p : Pos) : Row e x n c → (ap.endLine == cp.line) = true → Step e s (.Expr (.Call (.Attribute (.Name s q) "append" ap) [x] [] cp) p) [(n, c)]
  | ext {xs : List Expr} {rs : List (Str × Str)} (q ap cp p p1 : Pos) : RowsX e xs rs → (ap.endLine == cp.line) = true → Step e s (.Expr (.Call (.Attribute (.Name s q) "extend" ap) [.List xs p1] [] cp) p) rs
/-- the end: the names that fit, joined; what the refusal keeps -/
def finS (e s nm b : Str) (scope : Scope) (j k1 k2 : Nat) (ap cp q1 q2 q3 q4 q5 q6 q7 q8 q9 q10 q11 q12 : Pos) : Stmt :=
  .Return (some (.Tuple [.Call (.Attribute (.Constant (.str " ") j q1) "join" ap) [.ListComp (.Name nm q2) [⟨.Tuple [.Name nm q3, .Name b q4] k1 q5, .Name s q6, [.Name b q7], 0⟩] scope q8] [] cp, .Attribute (.Name e q9) "what" q10] k2 q11)) q12
inductive Steps (e s : Str) (N : List Str) (sc : Scope) : List Stmt → List (Str × Str) → Prop
  | fin {nm b : Str} {scope : Scope} {i1 i2 : Nat} (j k1 k2 : Nat) (ap cp q1 q2 q3 q4 q5 q6 q7 q8 q9 q10 q11 q12 : Pos) : (ap.endLine == cp.line) = true → blkC N sc scope [(nm, i1), (b, i2)] = true → i1 ≠ i2 →
      scope.names.lookup nm = some .local → scope.names.lookup b = some .local → (nm == ("__debug__" : Str)) = false → (nm == ("__classdict__" : Str)) = false → (b == ("__debug__" : Str)) = false → (b == ("__classdict__" : Str)) = false → Steps e s N sc [finS e s nm b scope j k1 k2 ap cp q1 q2 q3 q4 q5 q6 q7 q8 q9 q10 q11 q12] []
  | cons {st : Stmt} {rest : List Stmt} {rs rs' : List (Str × Str)} : Step e s st rs → Steps e s N sc rest rs' → Steps e s N sc (st :: rest) (rs ++ rs')

section
variable {g : Gl0} {X : Cx} {a d : Addr} {oe : Obj} {pn : List (Addr × Obj)} {k ie is : Nat} {e s : Str} {cn : Str → Option Nat} {sub : Nat → Nat → Bool} {S : Sto} {ρ : List Addr} {H0 : Hp}
/-- what is known of the suite -/
structure SuOk (g : Gl0) (X : Cx) (a d : Addr) (oe : Obj) (k ie is : Nat) (e s : Str) (cn : Str → Option Nat) (sub : Nat → Nat → Bool) : Prop where
  hK : X.K = g.K
  hz : L2N.Zn (.ref (g.L.ca k)) (some d) oe
  hf : ∃ vs, oe.data = .fields vs
  cE : ExcC X.K (g.L.ca k)
  xE : XfC X.K (g.L.ca k)
  hno : PySem.W.findIn X.K (.ref (g.L.ca k)) "what" = some none
  nd : X.N.Nodup
  ne : X.N[ie]? = some e
  ns : X.N[is]? = some s
  le : X.env.scope.names.lookup e = some .local
  ls : X.env.scope.names.lookup s = some .local
  hne : ie ≠ is
  de : (e == ("__debug__" : Str)) = false ∧ (e == ("__classdict__" : Str)) = false
  ds : (s == ("__debug__" : Str)) = false ∧ (s == ("__classdict__" : Str)) = false
  gi : Gl X "isinstance"
  mi : X.mg "isinstance" = none
  cls : ∀ c j, cn c = some j → Gl X c ∧ X.mg c = some (.ref (g.L.ca j)) ∧ (c == ("__debug__" : Str)) = false ∧ PySem.W.kitOne X.K (.ref (g.L.ca k)) (.ref (g.L.ca j)) = some (sub k j)
/-- a row, told -/
def told (cn : Str → Option Nat) (sub : Nat → Nat → Bool) (k : Nat) (r : Str × Str) : Str × Bool := (r.1, match cn r.2 with | some j => sub k j | none => false)
def rowD (r : Str × Bool) : D := .tup [.str r.1, .bl r.2]
def tRow (ie : Nat) (a d : Addr) (r : Str × Bool) : TE := fun σ H Q => σ[ie]? = some (some (.ref a)) ∧ (∃ fs, H d = some (.xd fs)) ∧ ∀ p, H p = none → Q (.ref p) (upd H p (.tup [.str r.1, .bl r.2]))
def tRows (ie : Nat) (a d : Addr) : List (Str × Bool) → TA
  | [] => tNil
  | r :: rs => tCons (tRow ie a d r) (tRows ie a d rs)
theorem row_pe (O : SuOk g X a d oe k ie is e s cn sub) {x : Expr} {n c : Str} (r : Row e x n c) (hc : (cn c).isSome = true) : PE (X.suite a ((a, oe) :: pn)) x (tRow ie a d (told cn sub k (n, c))) := by
  cases r with
  | mk _ _ j k p1 p2 p3 p4 p5 p6 =>
    obtain ⟨jc, ec⟩ := Option.isSome_iff_exists.mp hc
    obtain ⟨h1, h2, h3, h4⟩ := O.cls c jc ec
    have v1 : PE (X.suite a ((a, oe) :: pn)) (.Name e p3) (tVar ie) := pe_var O.ne (.inl O.le) O.de.1 O.de.2
    have v2 : PE (X.suite a ((a, oe) :: pn)) (.Name c p4) (tC (.ref (g.L.ca jc))) := pe_glob h1 h2 rfl h3
    have v3 := pe_callB (X := X.suite a ((a, oe) :: pn)) (pos := p5) (p := p2) (call_isG O.cE ⟨O.hz.1, O.hz.2.1⟩ O.hf) O.gi O.mi boot_isinstance (pa_cons v1 (pa_cons v2 pa_nil (by rfl)) (by rfl)) (by decide) (by decide) (by rfl) (by rfl)
    refine (pe_tup (pa_cons pe_str (pa_cons v3 pa_nil (by rfl)) (by rfl))).imp fun σ H Q ⟨q1, ⟨fs, q2⟩, q3⟩ => ?_
    refine ⟨.ref a, q1, .ref (g.L.ca jc), .ref (g.L.ca jc), sub _ jc, fs, rfl, fun u hu => hu, h4, q2, by show 2 ≤ sizeLine; decide, fun p hp => ?_⟩
    have z := q3 p hp
    simp only [told, ec] at z
    exact z
theorem rows_pa (O : SuOk g X a d oe k ie is e s cn sub) {xs : List Expr} {rs : List (Str × Str)} (r : RowsX e xs rs) (hc : ∀ q ∈ rs, (cn q.2).isSome = true) : PA (X.suite a ((a, oe) :: pn)) xs (tRows ie a d (rs.map (told cn sub k))) := by
  induction r with
  | nil => exact pa_nil
  | cons h t ih =>
    refine pa_cons (row_pe O h (hc _ List.mem_cons_self)) (ih fun q hq => hc q (List.mem_cons_of_mem _ hq)) ?_
    cases h
    rfl
/-- what stands while the rows are laid -/
structure SuI (g : Gl0) (S : Sto) (ρ : List Addr) (H0 : Hp) (ie : Nat) (a d : Addr) (w : D) (σ : L2.St) (H : Hp) : Prop where
  e : σ[ie]? = some (some (.ref a))
  x : Ex ρ H0 ρ H
  r : Rel g.K g.T S ρ H
  d : ∃ v, H d = some (.xd [(("what" : Str), v)]) ∧ DV g.K ρ H v w
theorem SuI.new {w : D} {σ : L2.St} {H : Hp} {p : Addr} {o : HO} (I : SuI g S ρ H0 ie a d w σ H) (hp : H p = none) : SuI g S ρ H0 ie a d w σ (upd H p o) := by
  obtain ⟨v, h1, h2⟩ := I.d
  exact ⟨I.e, I.x.trans (Ex.new hp), I.r.new hp, v, by rw [upd_ne (ne_of_none h1 hp)]; exact h1, h2.ex I.r (Ex.new hp)⟩
theorem SuI.aside {w : D} {σ : L2.St} {H : Hp} {L : Addr} {xs ys : List V} (I : SuI g S ρ H0 ie a d w σ H) (hL : H L = some (.lst xs)) (hn : L ∉ ρ) (h0 : H0 L = none) : SuI g S ρ H0 ie a d w σ (upd H L (.lst ys)) := by
  obtain ⟨v, h1, h2⟩ := I.d
  refine ⟨I.e, ⟨⟨[], by simp⟩, fun b o hb nt nb => ⟨nb, ?_⟩⟩, I.r.aside hL hn, v, by rw [upd_ne (ne_of h1 hL (by intro z; cases z))]; exact h1, dv_aside hL h2⟩
  rw [upd_ne (ne_of_none hb h0)]
  exact (I.x.fr b o hb nt nb).2
theorem rows_read {w : D} : ∀ {rs : List (Str × Bool)} {σ : L2.St} {H : Hp} {Q : List V → Hp → Prop}, SuI g S ρ H0 ie a d w σ H → (∀ vs H', SuI g S ρ H0 ie a d w σ H' → (∀ b o, H b = some o → H' b = some o) → DVs g.K ρ H' vs (rs.map rowD) → Q vs H') → tRows ie a d rs σ H Q
  | [], σ, H, Q, I, h => h [] H I (fun _ _ z => z) .nil
  | r :: rs, σ, H, Q, I, h => by
    obtain ⟨v, hd, _⟩ := I.d
    refine ⟨I.e, ⟨_, hd⟩, fun p hp => rows_read (I.new hp) fun vs H' I' k hvs => h _ H' I' (fun b o z => k b o (by rw [upd_ne (ne_of_none z hp)]; exact z)) (.cons ?_ hvs)⟩
    exact .tup (SqT.of (k p _ upd_same)) (.cons (.str _) (.cons (.bl _) .nil))
/-- .. and the list -/
structure SuL (g : Gl0) (S : Sto) (ρ : List Addr) (H0 : Hp) (ie is : Nat) (a d : Addr) (w : D) (σ : L2.St) (H : Hp) (rs : List (Str × Bool)) : Prop where
  i : SuI g S ρ H0 ie a d w σ H
  s : ∃ L xs, σ[is]? = some (some (.ref L)) ∧ H L = some (.lst xs) ∧ H0 L = none ∧ L ∉ ρ ∧ DVs g.K ρ H xs (rs.map rowD) ∧ rs.length ≤ 1000
theorem first_ps (O : SuOk g X a d oe k ie is e s cn sub) {xs : List Expr} {rs : List (Str × Str)} {q1 q2 q3 : Pos} (r : RowsX e xs rs) (hc : ∀ q ∈ rs, (cn q.2).isSome = true) (hz : rs.length ≤ 1000) :
    ∃ t, PS (X.suite a ((a, oe) :: pn)) (.Assign [.Name s q1] (.List xs q2) q3) t ∧ ∀ (S : Sto) (ρ : List Addr) (H0 : Hp) (D : Ends) σ H w, is < σ.length → SuI g S ρ H0 ie a d w σ H → (∀ b o, H0 b = some o → H b = some o) → (∀ σ' H', σ'.length = σ.length → SuL g S ρ H0 ie is a d w σ' H' (rs.map (told cn sub k)) → D.nx σ' H') → t D σ H := by
  refine ⟨_, ps_asg (pe_lst (rows_pa O r hc)) (pg_name O.nd O.ns (.inl O.ls) (.inr O.ls)) (by rfl) (by rfl) (by rfl), fun S ρ H0 D σ H w hl I k0 h => ?_⟩
  refine rows_read I fun vs H' I' kk hvs => ⟨?_, fun p hp => h _ _ (List.length_set ..) ⟨?_, p, vs, List.getElem?_set_self hl, upd_same, ?_, I'.r.notin0 hp, hvs.ex I'.r (Ex.new hp), by rw [List.length_map]; exact hz⟩⟩
  · have e1 := hvs.length
    rw [List.length_map, List.length_map] at e1
    rw [e1, sizeLine_eq]
    omega
  · have J := I'.new (o := .lst vs) hp
    exact ⟨by rw [List.getElem?_set_ne (Ne.symm O.hne)]; exact J.e, J.x, J.r, J.d⟩
  · cases q : H0 p with
    | none => rfl
    | some o =>
      have z := kk p o (k0 p o q)
      rw [hp] at z
      cases z
theorem step_ps (O : SuOk g X a d oe k ie is e s cn sub) {st : Stmt} {rs : List (Str × Str)} (r : Step e s st rs) (hc : ∀ q ∈ rs, (cn q.2).isSome = true) :
    ∃ t, PS (X.suite a ((a, oe) :: pn)) st t ∧ ∀ (S : Sto) (ρ : List Addr) (H0 : Hp) (D : Ends) σ H w rs0, (rs0.length + rs.length ≤ 1000) → SuL g S ρ H0 ie is a d w σ H rs0 → (∀ H', SuL g S ρ H0 ie is a d w σ H' (rs0 ++ rs.map (told cn sub k)) → D.nx σ H') → t D σ H := by
  have vs1 : ∀ q, PE (X.suite a ((a, oe) :: pn)) (.Name s q) (tVar is) := fun q => pe_var O.ns (.inl O.ls) O.ds.1 O.ds.2
  cases r with
  | app q ap cp p hr hl =>
    rename_i x n c
    have hst : starEach [x] (X.suite a ((a, oe) :: pn)).env = (false, eval x (X.suite a ((a, oe) :: pn)).env) :: starEach [] (X.suite a ((a, oe) :: pn)).env := by cases hr; rfl
    refine ⟨_, ps_expr (pe_bm PySem.F.plainAttrs_list PySem.F.slot_list_append PySem.F.type_list_append mt_append (vs1 q) (pa_cons (row_pe O hr (hc _ List.mem_cons_self)) pa_nil hst) (by rfl) (by rw [hst]; rfl) hl hst (by rfl)) (by rfl), fun S ρ H0 D σ H w rs0 hz I h => ?_⟩
    obtain ⟨L, xs, e1, e2, e3, e4, e5, e6⟩ := I.s
    obtain ⟨v, hd, _⟩ := I.i.d
    refine ⟨.ref L, e1, .inl ⟨rfl, xs, SqL.of e2⟩, I.i.e, ⟨_, hd⟩, fun p hp => ?_⟩
    have I1 := I.i.new (o := .tup [.str (told cn sub k (n, c)).1, .bl (told cn sub k (n, c)).2]) hp
    have e7 : upd H p (.tup [.str (told cn sub k (n, c)).1, .bl (told cn sub k (n, c)).2]) L = some (.lst xs) := by rw [upd_ne (ne_of_none e2 hp)]; exact e2
    have el : xs.length = rs0.length := by rw [e5.length, List.length_map]
    refine ⟨L, xs, .ref p, rfl, rfl, e7, by rw [el, sizeLine_eq]; simp at hz; omega, h _ ⟨I1.aside e7 e4 e3, L, _, e1, upd_same, e3, e4, ?_, by rw [List.length_append, List.length_map]; exact hz⟩⟩
    rw [List.map_append]
    refine (dvs_aside e7 (e5.ex I.i.r (Ex.new hp))).app (.one ?_)
    refine .tup (SqT.of ?_) (.cons (.str _) (.cons (.bl _) .nil))
    rw [upd_ne]
    · exact upd_same
    · rintro z
      rw [← z] at e2
      rw [hp] at e2
      cases e2
  | ext q ap cp p p1 hr hl =>
    rename_i xs
    refine ⟨_, ps_expr (pe_bm PySem.F.plainAttrs_list PySem.F.slot_list_extend PySem.F.type_list_extend mt_extend (vs1 q) (pa_cons (pe_lst (rows_pa O hr hc)) pa_nil (by rfl)) (by rfl) (by rfl) hl (by rfl) (by rfl)) (by rfl), fun S ρ H0 D σ H w rs0 hz I h => ?_⟩
    obtain ⟨L, ys, e1, e2, e3, e4, e5, e6⟩ := I.s
    refine ⟨.ref L, e1, .inl ⟨rfl, ys, SqL.of e2⟩, ?_⟩
    refine rows_read I.i fun vs H' I' kk hvs => ⟨?_, fun b hb => ?_⟩
    · have z := hvs.length
      rw [List.length_map, List.length_map] at z
      rw [z, sizeLine_eq]
      omega
    have e2' := kk L _ e2
    have I1 := I'.new (o := .lst vs) hb
    have e7 : upd H' b (.lst vs) L = some (.lst ys) := by rw [upd_ne (ne_of_none e2' hb)]; exact e2'
    have el : ys.length = rs0.length := by rw [e5.length, List.length_map]
    have ev : vs.length = rs.length := by rw [hvs.length, List.length_map, List.length_map]
    refine ⟨L, b, ys, vs, rfl, rfl, e7, upd_same, by rw [el, ev, sizeLine_eq]; omega, h _ ⟨I1.aside e7 e4 e3, L, _, e1, upd_same, e3, e4, ?_, by rw [List.length_append, List.length_map]; exact hz⟩⟩
    rw [List.map_append]
    exact dvs_aside e7 (((e5.ex I.i.r ⟨⟨[], by simp⟩, fun b o h _ n => ⟨n, kk b o h⟩⟩).ex I'.r (Ex.new hb)).app (hvs.ex I'.r (Ex.new hb)))
/-- the names that fit -/
def hits (rs : List (Str × Bool)) : List Str := (rs.filter (·.2)).map (·.1)
theorem hits_size : ∀ rs : List (Str × Bool), ((hits rs).map (·.length)).sum + (hits rs).length * 1 ≤ (rs.map (·.1.length)).sum + rs.length
  | [] => Nat.le_refl _
  | (n, b) :: rs => by
    have ih := hits_size rs
    cases b with
    | true =>
      show ((n :: hits rs).map (·.length)).sum + (n :: hits rs).length * 1 ≤ (((n, true) :: rs).map (·.1.length)).sum + ((n, true) :: rs).length
      simp only [List.map_cons, List.sum_cons, List.length_cons] at *
      omega
    | false =>
      show ((hits rs).map (·.length)).sum + (hits rs).length * 1 ≤ (((n, false) :: rs).map (·.1.length)).sum + ((n, false) :: rs).length
      simp only [List.map_cons, List.sum_cons, List.length_cons] at *
      omega
theorem lc_hits (f : D → M (Option D)) (hf : ∀ r S, f (rowD r) S = .ok (if r.2 = true then some (.str r.1) else none) S) : ∀ (rs all : List (Str × Bool)) (i : Nat) (l : Nat) (S : Sto), S[l]? = some (.lst (all.map rowD)) → all.drop i = rs →
    lcL (.at l all.length) f i rs.length S = .ok ((hits rs).map .str) S
  | [], all, i, l, S, hs, hd => by
    have e : getL l S = .ok (all.map rowD) S := by unfold getL; rw [hs]
    show bd (W.fin (.at l all.length)) (fun _ => ret []) S = _
    unfold W.fin
    simp only [bd, e, List.length_map, if_pos, ret]
    rfl
  | (n, b) :: rs, all, i, l, S, hs, hd => by
    have hx : all[i]? = some (n, b) := by
      have e := congrArg List.head? hd
      rw [List.head?_drop] at e
      exact e
    have hr : all.drop (i + 1) = rs := by
      have e := congrArg List.tail hd
      rw [List.tail_drop] at e
      exact e
    have e : getL l S = .ok (all.map rowD) S := by unfold getL; rw [hs]
    have eg : W.get (.at l all.length) i S = .ok (rowD (n, b)) S := by
      unfold W.get
      simp only [bd, e, List.length_map, if_pos, List.getElem?_map, hx, Option.map_some, ret]
    have ih := lc_hits f hf rs all (i + 1) l S hs hr
    show bd (W.get (.at l all.length) i) _ S = _
    cases b with
    | true =>
      have eh : hits ((n, true) :: rs) = n :: hits rs := rfl
      rw [eh]
      simp only [bd, eg, hf, if_pos, ret, ih]
      rfl
    | false =>
      have eh : hits ((n, false) :: rs) = hits rs := rfl
      rw [eh]
      simp only [bd, eg, hf, if_neg Bool.false_ne_true, ret, ih]
end
end Z
end
section
/-! ZHd: the suite's end. -/
namespace Z
open PySem PySem.Spec PyProof.Rows L2
section
variable {K : PySem.W.Frag} {T : List (Addr × Str)} {ρ more : List Addr} {H H' : Hp} {S S2 : Sto}
mutual
theorem dv_down : ∀ {v u : V} {d : D}, DV K ρ H v d → DV K (ρ ++ more) H' u d → DV K ρ H' u d
  | _, _, _, .non, .non => .non
  | _, _, _, .bl _, .bl b => .bl b
  | _, _, _, .int _, .int i => .int i
  | _, _, _, .str _, .str x => .str x
  | _, _, _, .tup _ t, .tup h u => .tup h (dvs_down t u)
  | _, _, _, .ro _ t, .ro h u => .ro h (dvs_down t u)
  | _, _, _, .loc e, .loc h => .loc (by rw [List.getElem?_append_left (List.getElem?_eq_some_iff.mp e).1] at h; exact h)
theorem dvs_down : ∀ {vs us : List V} {ds : List D}, DVs K ρ H vs ds → DVs K (ρ ++ more) H' us ds → DVs K ρ H' us ds
  | _, _, _, .nil, .nil => .nil
  | _, _, _, .cons h t, .cons h' t' => .cons (dv_down h h') (dvs_down t t')
end
theorem Rel.down (r : Rel K T S ρ H) (r' : Rel K T (S ++ S2) (ρ ++ more) H') : Rel K T S ρ H' := by
  refine ⟨r.len, r.inj, fun l o h => ?_, r'.tab⟩
  have hl : l < S.length := (List.getElem?_eq_some_iff.mp h).1
  obtain ⟨a, e, x⟩ := r.obj l o h
  obtain ⟨a', e', x'⟩ := r'.obj l o (by rw [List.getElem?_append_left hl]; exact h)
  rw [List.getElem?_append_left (by rw [r.len]; exact hl)] at e'
  rw [e] at e'
  cases e'
  refine ⟨a, e, ?_⟩
  cases o with
  | lst ds =>
    obtain ⟨z, xs, h1, h2⟩ := x
    obtain ⟨z', xs', h1', h2'⟩ := x'
    exact ⟨z', xs', h1', dvs_down h2 h2'⟩
end
section
variable {g : Gl0} {X : Cx} {a d : Addr} {oe : Obj} {pn : List (Addr × Obj)} {k ie is : Nat} {e s : Str} {cn : Str → Option Nat} {sub : Nat → Nat → Bool} {S : Sto} {ρ : List Addr} {H0 : Hp} {E : XK} {tg iter elt : Expr} {pos : Pos} {fa : Env → M D} {fw : Env → M W}
theorem _root_.L2H.PIH.imp {X : Cx} {tg it : Expr} {w w' : TI} (h : L2H.PIH X tg it w) (i : ∀ σ H R, w' σ H R → w σ H R) : L2H.PIH X tg it w' := ⟨fun pins s σ H R I q => h.run pins s σ H R I (i σ H R q)⟩
def walkLoc : D → M W
  | .loc a => bd (getL a) fun l => ret (.at a l.length)
  | _ => stuck
theorem di_locH (hK : X.K = g.K) (ha : PE X iter (tD g E fa)) : L2H.PIH X tg iter (tI g E fun env => bd (fa env) walkLoc) :=
  (pi_listH ha).imp fun σ H R ⟨S, ρ, env, hr, he, h⟩ => by
    refine ⟨S, ρ, env, hr, he, h.bd.imp fun d S1 ρ1 H1 x r1 q v hv => ?_⟩
    rw [hK]
    cases hv with
    | loc hl =>
      obtain ⟨xs, ds, e1, t, z, _, q⟩ := fin_getL r1 hl q
      exact ⟨_, rfl, ⟨_, SqL.of e1⟩, Fin.ret r1 q _ (serves_loc hl)⟩
    | _ => exact q.elim
theorem hot_suite (hz : L2N.Zn (.ref (g.L.ca k)) (some d) oe) (hf : ∃ vs, oe.data = .fields vs) : L2H.HotC (X.suite a ((a, oe) :: pn)) := by
  obtain ⟨vs, hv⟩ := hf
  exact ⟨(a, oe), ⟨rfl, vs, hv, hz.2.2 vs hv⟩, List.mem_cons_self⟩
def vr (i : Nat) : Env → M D := fun env => match env[i]? with | some (some d) => ret d | _ => stuck
def pickB (i1 i2 : Nat) : Env → M (Option D) := fun env => bd (bd (vr i2 env) truth) fun c => if c = true then bd (vr i1 env) fun y => ret (some y) else ret none
theorem vr_is {i : Nat} {env : Env} {d : D} (h : env[i]? = some (some d)) : vr i env = ret d := by unfold vr; rw [h]
theorem pick_row {i1 i2 : Nat} {env : Env} (h12 : i1 ≠ i2) (h1 : i1 < env.length) (h2 : i2 < env.length) (r : Str × Bool) (S : Sto) : bd (bindT (.tp [i1, i2]) (rowD r) env) (pickB i1 i2) S = .ok (if r.2 = true then some (.str r.1) else none) S := by
  obtain ⟨n, c⟩ := r
  have g2 : ((env.set i1 (some (.str n))).set i2 (some (.bl c)))[i2]? = some (some (.bl c)) := List.getElem?_set_self (by rw [List.length_set]; exact h2)
  have g1 : ((env.set i1 (some (D.str n))).set i2 (some (.bl c)))[i1]? = some (some (.str n)) := by rw [List.getElem?_set_ne (Ne.symm h12)]; exact List.getElem?_set_self h1
  show pickB i1 i2 ((env.set i1 (some (.str n))).set i2 (some (.bl c))) S = _
  unfold pickB
  rw [vr_is g1, vr_is g2]
  cases c <;> rfl
theorem pick_all {i1 i2 is l : Nat} {env : Env} {rs : List (Str × Bool)} {S : Sto} (h12 : i1 ≠ i2) (h1 : i1 < env.length) (h2 : i2 < env.length) (he : env[is]? = some (some (.loc l))) (hS : S[l]? = some (.lst (rs.map rowD))) :
    (bd (bd (vr is env) walkLoc) fun w => bd (calm (lcL w (fun d => bd (bindT (.tp [i1, i2]) d (wipeE env [i1, i2])) (pickB i1 i2)) 0 w.len)) fun l => new l) S = new ((hits rs).map .str) S := by
  have el := lc_hits (fun d => bd (bindT (.tp [i1, i2]) d (wipeE env [i1, i2])) (pickB i1 i2)) (fun r S => pick_row h12 (by rw [wipeE_len]; exact h1) (by rw [wipeE_len]; exact h2) r S) rs rs 0 l S hS rfl
  have eg : getL l S = .ok (rs.map rowD) S := by unfold getL; rw [hS]
  have e0 : bd (vr is env) walkLoc S = .ok (.at l rs.length) S := by
    rw [vr_is he]
    show bd (getL l) (fun x => ret (W.at l x.length)) S = _
    simp only [bd, eg, List.length_map, ret]
  have e1 : calm (lcL (.at l rs.length) (fun d => bd (bindT (.tp [i1, i2]) d (wipeE env [i1, i2])) (pickB i1 i2)) 0 rs.length) S = .ok ((hits rs).map .str) S := by
    unfold calm
    rw [el]
  have e2 : ∀ {α β : Type} {m : M α} {f : α → M β} {a : α} {S S1 : Sto}, m S = .ok a S1 → bd m f S = f a S1 := fun h => by unfold bd; rw [h]
  rw [e2 e0]
  exact e2 e1
theorem strs_of {K : PySem.W.Frag} {ρ : List Addr} {H : Hp} : ∀ {ys : List V} {ns : List Str}, DVs K ρ H ys (ns.map .str) → ys = ns.map V.str
  | [], [], _ => rfl
  | _, _ :: _, .cons (.str _) t => by rw [strs_of t]; rfl
  | _ :: _, [], h => by cases h
/-- the end's reading -/
theorem fin_ps (O : SuOk g X a d oe k ie is e s cn sub) {nm b : Str} {scope : Scope} {i1 i2 : Nat} {j k1 k2 : Nat} {ap cp q1 q2 q3 q4 q5 q6 q7 q8 q9 q10 q11 q12 : Pos} (hline : (ap.endLine == cp.line) = true) (hB : blkC X.N X.env.scope scope [(nm, i1), (b, i2)] = true) (h12 : i1 ≠ i2)
    (l1 : scope.names.lookup nm = some .local) (l2 : scope.names.lookup b = some .local) (n1 : (nm == ("__debug__" : Str)) = false) (n2 : (nm == ("__classdict__" : Str)) = false) (n3 : (b == ("__debug__" : Str)) = false) (n4 : (b == ("__classdict__" : Str)) = false) :
    ∃ t, PS (X.suite a ((a, oe) :: pn)) (finS e s nm b scope j k1 k2 ap cp q1 q2 q3 q4 q5 q6 q7 q8 q9 q10 q11 q12) t ∧ ∀ (S : Sto) (ρ : List Addr) (H0 : Hp) (Dn : Ends) σ H w rs, σ.length = X.N.length → SuL g S ρ H0 ie is a d w σ H rs → (rs.map (·.1.length)).sum + rs.length ≤ 16777216 →
      (∀ v H', Ex ρ H0 ρ H' → Rel g.K g.T S ρ H' → DV g.K ρ H' v (.tup [.str (PySem.Str.join (PySem.Str.ofString " ") (hits rs)), w]) → Dn.rt v H') → t Dn σ H := by
  have hot := hot_suite (X := X) (pn := pn) (a := a) O.hz O.hf
  have hi1 : X.N[i1]? = some nm := (blkOk_by hB).ix (nm, i1) (by simp)
  have hi2 : X.N[i2]? = some b := (blkOk_by hB).ix (b, i2) (by simp)
  have pv : PE (X.suite a ((a, oe) :: pn)) (.Name s q6) (tD g noE fun env => match env[is]? with | some (some d) => ret d | _ => stuck) := de_var O.ns (.inl O.ls) O.ds.1 O.ds.2
  have pb1 : ∀ (s' : Shared) (H : Hp) (C : Addr) (cl : List (Str × Addr)) (fp : List Addr), Vis (blkH (X.suite a ((a, oe) :: pn)) s' H scope (compEnvC scope cl C (X.suite a ((a, oe) :: pn)).env) fp).env.scope nm := fun s' H C cl fp => .inl (lookup_relS_keep (by decide) l1)
  have pb2 : ∀ (s' : Shared) (H : Hp) (C : Addr) (cl : List (Str × Addr)) (fp : List Addr), Vis (blkH (X.suite a ((a, oe) :: pn)) s' H scope (compEnvC scope cl C (X.suite a ((a, oe) :: pn)).env) fp).env.scope b := fun s' H C cl fp => .inl (lookup_relS_keep (by decide) l2)
  have pl := pe_lcH (X := X.suite a ((a, oe) :: pn)) (own := [(nm, i1), (b, i2)]) (pos := q8) (elt := .Name nm q2) (ifs := [.Name b q7]) (g := gD g (.tp [i1, i2])) (tt := tTst g noE fun env => bd (match env[i2]? with | some (some d) => ret d | _ => stuck) truth)
    (te := tD g noE fun env => match env[i1]? with | some (some d) => ret d | _ => stuck) hot O.nd (di_locH (tg := .Tuple [.Name nm q3, .Name b q4] k1 q5) O.hK pv) (blkOk_by hB)
    (fun s' H C cl fp => by
      have z := pg_tupH (X := blkH (X.suite a ((a, oe) :: pn)) s' H scope (compEnvC scope cl C (X.suite a ((a, oe) :: pn)).env) fp) (k := k1) (pos := q5) (n := 2) (es := [.Name nm q3, .Name b q4]) (t := gNames [i1, i2]) hot
        (pgs_cons (pg_name O.nd hi1 (.inl (lookup_relS_keep (by decide) l1)) (.inr (lookup_relS_keep (by decide) l1))) (pgs_cons (pg_name O.nd hi2 (.inl (lookup_relS_keep (by decide) l2)) (.inr (lookup_relS_keep (by decide) l2))) pgs_nil (by rfl)) (by rfl)) (by rfl) (by rfl)
      have e : (X.suite a ((a, oe) :: pn)).K = g.K := O.hK
      show PG _ _ (gTup g.K 2 (gNames [i1, i2]))
      rw [← e]
      exact z)
    (fun s' H C cl fp => pts_one (dt_val O.hK (de_var hi2 (pb2 s' H C cl fp) n3 n4) (fun _ => by rfl)))
    (fun s' H C cl fp => de_var hi1 (pb1 s' H C cl fp) n1 n2) (fun _ => by rfl)
  have pj := pe_join (X := X.suite a ((a, oe) :: pn)) (o := .Constant (.str " ") j q1) pe_str pl (by rfl) (by rfl) hline
  have pw := pe_xf (X := X) (a := a) (oe := oe) (pn := pn) (pos := q10) O.xE O.hno ⟨O.hz.1, O.hz.2.1⟩ O.hf (pe_var (X := X.suite a ((a, oe) :: pn)) (pos := q9) O.ne (.inl O.le) O.de.1 O.de.2) (by rfl)
  refine ⟨_, ps_ret (pe_tup (pa_cons pj (pa_cons pw pa_nil (by rfl)) (by rfl))), fun S ρ H0 Dn σ H w rs hlen I hsz h => ?_⟩
  refine ⟨⟨_, rfl⟩, ?_⟩
  obtain ⟨L, xs, e1, e2, e3, e4, e5, e6⟩ := I.s
  have rA := I.i.r.adopt e2 e4 e5 (by rw [List.length_map]; rw [show sizeLine = 16777216 from sizeLine_eq]; omega)
  have hi1l : i1 < X.N.length := (List.getElem?_eq_some_iff.mp hi1).1
  have hi2l : i2 < X.N.length := (List.getElem?_eq_some_iff.mp hi2).1
  have isl : is < X.N.length := (List.getElem?_eq_some_iff.mp O.ns).1
  have hE : EnvR g.K (ρ ++ [L]) H σ ((List.replicate σ.length none).set is (some (.loc S.length))) := by
    refine ⟨by simp, fun i d' q => ?_⟩
    by_cases hi : is = i
    · subst hi
      rw [List.getElem?_set_self (by rw [List.length_replicate, hlen]; exact isl)] at q
      cases q
      exact ⟨_, e1, .loc (by rw [← I.i.r.len]; simp)⟩
    · rw [List.getElem?_set_ne hi, List.getElem?_replicate] at q
      split at q <;> cases q
  refine lc_read (t := .tp [i1, i2]) bodyR_if mono_tTst mono_tD ⟨S ++ [.lst (rs.map rowD)], ρ ++ [L], (List.replicate σ.length none).set is (some (.loc S.length)), rA, hE, ?_⟩
  have ev : ((List.replicate σ.length (none : Option D)).set is (some (.loc S.length)))[is]? = some (some (.loc S.length)) := List.getElem?_set_self (by rw [List.length_replicate, hlen]; exact isl)
  have eS : (S ++ [Z.O.lst (rs.map rowD)])[S.length]? = some (.lst (rs.map rowD)) := by simp
  have ec := pick_all (i1 := i1) (i2 := i2) (is := is) h12 (by simp; rw [hlen]; exact hi1l) (by simp; rw [hlen]; exact hi2l) ev eS
  show Fin g noE (ρ ++ [L]) H ((bd (bd (vr is ((List.replicate σ.length (none : Option D)).set is (some (.loc S.length)))) walkLoc) fun w => bd (calm (lcL w (fun d => bd (bindT (.tp [i1, i2]) d (wipeE ((List.replicate σ.length (none : Option D)).set is (some (.loc S.length))) [i1, i2])) (pickB i1 i2)) 0 w.len)) fun l => new l) (S ++ [Z.O.lst (rs.map rowD)])) _
  rw [ec]
  have hhz : (hits rs).length ≤ rs.length := by
    unfold hits
    rw [List.length_map]
    exact List.length_filter_le ..
  unfold new
  rw [if_pos (by rw [List.length_map]; show _ ≤ 16777216; omega)]
  intro ρ' H' x r' v hv
  have hv' : ρ'[(S ++ [Z.O.lst (rs.map rowD)]).length]? = (match v with | .ref p => some p | _ => none) := by
    cases hv with
    | loc z => exact z
  obtain ⟨p, ys, f1, f2, f3, f4⟩ := r'.lst (l := (S ++ [Z.O.lst (rs.map rowD)]).length) (ds := (hits rs).map .str) (by rw [List.getElem?_append_right (Nat.le_refl _), Nat.sub_self]; rfl)
  have hp : v = .ref p := by
    cases hv with
    | loc z =>
      rw [f1] at z
      cases z
      rfl
  subst hp
  have eys : ys = (hits rs).map V.str := strs_of f3
  subst eys
  refine ⟨_, p, hits rs, rfl, rfl, .inl (SqL.of f2), ?_, ?_⟩
  · have := hits_size rs
    show _ + _ * 1 ≤ _
    omega
  rw [show Txt.join (PySem.Str.ofString " ") (hits rs) = PySem.Str.join (PySem.Str.ofString " ") (hits rs) from TL.join_eq _ _]
  obtain ⟨u, hd1, hd2⟩ := I.i.d
  have nd : d ∉ ρ ++ [L] := rA.notin hd1 fun _ z => nomatch z
  obtain ⟨nd', hd'⟩ := x.fr d _ hd1 (fun _ z => nomatch z) nd
  refine ⟨.ref a, I.i.e, rfl, rfl, d, _, u, rfl, hd', by rfl, ?_⟩
  refine ⟨by show 2 ≤ sizeLine; decide, fun p2 hp2 => ?_⟩
  obtain ⟨more, em⟩ := x.pre
  rw [List.append_assoc] at em
  have wD : DV g.K ρ' H' u w := (dv_up hd2 : DV g.K (ρ ++ [L]) H u w).ex rA x
  subst em
  have rD : Rel g.K g.T S ρ H' := Rel.down (S2 := [.lst (rs.map rowD)] ++ [.lst ((hits rs).map .str)]) I.i.r (by rw [← List.append_assoc]; exact r')
  have wD' := dv_down hd2 wD
  have xD : Ex ρ H0 ρ H' := by
    refine ⟨⟨[], by simp⟩, fun b o hb nt nb => ⟨nb, ?_⟩⟩
    obtain ⟨_, h2⟩ := I.i.x.fr b o hb nt nb
    refine (x.fr b o h2 nt fun hm => ?_).2
    rw [List.mem_append, List.mem_singleton] at hm
    rcases hm with z | z
    · exact nb z
    · rw [z, e3] at hb
      cases hb
  exact h _ _ (xD.trans (Ex.new hp2)) (rD.new hp2) (tup_new rD hp2 (.cons (.str _) (.one wD')))
theorem steps_ps (O : SuOk g X a d oe k ie is e s cn sub) {rest : List Stmt} {rs : List (Str × Str)} (hs : Steps e s X.N X.env.scope rest rs) (hc : ∀ q ∈ rs, (cn q.2).isSome = true) :
    ∃ t, PSs (X.suite a ((a, oe) :: pn)) rest t ∧ ∀ (S : Sto) (ρ : List Addr) (H0 : Hp) (D : Ends) σ H w acc, σ.length = X.N.length → acc.length + rs.length ≤ 1000 → ((acc ++ rs.map (told cn sub k)).map (·.1.length)).sum + (acc ++ rs.map (told cn sub k)).length ≤ 16777216 → SuL g S ρ H0 ie is a d w σ H acc →
      (∀ v H', Ex ρ H0 ρ H' → Rel g.K g.T S ρ H' → DV g.K ρ H' v (.tup [.str (PySem.Str.join (PySem.Str.ofString " ") (hits (acc ++ rs.map (told cn sub k)))), w]) → D.rt v H') → t D σ H := by
  generalize hN : X.N = N at hs
  generalize hsc : X.env.scope = sc at hs
  induction hs with
  | fin j k1 k2 ap cp q1 q2 q3 q4 q5 q6 q7 q8 q9 q10 q11 q12 hl hB h12 l1 l2 n1 n2 n3 n4 =>
    subst hN hsc
    obtain ⟨t, h1, h2⟩ := fin_ps (pn := pn) (j := j) (k1 := k1) (k2 := k2) (q1 := q1) (q2 := q2) (q3 := q3) (q4 := q4) (q5 := q5) (q6 := q6) (q7 := q7) (q8 := q8) (q9 := q9) (q10 := q10) (q11 := q11) (q12 := q12) O hl hB h12 l1 l2 n1 n2 n3 n4
    refine ⟨_, pss_cons h1 pss_nil, fun S ρ H0 D σ H w acc hlen hz hsz I h => ?_⟩
    simp only [List.map_nil, List.append_nil] at hsz h
    exact h2 S ρ H0 _ σ H w acc hlen I hsz h
  | cons st hr ih =>
    rename_i st0 rest0 rs1 rs2
    obtain ⟨t1, h1, h2⟩ := step_ps (pn := pn) O st fun q hq => hc q (List.mem_append_left _ hq)
    obtain ⟨t2, h3, h4⟩ := ih fun q hq => hc q (List.mem_append_right _ hq)
    refine ⟨_, pss_cons h1 h3, fun S ρ H0 D σ H w acc hlen hz hsz I h => ?_⟩
    rw [List.length_append] at hz
    have ea : acc ++ (rs1 ++ rs2).map (told cn sub k) = (acc ++ rs1.map (told cn sub k)) ++ rs2.map (told cn sub k) := by rw [List.map_append, List.append_assoc]
    rw [ea] at hsz h
    refine h2 S ρ H0 _ σ H w acc (by omega) I fun H' I' => ?_
    exact h4 S ρ H0 D σ H' w _ hlen (by rw [List.length_append, List.length_map]; omega) hsz I' h
/-- the whole suite -/
theorem suite_ok (O : SuOk g X a d oe k ie is e s cn sub) {xs : List Expr} {rest : List Stmt} {rs0 rs : List (Str × Str)} {q1 q2 q3 : Pos} (h0 : RowsX e xs rs0) (hs : Steps e s X.N X.env.scope rest rs) (hc : ∀ q ∈ rs0 ++ rs, (cn q.2).isSome = true) (hz : (rs0 ++ rs).length ≤ 1000)
    (hsz : ((rs0 ++ rs).map (·.1.length)).sum + (rs0 ++ rs).length ≤ 16777216) :
    ∃ t, PSs (X.suite a ((a, oe) :: pn)) (.Assign [.Name s q1] (.List xs q2) q3 :: rest) t ∧ ∀ (S : Sto) (ρ : List Addr) (D : Ends) σ H w, σ.length = X.N.length → SuI g S ρ H ie a d w σ H →
      (∀ v H', Ex ρ H ρ H' → Rel g.K g.T S ρ H' → DV g.K ρ H' v (.tup [.str (PySem.Str.join (PySem.Str.ofString " ") (hits ((rs0 ++ rs).map (told cn sub k)))), w]) → D.rt v H') → t D σ H := by
  rw [List.length_append] at hz
  obtain ⟨t1, h1, h2⟩ := first_ps (pn := pn) (q1 := q1) (q2 := q2) (q3 := q3) O h0 (fun q hq => hc q (List.mem_append_left _ hq)) (by omega)
  obtain ⟨t2, h3, h4⟩ := steps_ps (pn := pn) O hs fun q hq => hc q (List.mem_append_right _ hq)
  refine ⟨_, pss_cons h1 h3, fun S ρ D σ H w hlen I h => ?_⟩
  have isl : is < X.N.length := (List.getElem?_eq_some_iff.mp O.ns).1
  refine h2 S ρ H _ σ H w (by rw [hlen]; exact isl) I (fun _ _ z => z) fun σ' H' hl' I' => ?_
  refine h4 S ρ H D σ' H' w _ (by rw [hl', hlen]) (by rw [List.length_map]; exact hz) ?_ I' ?_
  · rw [← List.map_append, List.map_map, List.length_map]
    exact hsz
  · rw [← List.map_append]
    exact h
end
end Z
end
section
/-! ZHe: a lambda handed to a def that hears refusals. -/
namespace LamX
open PySem PySem.Spec PyProof.Rows L2
/-- the lambda's context, the refusals' context None -/
abbrev lamCxN (X : Cx) (A : Around) (outer : List Env) (s : Shared) (H : Hp) (E : XK) (scope : Scope) (f c' : Addr) : Cx :=
  (lamCx X A outer s H E scope f c').wish fun e s' => wpAny (model X.prog X.w) (A.deeper (lamEnv X scope s.heap.objs.size f c')) (leaving (lamEnv X scope s.heap.objs.size f c') e) (fun _ s'' => L2N.CX X.prog X.w outer H s E e s'') (fun e' s'' => L2N.CX X.prog X.w outer H s E e' s'') s'
section
variable {X : Cx} {pins : List (Addr × Obj)} {σ : L2.St} {H HZ : Hp} {s s1 : Shared}
/-- x(), in the def that got the lambda: Z is that def's context, entered at s -/
theorem pe_actN {CXg : CXT} {Eg : XK} {Ng : List Str} {qg : Str} {sg : Scope} {g f c' : Addr} {cdg pm ctv : Value} {params : Arguments} {body : Expr} {scope : Scope} {k i : Nat} {a : Str} {pn : List (Addr × Obj)} {xe : Value → Shared → Prop} {W : WX} {E : XK} {tb : TE} {p1 p2 : Pos}
    (I : Inv X pins σ H s) (L : LamS X.env.scope scope) (hf : s.heap.get? f = some (PySem.W.kla_obj "<lambda>" (X.env.qual ++ "<lambda>") params body scope (cloFrom X.env.cells scope.names []) pm c' ctv)) (hfn : H f = none) (hfr : f ∉ frs X.stack)
    (hbind : bindArgs (PySem.W.kla_fn "<lambda>" (X.env.qual ++ "<lambda>") params body scope (cloFrom X.env.cells scope.names []) pm (.ref c') ctv) ⟨[], []⟩ = pure [])
    (tk : L2N.Takes ((cxOf CXg X.prog X.w X.K X.mg X.base Ng qg sg g cdg X.A X.stack s H Eg).tr pn xe) W) (hW : ∀ cls d σ' H', E cls d H' → W cls d σ' H') (hr : Room (k + 1) (X.A.deeper (envOfC qg sg s.heap.objs.size g cdg)))
    (hbody : ∀ (A : Around) (outer : List Env) (s : Shared) (H : Hp), Room k (A.deeper (lamEnv X scope s.heap.objs.size f c')) → PE (lamCxN X A outer s H E scope f c') body tb)
    (hN : Ng[i]? = some a) (hv : Vis sg a) (hd : (a == ("__debug__" : Str)) = false := by decide) (hcd : (a == ("__classdict__" : Str)) = false := by decide) :
    PE ((cxOf CXg X.prog X.w X.K X.mg X.base Ng qg sg g cdg X.A X.stack s H Eg).tr pn xe) (.Call (.Name a p1) [] [] p2)
      (fun σZ HZ Q => σZ[i]? = some (some (.ref f)) ∧ HZ c' = some (CodeO c' (X.env.qual ++ "<lambda>")) ∧ tb σ HZ Q) := by
  refine ⟨fun pinsZ sZ σZ HZ Q IZ h => ?_⟩
  obtain ⟨hs, hc, ht⟩ := h
  refine wpAny_Call_Name_kw (thn ((pe_var (pos := p1) (i := i) hN hv hd hcd).run pinsZ sZ σZ HZ (fun v H1 => v = .ref f ∧ H1 = HZ) IZ ⟨.ref f, hs, rfl, rfl⟩) fun u s1 ⟨v, H1, I1, r1, q1⟩ => ?_)
  obtain ⟨ev, eH⟩ := q1
  subst ev
  rw [eH] at I1
  obtain rfl : u = Value.ref f := r1
  have of1 : s1.heap.get? f = some (PySem.W.kla_obj "<lambda>" (X.env.qual ++ "<lambda>") params body scope (cloFrom X.env.cells scope.names []) pm c' ctv) := I1.base.keep f _ hf hfn hfr (fun z => nomatch (show f ∈ ([] : List Addr) from z))
  refine PySem.W.callWith_F0 ⟨_, _, _, _, of1⟩ ?_
  have un : Un (frs X.stack) [] H HZ s.heap s1.heap := I1.base
  obtain ⟨⟨oc, vs, t, hoc, hdc, hvc⟩, _, _⟩ := I1.hok c' _ hc
  have rc : codeAny (model X.prog X.w) (X.A.deeper (envOfC qg sg s.heap.objs.size g cdg)) (.call (.ref f) ⟨[], []⟩) (CR (L2N.CX X.prog X.w) (envOfC qg sg s.heap.objs.size g cdg :: X.stack) X.prog X.w HZ s1 Q E) s1 := by
    refine PySem.W.kla_callFunE hr.depth of1 rfl L.co L.gen rfl ⟨c', oc, vs, t, rfl, hoc, hdc, hvc⟩ ?_
    rw [hbind]
    refine wpAny_pure (wpAny_newFunctionEnv (fun y hy => (L.own y hy).2) (fun y hy => absurd hy (by simp)) (fun h₁ hns hsb => ⟨I1.nolimit.fresh _ hsb, ?_⟩) L.kind)
    show codeAny _ _ (.expr body (lamEnv X scope s1.heap.objs.size f c')) _ _
    have kp : ∀ b o, s1.heap.get? b = some o → h₁.get? b = some o := fun b o e => hsb.extBut b o (Nat.ne_of_lt (Heap.lt_size e)) (Heap.get?_push_of_some _ e)
    have J : Inv (lamCxN X (X.A.deeper (envOfC qg sg s.heap.objs.size g cdg)) (envOfC qg sg s.heap.objs.size g cdg :: X.stack) s1 HZ E scope f c') [] σ HZ { s1 with heap := h₁, toks := s1.toks + ([] : List (Str × Value)).length } :=
      (lam_start2 (E := E) I L I1.env0 hr.hd un hns kp).wish _
    refine PySem.W.kla_codeExpr (wpAny_mono ((hbody _ _ s1 HZ (hr.deeper _)).run [] _ _ HZ Q J ht) (fun v s' hq => ?_) fun e s' hq => hq)
    obtain ⟨w', H', J', rv, q⟩ := hq
    exact ⟨w', H', J'.os, J'.bare, J'.base, J'.hok, rv, q⟩
  have hx : Passes (L2N.CX X.prog X.w) ((cxOf CXg X.prog X.w X.K X.mg X.base Ng qg sg g cdg X.A X.stack s H Eg).tr pn xe) E := L2N.passes_call tk hW
  refine wpAny_call (codeAny_mono rc fun r s' hq => ?_)
  cases r with
  | error e => exact hx pinsZ σZ HZ s1 e s' I1 hq
  | ok fl =>
    cases fl with
    | ret u => exact I1.after hq
    | next => exact False.elim hq
    | brk => exact False.elim hq
    | cont => exact False.elim hq
end
/-- the def that calls what it got: a calls it; TT: what it makes of the lambda's reading -/
def GivesToN (X : Cx) (Ng : List Str) (x : Str) (sg : Scope) (g : Addr) (cdg : Value) (bg : List Stmt) (a : Str) (q : Str) (TT : (XK → Hp → VK → Prop) → Hp → VK → Prop) : Prop :=
  ∀ (f c' : Addr) (s : Shared) (H : Hp) (Q : VK) (tl : XK → Hp → VK → Prop),
    (∀ (W : WX) (pn : List (Addr × Obj)) (xe : Value → Shared → Prop) (E : XK) (p1 p2 : Pos), L2N.Takes ((cxOf C8.CX0 X.prog X.w X.K X.mg X.base Ng x sg g cdg X.A X.stack s H C8.E0).tr pn xe) W → (∀ cls d σ' H', E cls d H' → W cls d σ' H') →
      PE ((cxOf C8.CX0 X.prog X.w X.K X.mg X.base Ng x sg g cdg X.A X.stack s H C8.E0).tr pn xe) (.Call (.Name a p1) [] [] p2) (fun σZ HZ Q => σZ[0]? = some (some (.ref f)) ∧ HZ c' = some (CodeO c' q) ∧ tl E HZ Q)) →
    H c' = some (CodeO c' q) → TT tl H Q →
    ∃ t, PSs (cxOf C8.CX0 X.prog X.w X.K X.mg X.base Ng x sg g cdg X.A X.stack s H C8.E0).nox bg t ∧ t { nx := fun _ H' => Q .non H', rt := Q } (L2.start Ng [.ref f]) H
def tLamN (T : List (Addr × Str)) (TT : (XK → Hp → VK → Prop) → Hp → VK → Prop) (t : XK → TE) : TE := fun σ H Q => Tabs T H ∧ ∀ H1, ExtN H H1 → Tabs T H1 → TT (fun E H' Q' => t E σ H' Q') H1 Q
section
variable {X : Cx}
/-- x(lambda: body) -/
theorem pe_lamcallN {T : List (Addr × Str)} {TT : (XK → Hp → VK → Prop) → Hp → VK → Prop} {x a : Str} {g c P : Addr} {k : Nat} {pg : Arguments} {bg : List Stmt} {sg : Scope} {dV kV doc pm cdv ct oc : Value} {an od : Option Addr} {osl : Array (Option Value)} {Ng : List Str}
    {params : Arguments} {body : Expr} {scope : Scope} {t : XK → TE} {p lpos pos : Pos} (hg : Gl X x) (hm : X.mg x = some (.ref g)) (hk : PySem.W.keepIn X.K (.ref g) = true)
    (lk : X.K.lookup g = some ⟨oc, od, .func (PySem.W.fnOf x x pg bg sg dV kV doc pm an cdv ct), osl⟩) (hcg : PySem.W.codeIn X.K cdv x = true) (hb : L2.Binds X.K (PySem.W.fnOf x x pg bg sg dV kV doc pm an cdv ct) [a] []) (Sg : FnScope Ng [a] sg) (hNg : Ng[0]? = some a) (hva : Vis sg a)
    (hG : GivesToN X Ng x sg g cdv bg a (X.env.qual ++ "<lambda>") TT)
    (TB : TabB X.base X.mg c P) (hcode : X.env.code = .ref c) (hmT : (P, X.env.qual ++ "<lambda>") ∈ T) (hu : ∀ p ∈ T, p.1 = P → p.2 = X.env.qual ++ "<lambda>") (hr : Room (k + 2) X.A) (L : LamS X.env.scope scope) (hdef : defaultsOf params X.env = ([], []))
    (hbind : ∀ (q : Str) (cl : List (Str × Addr)) (pm cv ctv : Value), bindArgs (PySem.W.kla_fn "<lambda>" q params body scope cl pm cv ctv) ⟨[], []⟩ = pure [])
    (hbody : ∀ (A : Around) (outer : List Env) (s : Shared) (H : Hp) (E : XK) (f c' : Addr), Room k (A.deeper (lamEnv X scope s.heap.objs.size f c')) → PE (lamCxN X A outer s H E scope f c') body (t E))
    (hdb : (x == ("__debug__" : Str)) = false := by decide) (hd : (a == ("__debug__" : Str)) = false := by decide) (hcd : (a == ("__classdict__" : Str)) = false := by decide) :
    PE X (.Call (.Name x p) [.Lambda params body scope lpos] [] pos) (tLamN T TT t) := by
  refine ⟨fun pins s σ H Q I h => ?_⟩
  obtain ⟨hT, h⟩ := h
  refine wpAny_Call_Name_kw (ld_glob I hg hm ?_ hdb)
  refine PySem.W.callWith_K (h₀ := X.base) I.ok.mod.kin hk ?_ (by rfl) (by rfl)
  show wpAny _ _ (spliced ((false, eval (.Lambda params body scope lpos) X.env) :: backTo pos (starEach [] X.env))) _ _ s
  refine Calls.spliced_cons (lam_make2 I TB hcode hmT hu hT hdef (L.has I.ok) fun f c' pm' ctv H1 s' I1 eN T1 hf hfn hfr hco => ?_)
  refine Calls.spliced_nil ⟨I1.kIn, ?_⟩
  have rc : codeAny (model X.prog X.w) X.A (.call (.ref g) ⟨[.ref f], []⟩) (CR C8.CX0 X.stack X.prog X.w H1 s' Q C8.E0) s' := by
    refine run_ofS (N := Ng) (ps := [a]) (us := [.ref f]) (vs := [.ref f]) lk hcg Sg hr I1.env0 (hb s' [.ref f] I1.kIn rfl) (.cons rfl .nil) rfl fun hr' => ?_
    obtain ⟨t', ht', hq'⟩ := hG f c' s' H1 Q (fun E H' Q' => t E σ H' Q') (fun W pn xe E p1 p2 tk hW => pe_actN (i := 0) I1 L hf hfn hfr (hbind _ _ _ _ _) tk hW hr' (fun A outer s H hr2 => hbody A outer s H E f c' hr2) hNg hva hd hcd) hco (h H1 eN T1)
    exact ⟨t', ht'.nox, hq'⟩
  refine wpAny_call (codeAny_mono rc fun r s2 hq => ?_)
  cases r with
  | error e => exact (show False from hq).elim
  | ok fl =>
    cases fl with
    | ret u => exact I1.after hq
    | next => exact False.elim hq
    | brk => exact False.elim hq
    | cont => exact False.elim hq
end
end LamX
end
section
/-! ZHf: heard(lambda: e) by data. -/
namespace Z
open PySem PySem.Spec PyProof.Rows L2
/-- the body of a def that hears -/
def heardB (a tl csn e s : Str) (xs : List Expr) (rest : List Stmt) (j k : Nat) (p1 p2 p3 p4 p5 p6 p7 p8 p9 p10 p11 : Pos) : List Stmt :=
  [.Try [.Return (some (.Tuple [.Constant (.str tl) j p1, .Call (.Name a p2) [] [] p3] k p4)) p5] [.ExceptHandler (some (.Name csn p6)) (some e) (.Assign [.Name s p7] (.List xs p8) p9 :: rest) p10] [] [] p11]
/-- what is asked of the lambda's reading -/
def TTD (g : Gl0) (P : Prog) (hd : Heard) : (XK → Hp → VK → Prop) → Hp → VK → Prop := fun tl H Q =>
  tl (fun cls dd H' => ∃ k w S ρ, Rel g.K g.T S ρ H' ∧ ExcR g ρ H' cls dd k w ∧ P.sub k hd.root = true ∧ ∀ v H'', Ex ρ H' ρ H'' → Rel g.K g.T S ρ H'' → DV g.K ρ H'' v (.tup [.str (joined P hd k), w]) → Q v H'') H
    fun v H' => [V.str hd.told, v].length ≤ sizeLine ∧ ∀ p, H' p = none → Q (.ref p) (upd H' p (.tup [.str hd.told, v]))
/-- what is known of the refusals' classes, of a def that hears -/
structure HeOk (g : Gl0) (K : PySem.W.Frag) (mg : Str → Option Value) (P : Prog) (hd : Heard) (Ng : List Str) (sg : Scope) (a csn e s : Str) (rs : List (Str × Str)) (cn : Str → Option Nat) : Prop where
  hK : K = g.K
  nd : Ng.Nodup
  na : Ng[0]? = some a
  ie : ∃ ie : Nat, Ng[ie]? = some e
  is : ∃ is : Nat, Ng[is]? = some s
  hne : e ≠ s
  le : sg.names.lookup e = some .local
  ls : sg.names.lookup s = some .local
  va : Vis sg a
  de : (e == ("__debug__" : Str)) = false ∧ (e == ("__classdict__" : Str)) = false
  ds : (s == ("__debug__" : Str)) = false ∧ (s == ("__classdict__" : Str)) = false
  gi : sg.names.lookup ("isinstance" : Str) = some .globalImplicit
  mi : mg "isinstance" = none
  gc : sg.names.lookup csn = some .globalImplicit
  mc : mg csn = some (.ref (g.L.ca hd.root))
  dc : (csn == ("__debug__" : Str)) = false
  cls : ∀ c j, cn c = some j → sg.names.lookup c = some .globalImplicit ∧ mg c = some (.ref (g.L.ca j)) ∧ (c == ("__debug__" : Str)) = false ∧ ∀ k, P.sub k hd.root = true → PySem.W.kitOne K (.ref (g.L.ca k)) (.ref (g.L.ca j)) = some (P.sub k j)
  all : ∀ r ∈ rs, (cn r.2).isSome = true
  exm : ∀ k, P.sub k hd.root = true → PySem.W.exmOne K (.ref (g.L.ca k)) (.ref (g.L.ca hd.root)) = some true
  cE : ∀ k, P.sub k hd.root = true → ExcC K (g.L.ca k)
  xE : ∀ k, P.sub k hd.root = true → XfC K (g.L.ca k)
  hno : ∀ k, P.sub k hd.root = true → PySem.W.findIn K (.ref (g.L.ca k)) "what" = some none
  rows : hd.rows = rs.map fun r => (r.1, (cn r.2).getD 0)
  z : rs.length ≤ 1000
  sz : (rs.map (·.1.length)).sum + rs.length ≤ 16777216
theorem takes0N {X : Cx} : L2N.Takes X (fun _ _ _ _ => False) := fun _ _ x => by
  obtain ⟨_, _, _, _, _, _, _, _, _, _, _, _, _, _, _, _, z⟩ := x
  exact z.elim
theorem joined_is {P : Prog} {hd : Heard} {rs : List (Str × Str)} {cn : Str → Option Nat} {k : Nat} (hr : hd.rows = rs.map fun r => (r.1, (cn r.2).getD 0)) (hc : ∀ r ∈ rs, (cn r.2).isSome = true) :
    joined P hd k = PySem.Str.join (PySem.Str.ofString " ") (hits (rs.map (told cn P.sub k))) := by
  unfold joined
  rw [hr]
  congr 1
  clear hr
  unfold hits
  induction rs with
  | nil => rfl
  | cons r rs ih =>
    obtain ⟨j, ej⟩ := Option.isSome_iff_exists.mp (hc r List.mem_cons_self)
    have ih := ih fun q hq => hc q (List.mem_cons_of_mem _ hq)
    simp only [List.map_cons, List.filter_cons, told, ej, Option.getD_some]
    split
    · rw [List.map_cons, List.map_cons, ih]
    · exact ih
section
variable {g : Gl0} {X : Cx} {P : Prog} {hd : Heard} {Ng : List Str} {sg : Scope} {a csn e s x q : Str} {cn : Str → Option Nat} {rs0 rs : List (Str × Str)} {xs : List Expr} {rest : List Stmt} {gf : Addr} {cdg : Value}
theorem heard_gives (O : HeOk g X.K X.mg P hd Ng sg a csn e s (rs0 ++ rs) cn) {j k : Nat} {p1 p2 p3 p4 p5 p6 p7 p8 p9 p10 p11 : Pos} (h0 : RowsX e xs rs0) (hs : Steps e s Ng sg rest rs) :
    LamX.GivesToN X Ng x sg gf cdg (heardB a hd.told csn e s xs rest j k p1 p2 p3 p4 p5 p6 p7 p8 p9 p10 p11) a q (TTD g P hd) := by
  intro f c' s' H Q tl act hc h
  obtain ⟨ie, hie⟩ := O.ie
  obtain ⟨is, his⟩ := O.is
  have hcs := O.all
  have hgl : Gl (cxOf C8.CX0 X.prog X.w X.K X.mg X.base Ng x sg gf cdg X.A X.stack s' H C8.E0).nox csn := O.gc
  have hzz := O.z
  have hsz := O.sz
  refine ⟨_, pss_one (L2N.ps_try_as (X := (cxOf C8.CX0 X.prog X.w X.K X.mg X.base Ng x sg gf cdg X.A X.stack s' H C8.E0).nox) (c := .ref (g.L.ca hd.root)) (i := ie) (Wout := fun _ _ _ _ => False)
      (tb := fun W D σ H => ∃ Ech : XK, (∀ cls d σ' H', Ech cls d H' → W cls d σ' H') ∧ σ[0]? = some (some (.ref f)) ∧ H c' = some (LamX.CodeO c' q) ∧ tl Ech H fun v H' => [V.str hd.told, v].length ≤ sizeLine ∧ ∀ p, H' p = none → D.rt (.ref p) (upd H' p (.tup [.str hd.told, v])))
      (ts := fun ax cls d D σ H => ∃ k dd S ρ w, P.sub k hd.root = true ∧ cls = .ref (g.L.ca k) ∧ d = some dd ∧ (∃ σ0 : L2.St, σ = σ0.set ie (some (.ref ax))) ∧ Rel g.K g.T S ρ H ∧ (∃ v, H dd = some (.xd [(("what" : Str), v)]) ∧ DV g.K ρ H v w) ∧ (∀ v H', Ex ρ H ρ H' → Rel g.K g.T S ρ H' → DV g.K ρ H' v (.tup [.str (joined P hd k), w]) → D.rt v H'))
      rfl rfl O.nd hie O.le ⟨hgl, O.dc, .inl O.mc⟩ takes0N (fun W pn xe tk _ => ?_) (fun ax oe cls d pn hz hf => ?_)), ?_⟩
  · refine ⟨fun pins s1 σ H1 D I ⟨Ech, hW, h1, h2, h3⟩ => ?_⟩
    have hp := act W pn xe Ech p2 p3 tk hW
    have hq := pss_one (ps_ret (pos := p5) (pe_tup (pos := p4) (x1 := k) (pa_cons (pe_str (x := hd.told) (j := j) (pos := p1)) (pa_cons hp pa_nil (by rfl)) (by rfl))))
    exact hq.run pins s1 σ H1 D I ⟨h1, h2, h3⟩
  · refine ⟨fun pins s1 σ H1 D I ⟨k, dd, S, ρ, w, hk, ec, ed, ⟨σ0, es⟩, hR, hd', hrt⟩ => ?_⟩
    subst ec ed
    have hlen : σ.length = Ng.length := I.len
    have hI : SuI g S ρ H1 ie ax dd w σ H1 := by
      refine ⟨?_, Ex.refl _ _, hR, hd'⟩
      have hl : ie < Ng.length := (List.getElem?_eq_some_iff.mp hie).1
      rw [es, List.length_set] at hlen
      rw [es]
      exact List.getElem?_set_self (by rw [hlen]; exact hl)
    have SO : SuOk g ((cxOf C8.CX0 X.prog X.w X.K X.mg X.base Ng x sg gf cdg X.A X.stack s' H C8.E0).nox) ax dd oe k ie is e s cn P.sub := by
      refine ⟨O.hK, hz, hf, O.cE k hk, O.xE k hk, O.hno k hk, O.nd, hie, his, O.le, O.ls, fun z => ?_, O.de, O.ds, O.gi, O.mi, fun c j hc => ?_⟩
      · subst z
        rw [hie] at his
        exact O.hne (Option.some.inj his)
      · obtain ⟨c1, c2, c3, c4⟩ := O.cls c j hc
        exact ⟨c1, c2, c3, c4 k hk⟩
    obtain ⟨t, h1, h2⟩ := suite_ok (pn := pn) (q1 := p7) (q2 := p8) (q3 := p9) SO h0 hs hcs hzz hsz
    refine h1.run pins s1 σ H1 D I (h2 S ρ D σ H1 w hlen hI fun v H' x r dv => hrt v H' x r ?_)
    rw [joined_is O.rows hcs]
    exact dv
  · refine ⟨_, fun cls d σ' H' hh => ?_, ?_, hc, h⟩
    · obtain ⟨k, w, S, ρ, hR, ⟨e1, dd, v, e2, e3, e4⟩, hk, hrt⟩ := hh
      refine ⟨true, ?_, fun _ ax _ => ?_, fun z => nomatch z⟩
      · rw [e1]
        exact O.exm k hk
      · exact ⟨k, dd, S, ρ, w, hk, e1, e2, ⟨σ', rfl⟩, hR, ⟨v, e3, e4⟩, hrt⟩
    · have hl : 0 < Ng.length := (List.getElem?_eq_some_iff.mp O.na).1
      unfold L2.start
      simp
theorem Rel.extN {S : Sto} {ρ : List Addr} {H H1 : Hp} (r : Rel g.K g.T S ρ H) (e : LamX.ExtN H H1) (t : LamX.Tabs g.T H1) : Rel g.K g.T S ρ H1 := by
  have x : Ex ρ H ρ H1 := ⟨⟨[], by simp⟩, fun b o h n m => ⟨m, e b o h n⟩⟩
  exact ⟨r.len, r.inj, fun l u h => by
    obtain ⟨a, e1, y⟩ := r.obj l u h
    exact ⟨a, e1, y.ex r x fun xs z => e a _ z fun _ q => nomatch q⟩, t⟩
theorem de_heard {E : XK} {fe : Env → M D} {c Pt : Addr} {k : Nat} {pg : Arguments} {dV kV doc pm cdv ct oc : Value} {an od : Option Addr} {osl : Array (Option Value)} {j k1 : Nat} {q1 q2 q3 q4 q5 q6 q7 q8 q9 q10 q11 : Pos}
    {params : Arguments} {body : Expr} {scope : Scope} {p lpos pos : Pos} (O : HeOk g X.K X.mg P hd Ng sg a csn e s (rs0 ++ rs) cn) (h0 : RowsX e xs rs0) (hs : Steps e s Ng sg rest rs) (hg : Gl X x) (hm : X.mg x = some (.ref gf)) (hk : PySem.W.keepIn X.K (.ref gf) = true)
    (lk : X.K.lookup gf = some ⟨oc, od, .func (PySem.W.fnOf x x pg (heardB a hd.told csn e s xs rest j k1 q1 q2 q3 q4 q5 q6 q7 q8 q9 q10 q11) sg dV kV doc pm an cdv ct), osl⟩) (hcg : PySem.W.codeIn X.K cdv x = true)
    (hb : L2.Binds X.K (PySem.W.fnOf x x pg (heardB a hd.told csn e s xs rest j k1 q1 q2 q3 q4 q5 q6 q7 q8 q9 q10 q11) sg dV kV doc pm an cdv ct) [a] []) (Sg : FnScope Ng [a] sg)
    (TB : LamX.TabB X.base X.mg c Pt) (hcode : X.env.code = .ref c) (hmT : (Pt, X.env.qual ++ "<lambda>") ∈ g.T) (hu : ∀ p ∈ g.T, p.1 = Pt → p.2 = X.env.qual ++ "<lambda>") (hr : Room (k + 2) X.A) (L : LamX.LamS X.env.scope scope) (hdef : defaultsOf params X.env = ([], []))
    (hbind : ∀ (q : Str) (cl : List (Str × Addr)) (pm cv ctv : Value), bindArgs (PySem.W.kla_fn "<lambda>" q params body scope cl pm cv ctv) ⟨[], []⟩ = pure [])
    (hbody : ∀ (A : Around) (outer : List PySem.Env) (s : Shared) (H : Hp) (Ech : XK) (f c' : Addr), Room k (A.deeper (LamX.lamEnv X scope s.heap.objs.size f c')) → PE (LamX.lamCxN X A outer s H Ech scope f c') body (tD g Ech fe))
    (hdb : (x == ("__debug__" : Str)) = false) (hd1 : (a == ("__debug__" : Str)) = false) (hd2 : (a == ("__classdict__" : Str)) = false) :
    PE X (.Call (.Name x p) [.Lambda params body scope lpos] [] pos) (tD g E fun env => hearM P hd (fe env)) :=
  (LamX.pe_lamcallN (T := g.T) (TT := TTD g P hd) (t := fun Ech => tD g Ech fe) hg hm hk lk hcg hb Sg O.na O.va (heard_gives O h0 hs) TB hcode hmT hu hr L hdef hbind hbody hdb hd1 hd2).imp fun σ H Q ⟨S, ρ, env, hr, he, h⟩ => by
    refine ⟨hr.tab, fun H1 eN T1 => ?_⟩
    have x1 : Ex ρ H ρ H1 := ⟨⟨[], by simp⟩, fun b o h n m => ⟨m, eN b o h n⟩⟩
    refine ⟨S, ρ, env, Rel.extN hr eN T1, he.ex hr x1, ?_⟩
    have h : Fin g E ρ H (hearM P hd (fe env) S) _ := h
    unfold hearM at h
    cases q : fe env S with
    | ok d S' =>
      rw [q] at h
      intro ρ' H' x r' v hv
      refine ⟨by show 2 ≤ sizeLine; decide, fun p hp => ?_⟩
      exact h ρ' _ ((x1.trans x).trans (Ex.new hp)) (r'.new hp) _ (tup_new r' hp (.cons (.str _) (.one hv)))
    | exc c w S' =>
      rw [q] at h
      have h' := fin_if h
      intro ρ' H' cls dd x r' ex
      exact ⟨c, w, S', ρ', r', ex, h'.1, fun v H'' x2 r2 dv => h'.2 ρ' H'' ((x1.trans x).trans x2) r2 v dv⟩
    | stuck =>
      rw [q] at h
      exact h.elim
end
end Z
end
section
/-! ZGa: a generator expression handed to tuple(). -/
namespace GeX
open PySem PySem.Spec PyProof.Rows L2 LamX
section
variable {X : Cx} {pins : List (Addr × Obj)} {σ : L2.St} {H1 : Hp} {s1 : Shared}
/-- the generator g, of n items at most, ready in the state s5; whatever it does leaves what was held -/
def Rdy (X : Cx) (T : List (Addr × Str)) (pins : List (Addr × Obj)) (σ : L2.St) (H1 : Hp) (pz : Nat → Bool) (F : Nat → Value → Prop) (n : Nat) (g : Addr) (s5 : Shared) : Prop :=
  ∃ (fp wr : List Addr) (G : Array GenState → Array GenState → Prop) (St : Nat → Shared → Prop),
    WalksS X.prog X.w X.A.in4 g fp wr G (passing pz n 0).length (fun j y => ∃ i, (passing pz n 0)[j]? = some i ∧ F i y) St ∧ St 0 s5 ∧ (∀ i s, St i s → s.TypeIs (.ref g) "generator") ∧ g ∈ fp ∧ (∀ b ∈ fp, b < s5.heap.objs.size) ∧
    ∀ s', Moved wr G s5 s' → ∃ H2, ExtN H1 H2 ∧ Tabs T H2 ∧ Inv X pins σ H2 s'
/-- a test, a value in the generator's own frame: nothing that stood is altered -/
def QTest (X : Cx) (scope : Scope) (x : Str) (ifs : List Expr) (P : Addr) (s1 : Shared) (Pv : Nat → Value → Prop) (pz : Nat → Bool) : Prop :=
  ∀ (C : Addr) (code : Value) (bi : Addr) (A' : Around) (E' : Value → Shared → Prop) (i : Nat) (v : Value) (t : Shared) (m₂ : Str → Option Value), A'.handled = none → Pv i v → t.heap.Ns C m₂ → m₂ x = some v → (∀ b u, b ≠ P → s1.heap.get? b = some u → t.heap.get? b = some u) →
    wpAny (model X.prog X.w) A' (forIn ifs true fun c r => if r = true then do let ok ← isTrue c (genEnv scope (cloFrom X.env.cells scope.names []) C code bi X.env) (eval c (genEnv scope (cloFrom X.env.cells scope.names []) C code bi X.env)); pure (ForInStep.yield ok) else pure (ForInStep.yield r)) (fun ok s₃ => ok = pz i ∧ Keeps t s₃) E' t
def QElt (X : Cx) (scope : Scope) (x : Str) (elt : Expr) (P : Addr) (s1 : Shared) (Pv : Nat → Value → Prop) (pz : Nat → Bool) (F : Nat → Value → Prop) : Prop :=
  ∀ (C : Addr) (code : Value) (bi : Addr) (A' : Around) (E' : Value → Shared → Prop) (i : Nat) (v : Value) (t : Shared) (m₂ : Str → Option Value), A'.handled = none → Pv i v → pz i = true → t.heap.Ns C m₂ → m₂ x = some v → (∀ b u, b ≠ P → s1.heap.get? b = some u → t.heap.get? b = some u) →
    wpAny (model X.prog X.w) A' (eval elt (genEnv scope (cloFrom X.env.cells scope.names []) C code bi X.env)) (fun y s₃ => F i y ∧ Keeps t s₃) E' t
theorem rest {T : List (Addr × Str)} {c P : Addr} {q : Str} {elt : Expr} {x : Str} {ifs : List Expr} {gpos : Pos} {scope : Scope} {Q' : Value → Shared → Prop} {o : Obj} {ex : List Addr} {n k : Nat} {Pv : Nat → Value → Prop} {St : Nat → Heap → Prop} {pz : Nat → Bool} {F : Nat → Value → Prop}
    (I1 : Inv X pins σ H1 s1) (hr : Room k X.A) (TB : LamX.TabB X.base X.mg c P) (hcode : X.env.code = .ref c) (hq : X.env.qual ++ "<genexpr>" = q) (hm : (P, q) ∈ T) (hu : ∀ p ∈ T, p.1 = P → p.2 = q) (hT : Tabs T H1)
    (hW : ∀ A' : Around, A'.handled = none → Walks X.prog X.w A' s1.heap.objs.size (s1.heap.objs.size :: ex) [s1.heap.objs.size] n Pv St)
    (hst : St 0 (s1.heap.push o)) (hex : ∀ b ∈ ex, b ≠ P ∧ b < s1.heap.objs.size) (h1 : QTest X scope x ifs P s1 Pv pz) (h2 : QElt X scope x elt P s1 Pv pz F)
    (hQ : ∀ (g : Addr) (s5 : Shared), Rdy X T pins σ H1 pz F n g s5 → Q' (.ref g) s5) :
    (s1.heap.push o).NoLimit ∧ wpAny (model X.prog X.w) X.A (genexprCode X.env gpos (X.env.qual ++ "<genexpr>") scope) (fun code s₃ => wpAny (model X.prog X.w) X.A (builtinsFor X.env.globals X.env.builtins) (fun bi s₄ =>
        ∃ Ia fp wr n₀ Pf St₀ pz F, Value.ref s1.heap.objs.size = .ref Ia ∧ (∀ A' : Around, A'.handled = none → Walks X.prog X.w A' Ia fp wr n₀ Pf St₀) ∧ St₀ 0 s₄.heap ∧ (∀ b ∈ fp, b < s₄.heap.objs.size) ∧ s₄.heap.NoLimit ∧ cStatics ∉ wr ∧
          (∀ href : Heap, (∀ b o, s₄.heap.get? b = some o → href.get? b = some o) →
            QuietGen X.prog X.w (genEnv scope (cloFrom X.env.cells scope.names []) s₄.heap.objs.size code bi X.env) x ifs elt (List.range s₄.heap.objs.size) wr Pf pz F href) ∧
          (∀ a h₅ tk gs, gs.bare = true → s₄.heap.objs.size < a → h₅.objs.size = a + 1 → (∀ b o, s₄.heap.get? b = some o → h₅.get? b = some o) →
            WalksS X.prog X.w X.A.in4 a (a :: s₄.heap.objs.size :: List.range s₄.heap.objs.size) (s₄.heap.objs.size :: wr) (GenOnlyQ s₄.gens.size) (passing pz n₀ 0).length
              (fun j y => ∃ i, (passing pz n₀ 0)[j]? = some i ∧ F i y) (GenAt X.prog X.w X.A.in4 a s₄.gens.size s₄.heap.objs.size (List.range s₄.heap.objs.size) wr pz n₀ F) →
            GenAt X.prog X.w X.A.in4 a s₄.gens.size s₄.heap.objs.size (List.range s₄.heap.objs.size) wr pz n₀ F 0 { s₄ with gens := s₄.gens.push gs, toks := tk, heap := h₅ } →
            Q' (.ref a) { s₄ with gens := s₄.gens.push gs, toks := tk, heap := h₅ })) X.xe s₃) X.xe { s1 with heap := s1.heap.push o } := by
  obtain ⟨ps, hP, ht, ha⟩ := hT _ hm
  have oldP : s1.heap.get? P = some { cls := .none, data := .fields ps } := I1.hok P _ hP
  have ltP : P < s1.heap.objs.size := Heap.lt_size oldP
  have newP := Heap.get?_push_of_some o oldP
  have cdh : PySem.W.CodeHd (s1.heap.push o) c P := TB.code.keeps fun b u e => Heap.get?_push_of_some o (I1.bk b u e)
  have lim := I1.nolimit.push o
  have szo : (s1.heap.push o).objs.size = s1.heap.objs.size + 1 := Heap.size_push ..
  refine ⟨lim, ?_⟩
  /- with the code object at hand; H2 holds it -/
  have key : ∀ (code : Value) (h3 : Heap) (tk : Nat) (H2 : Hp), Heap.ExtBut P (s1.heap.push o) h3 → (s1.heap.push o).objs.size ≤ h3.objs.size → ExtN H1 H2 → Tabs T H2 →
      (∀ s' : Shared, s'.os = s1.os → AllBare s'.gens → (∀ b u, b ≠ s1.heap.objs.size → b ≠ h3.objs.size → h3.get? b = some u → s'.heap.get? b = some u) → Inv X pins σ H2 s') →
      wpAny (model X.prog X.w) X.A (builtinsFor X.env.globals X.env.builtins) (fun bi s₄ =>
        ∃ Ia fp wr n₀ Pf St₀ pz F, Value.ref s1.heap.objs.size = .ref Ia ∧ (∀ A' : Around, A'.handled = none → Walks X.prog X.w A' Ia fp wr n₀ Pf St₀) ∧ St₀ 0 s₄.heap ∧ (∀ b ∈ fp, b < s₄.heap.objs.size) ∧ s₄.heap.NoLimit ∧ cStatics ∉ wr ∧
          (∀ href : Heap, (∀ b o, s₄.heap.get? b = some o → href.get? b = some o) →
            QuietGen X.prog X.w (genEnv scope (cloFrom X.env.cells scope.names []) s₄.heap.objs.size code bi X.env) x ifs elt (List.range s₄.heap.objs.size) wr Pf pz F href) ∧
          (∀ a h₅ tk gs, gs.bare = true → s₄.heap.objs.size < a → h₅.objs.size = a + 1 → (∀ b o, s₄.heap.get? b = some o → h₅.get? b = some o) →
            WalksS X.prog X.w X.A.in4 a (a :: s₄.heap.objs.size :: List.range s₄.heap.objs.size) (s₄.heap.objs.size :: wr) (GenOnlyQ s₄.gens.size) (passing pz n₀ 0).length
              (fun j y => ∃ i, (passing pz n₀ 0)[j]? = some i ∧ F i y) (GenAt X.prog X.w X.A.in4 a s₄.gens.size s₄.heap.objs.size (List.range s₄.heap.objs.size) wr pz n₀ F) →
            GenAt X.prog X.w X.A.in4 a s₄.gens.size s₄.heap.objs.size (List.range s₄.heap.objs.size) wr pz n₀ F 0 { s₄ with gens := s₄.gens.push gs, toks := tk, heap := h₅ } →
            Q' (.ref a) { s₄ with gens := s₄.gens.push gs, toks := tk, heap := h₅ })) X.xe { s1 with heap := h3, toks := tk } := by
    intro code h3 tk H2 hx hsz hE hT2 hI
    have hs1 : s1.heap.objs.size < h3.objs.size := by rw [szo] at hsz; exact hsz
    obtain ⟨bm, ob, e1, e2, e3, e4, e5, e6, e7, e8⟩ := TB.bm
    have nPc : cStatics ≠ P := fun e => by
      obtain ⟨_, ⟨o', es, ep, ho, hd, _⟩, _⟩ := I1.nolimit
      rw [e, oldP] at ho
      cases ho
      cases hd
    have ltc : cStatics < s1.heap.objs.size := let ⟨_, hns, _⟩ := I1.nolimit; hns.lt
    have up3 : ∀ b u, b ≠ P → s1.heap.get? b = some u → h3.get? b = some u := fun b u hb e => hx b u hb (Heap.get?_push_of_some _ e)
    refine wpAny_builtinsFor (m := X.mg) (by rw [I1.ok.glob]; exact ((I1.mod.glob.keeps I1.bk).push o).extBut hx TB.gP) e1 e2 (up3 _ _ e4 (I1.bk _ _ e5)) e6 e7 e8 ?_
    refine ⟨s1.heap.objs.size, s1.heap.objs.size :: ex, [s1.heap.objs.size], n, Pv, St, pz, F, rfl, hW, ?_, ?_, lim.extBut hx nPc, ?_, ?_, ?_⟩
    · refine (hW X.A hr.hd).frame _ _ _ hst fun b hb u e => hx b u ?_ e
      rcases List.mem_cons.mp hb with z | z
      · rw [z]
        exact Ne.symm (Nat.ne_of_lt ltP)
      · exact (hex b z).1
    · intro b hb
      rcases List.mem_cons.mp hb with z | z
      · rw [z]
        exact hs1
      · exact Nat.lt_trans (hex b z).2 hs1
    · intro z
      rcases List.mem_cons.mp z with z | z
      · exact Nat.ne_of_lt ltc z
      · cases z
    · intro href hhref
      have keep : ∀ (t : Shared), (∀ b ∈ List.range h3.objs.size, b ∉ [s1.heap.objs.size] → ∀ o, href.get? b = some o → t.heap.get? b = some o) → ∀ b u, b ≠ P → s1.heap.get? b = some u → t.heap.get? b = some u := fun t hk b u hb e => by
        have lt := Heap.lt_size e
        refine hk b (List.mem_range.mpr (Nat.lt_trans lt hs1)) (fun z => ?_) u (hhref b u (up3 b u hb e))
        rw [List.mem_singleton.mp z] at lt
        exact Nat.lt_irrefl _ lt
      exact ⟨fun A' E' i v t m₂ hA hv hn hmx hk => h1 _ code _ A' E' i v t m₂ hA hv hn hmx (keep t hk), fun A' E' i v t m₂ hA hv hp hn hmx hk => h2 _ code _ A' E' i v t m₂ hA hv hp hn hmx (keep t hk)⟩
    · intro g h5 tk5 gs hgb hag hsz5 hk5 W5 hat
      refine hQ g _ ⟨_, _, _, _, W5, hat, fun i s hs => hs.1.typeIs, List.mem_cons_self, ?_, fun s' hmv => ?_⟩
      · intro b hb
        have g5 : g < h5.objs.size := by rw [hsz5]; exact Nat.lt_succ_self _
        have g3 : h3.objs.size < h5.objs.size := Nat.lt_trans hag g5
        rcases List.mem_cons.mp hb with z | z
        · rw [z]
          exact g5
        · rcases List.mem_cons.mp z with z | z
          · rw [z]
            exact g3
          · exact Nat.lt_trans (List.mem_range.mp z) g3
      · refine ⟨H2, hE, hT2, hI s' hmv.os (AllBare.movedS (I1.bare.push hgb) hmv) fun b u n1 n2 e => hmv.heap b u (fun z => ?_) (hk5 b u e)⟩
        rcases List.mem_cons.mp z with z | z
        · exact n2 z
        · exact n1 (List.mem_singleton.mp z)
  have below : ∀ {b : Addr} {u : Obj}, s1.heap.get? b = some u → b ≠ s1.heap.objs.size := fun e z => by
    have := Heap.lt_size e
    rw [z] at this
    exact Nat.lt_irrefl _ this
  have regen : ∀ {H2 : Hp} {s' : Shared}, Inv X pins σ H2 { s1 with heap := s'.heap, toks := s'.toks } → s'.os = s1.os → AllBare s'.gens → Inv X pins σ H2 s' := fun {H2 s'} J ho hb => by
    have J2 := J.step (g' := s'.gens) (d' := s'.drawn) (t' := s'.toks) (ch := []) (fun b hb => absurd hb (by simp)) (fun b o _ _ _ e n => e) (fun b o _ _ _ e n => ⟨o.slots, e⟩)
      (fun b o _ e n => n) (fun b o _ e => ⟨o, e⟩) (fun b xs e => e) (fun b o u e => e) (fun b qs e => ⟨#[], by rw [e]; simp⟩) (fun m hn => hn) (fun b u e => J.hok b u e) hb
    rw [GxR.sh_eta s1 s' ho] at J2
    exact J2
  cases hf : codeAmong gpos ps.toList with
  | some cv =>
    refine wpAny_genexprCode_hit hcode (cdh.code newP ht) hf (key cv _ s1.toks H1 (Heap.ExtBut.refl _ _) (Nat.le_refl _) (ExtN.refl _) hT fun s' ho hb hk => regen ?_ ho hb)
    refine I1.kept fun b u e => hk b u (below e) (fun z => ?_) (Heap.get?_push_of_some _ e)
    have lt := Heap.lt_size e
    rw [z, szo] at lt
    exact absurd (Nat.lt_succ_self _) (Nat.lt_asymm lt)
  | none =>
    refine wpAny_genexprCodeX hcode (cdh.code newP ht) (cdh.tab newP) hf fun c' h' tk hx hge hlt _ hrec htb _ => ?_
    obtain ⟨c2, oc, vs, tt, e2, hoc, hd, hv⟩ := hrec
    cases e2
    have gec : s1.heap.objs.size + 1 ≤ c' := by
      have z : (s1.heap.push o).objs.size ≤ c' := hge
      rw [szo] at z
      exact z
    have nC : H1 c' = none := I1.hok.fresh (Nat.le_of_lt gec)
    have hE : ExtN H1 (upd (upd H1 P (.tbl (ps ++ #[rawInt gpos.line, rawInt gpos.col, .ref c']))) c' (CodeO c' q)) := fun b u e n => by
      rw [upd_ne (ne_of_none e nC), upd_ne (fun z => n ps (Option.some.inj (e.symm.trans (by rw [z]; exact hP))))]
      exact e
    have eL : (ps ++ #[rawInt gpos.line, rawInt gpos.col, .ref c']).toList = ps.toList ++ [rawInt gpos.line, rawInt gpos.col, .ref c'] := by simp
    refine key (.ref c') h' tk _ hx (Nat.le_trans hge (Nat.le_of_lt hlt)) hE (fun p hp => ?_) fun s' ho hb hk => regen ?_ ho hb
    · by_cases hb : p.1 = P
      · rw [hu p hp hb, hb]
        refine ⟨_, by rw [upd_ne (ne_of_none hP nC), upd_same], by rw [eL]; exact PySem.TriplesOk_snoc _ _ _ _ ht, fun p' cv hcv => ?_⟩
        rw [eL] at hcv
        rcases among_app _ ht hcv with z | z
        · obtain ⟨c0, z1, z2⟩ := ha p' cv z
          exact ⟨c0, z1, hE _ _ z2 codeO_ne⟩
        · exact ⟨c', z, upd_same⟩
      · obtain ⟨ps', a1, a2, a3⟩ := hT p hp
        refine ⟨ps', by rw [upd_ne (ne_of_none a1 nC), upd_ne hb]; exact a1, a2, fun p' cv hcv => ?_⟩
        obtain ⟨c0, z1, z2⟩ := a3 p' cv hcv
        exact ⟨c0, z1, hE _ _ z2 codeO_ne⟩
    · have ge : h'.objs.size ≥ s1.heap.objs.size + 1 := Nat.le_trans gec (Nat.le_of_lt hlt)
      have up : ∀ b u, b ≠ P → s1.heap.get? b = some u → s'.heap.get? b = some u := fun b u hbP e => hk b u (below e) (fun z => by
        have lt := Heap.lt_size e
        rw [z] at lt
        exact absurd (Nat.lt_of_lt_of_le lt (Nat.le_of_lt ge)) (Nat.lt_irrefl _)) (hx b u hbP (Heap.get?_push_of_some _ e))
      refine inv_table (t' := s'.toks) (more := #[rawInt gpos.line, rawInt gpos.col, .ref c']) (h' := s'.heap) I1 hP up (hk P _ (Nat.ne_of_lt ltP) (Nat.ne_of_lt (Nat.lt_of_lt_of_le ltP (Nat.le_of_lt ge))) htb.2) (Nat.le_of_lt gec)
        ⟨oc, vs, tt, hk c' _ (Ne.symm (Nat.ne_of_lt gec)) (Nat.ne_of_lt hlt) hoc, hd, by rw [← hq]; exact hv⟩
end
end GeX
end
section
/-! ZGb: tuple() of a generator expression, by its source, its test, its value. -/
namespace GeX
open PySem PySem.Spec PyProof.Rows L2 LamX
/-- what is walked: an iterator at the heap's end, its items known -/
def SrcAt (X : Cx) (pins : List (Addr × Obj)) (σ : L2.St) (R : List V → Hp → Prop) (it : Value) (s2 : Shared) : Prop :=
  ∃ (s1 : Shared) (H1 : Hp) (o : Obj) (ex : List Addr) (n : Nat) (Pv : Nat → Value → Prop) (St : Nat → Heap → Prop) (xs : List V), Inv X pins σ H1 s1 ∧ it = .ref s1.heap.objs.size ∧ s2 = { s1 with heap := s1.heap.push o } ∧
    (∀ A' : Around, A'.handled = none → Walks X.prog X.w A' s1.heap.objs.size (s1.heap.objs.size :: ex) [s1.heap.objs.size] n Pv St) ∧ St 0 (s1.heap.push o) ∧ (∀ b ∈ ex, ∃ u, s1.heap.get? b = some u ∧ u.cls ≠ .none) ∧
    xs.length = n ∧ (∀ i v, Pv i v → ∃ x, xs[i]? = some x ∧ RelV x v) ∧ R xs H1
structure GSrc (X : Cx) (iter : Expr) (ws : L2.St → Hp → (List V → Hp → Prop) → Prop) : Prop where
  run : ∀ (pins : List (Addr × Obj)) (s : Shared) (σ : L2.St) (H : Hp) (R : List V → Hp → Prop), Inv X pins σ H s → ws σ H R →
    wpAny (model X.prog X.w) X.A (eval iter X.env) (fun v s1 => wpAny (model X.prog X.w) X.A (pyIter v) (SrcAt X pins σ R) X.xe s1) X.xe s
section
variable {X : Cx}
theorem vals_get {xs : List V} {us : List Value} (h : Vals xs us) : ∀ (i : Nat) (v : Value), us[i]? = some v → ∃ x, xs[i]? = some x ∧ RelV x v := by
  induction h with
  | nil => intro i v e; cases e
  | cons r _ ih =>
    intro i v e
    cases i with
    | zero => cases e; exact ⟨_, rfl, r⟩
    | succ i => exact ih i v e
theorem vals_len {xs : List V} {us : List Value} (h : Vals xs us) : xs.length = us.length := by
  induction h with
  | nil => rfl
  | cons _ _ ih => simp [ih]
/-- a tuple -/
theorem gsrc_tup {l : Expr} {tl : TE} (hl : PE X l tl) : GSrc X l fun σ H R => tl σ H fun v H1 => ∃ a xs, v = .ref a ∧ SqT X.K H1 a xs ∧ R xs H1 := by
  refine ⟨fun pins s σ H R I h => ?_⟩
  refine thn (hl.run pins s σ H _ I h) fun v s1 ⟨x, H1, I1, r1, q1⟩ => ?_
  obtain ⟨a, xs, e, hq, q⟩ := q1
  rw [e] at r1
  cases r1
  obtain ⟨its, rv, p, hz⟩ := I1.tuple hq
  have p' : s1.heap.IsTuple a its.toArray := p
  have lt : a < s1.heap.objs.size := by
    obtain ⟨_, e, _⟩ := p'
    exact Heap.lt_size e
  refine wpAny_pyIter_tuple p' ⟨s1, H1, _, [a], its.toArray.size, _, _, xs, I1, rfl, rfl, fun A' hA => Walks.tuple hA _ a (Nat.ne_of_lt lt) its.toArray, ⟨⟨_, Heap.get?_push_size _ rfl, rfl, rfl⟩, p'.push _⟩, fun b hb => ?_, ?_, fun i v hv => ?_, q⟩
  · rw [List.mem_singleton.mp hb]
    obtain ⟨u, e, hc, _⟩ := p'
    exact ⟨u, e, by rw [hc]; exact fun z => nomatch z⟩
  · rw [vals_len rv]
    simp
  · have hv : its.toArray[i]? = some v := hv
    exact vals_get rv i v (by simpa using hv)
def upto (n : Nat) : List V := (List.range n).map fun i => V.int ((i : Nat) : Int)
/-- range(a) -/
theorem gsrc_rng1 {a : Expr} {ta : TA} {p pos : Pos} (hg : Gl X "range") (hm : X.mg "range" = none) (ha : PA X [a] ta) (hs : starEach [a] X.env = [(false, eval a X.env)] := by rfl) :
    GSrc X (.Call (.Name "range" p) [a] [] pos) fun σ H R => ta σ H fun vs H1 => ∃ j : Int, vs = [.int j] ∧ -(2 ^ 62) ≤ j ∧ j < 2 ^ 62 ∧ R (upto j.toNat) H1 := by
  refine ⟨fun pins s σ H R I h => ?_⟩
  refine Call_ (ld_blt I hg hm boot_range (PyProof.Rows.callWith_type1 (thn (ha.run pos pins s σ H _ I h) fun us s1 ⟨vs, H1, I1, r1, q1⟩ => ?_) hs rfl))
  obtain ⟨j, e, q1, q2, q⟩ := q1
  subst e
  cases r1 with
  | cons r rr =>
    cases rr
    obtain ⟨t, rfl⟩ := r
    refine call_range_1 ?_
    refine wpAny_pyIter_range (IsRange.new ..) (small_one (by omega) (by omega) q1 q2) ?_
    refine ⟨_, H1, _, [], j.toNat, _, _, upto j.toNat, I1.kept fun b o e => Heap.get?_push_of_some _ e, rfl, rfl, fun A' hA => (Walks.range hA _ 0 1 j.toNat).bound, ?_, fun b hb => (nomatch hb), by simp [upto], fun i v hv => ?_, q⟩
    · have z1 : (0 : Int) + ((0 : Nat) : Int) * 1 = 0 := by omega
      have z2 : ((j.toNat : Nat) : Int) - ((0 : Nat) : Int) = Builtin.Range.rangeSize 0 j 1 := by
        rw [rangeSize_one]
        split <;> omega
      show IsRangeIter _ _ ((0 : Int) + ((0 : Nat) : Int) * 1) (((j.toNat : Nat) : Int) - ((0 : Nat) : Int)) 1
      rw [z1, z2]
      exact Heap.get?_push_size _ rfl
    · obtain ⟨hi, t, rfl⟩ := hv
      refine ⟨.int ((i : Nat) : Int), by simp [upto, hi], t, ?_⟩
      have z : (0 : Int) + (i : Int) * 1 = (i : Int) := by omega
      rw [z]
end
end GeX
end
section
/-! ZGc: tuple() of a generator expression, the rule. -/
namespace GeX
open PySem PySem.Spec PyProof.Rows L2 LamX
section
variable {X : Cx}
/-- a value in the generator's frame -/
def QEv (X : Cx) (scope : Scope) (x : Str) (P : Addr) (s1 : Shared) (e : Expr) (xv r : V) : Prop :=
  ∀ (C : Addr) (code : Value) (bi : Addr) (A' : Around) (E' : Value → Shared → Prop) (v : Value) (t : Shared) (m₂ : Str → Option Value), A'.handled = none → RelV xv v → t.heap.Ns C m₂ → m₂ x = some v → (∀ b u, b ≠ P → s1.heap.get? b = some u → t.heap.get? b = some u) →
    wpAny (model X.prog X.w) A' (eval e (genEnv scope (cloFrom X.env.cells scope.names []) C code bi X.env)) (fun y s₃ => RelV r y ∧ Keeps t s₃) E' t
/-- the tests -/
def QTs (X : Cx) (scope : Scope) (x : Str) (P : Addr) (s1 : Shared) (ifs : List Expr) (xv : V) (b : Bool) : Prop :=
  ∀ (C : Addr) (code : Value) (bi : Addr) (A' : Around) (E' : Value → Shared → Prop) (v : Value) (t : Shared) (m₂ : Str → Option Value), A'.handled = none → RelV xv v → t.heap.Ns C m₂ → m₂ x = some v → (∀ b u, b ≠ P → s1.heap.get? b = some u → t.heap.get? b = some u) →
    wpAny (model X.prog X.w) A' (forIn ifs true fun c r => if r = true then do let ok ← PySem.isTrue c (genEnv scope (cloFrom X.env.cells scope.names []) C code bi X.env) (eval c (genEnv scope (cloFrom X.env.cells scope.names []) C code bi X.env)); pure (ForInStep.yield ok) else pure (ForInStep.yield r)) (fun ok s₃ => ok = b ∧ Keeps t s₃) E' t
def Each (p : V → Option V → Prop) : List V → List (Option V) → Prop
  | [], [] => True
  | x :: xs, o :: os => p x o ∧ Each p xs os
  | _, _ => False
theorem Each.get {p : V → Option V → Prop} : ∀ {xs : List V} {os : List (Option V)}, Each p xs os → xs.length = os.length ∧ ∀ (i : Nat) x, xs[i]? = some x → ∃ o, os[i]? = some o ∧ p x o
  | [], [], _ => ⟨rfl, fun _ _ h => nomatch h⟩
  | [], _ :: _, h => h.elim
  | _ :: _, [], h => h.elim
  | y :: xs, o :: os, h => by
    obtain ⟨l, g⟩ := Each.get h.2
    refine ⟨by simp [l], fun i x hx => ?_⟩
    cases i with
    | zero => cases hx; exact ⟨o, rfl, h.1⟩
    | succ i => exact g i x hx
/-- what is asked of an item -/
def Item (X : Cx) (scope : Scope) (x : Str) (P : Addr) (s1 : Shared) (ifs : List Expr) (elt : Expr) (xv : V) (o : Option V) : Prop := match o with
  | none => QTs X scope x P s1 ifs xv false
  | some r => QTs X scope x P s1 ifs xv true ∧ QEv X scope x P s1 elt xv r
def tTupG (T : List (Addr × Str)) (ws : L2.St → Hp → (List V → Hp → Prop) → Prop) (W : L2.St → Hp → List V → List (Option V) → Prop) : TE := fun σ H Q => ws σ H fun xs H1 => Tabs T H1 ∧ ∃ os, W σ H1 xs os ∧
  (os.filterMap id).length ≤ sizeLine ∧ ∀ H2, ExtN H1 H2 → Tabs T H2 → ∀ a, H2 a = none → Q (.ref a) (upd H2 a (.tup (os.filterMap id)))
theorem vals_mk : ∀ {ys : List V} {us : List Value}, ys.length = us.length → (∀ (j : Nat) v, us[j]? = some v → ∃ y, ys[j]? = some y ∧ RelV y v) → Vals ys us
  | [], [], _, _ => .nil
  | [], _ :: _, h, _ => by simp at h
  | _ :: _, [], h, _ => by simp at h
  | y :: ys, u :: us, h, g => by
    obtain ⟨z, e, r⟩ := g 0 u rfl
    cases e
    exact .cons r (vals_mk (by simpa using h) fun j v hv => g (j + 1) v hv)
theorem res_map {os : List (Option V)} : os.filterMap id = (passing (fun i => match os[i]? with | some (some _) => true | _ => false) os.length 0).map fun i => match os[i]? with | some (some r) => r | _ => .non := by
  have e0 : os = (List.range os.length).map fun i => os.getD i none := by
    apply List.ext_getElem?
    intro i
    rw [List.getElem?_map]
    by_cases z : i < os.length
    · rw [List.getElem?_range z, List.getElem?_eq_getElem z]
      simp [z]
    · rw [List.getElem?_eq_none (by omega), List.getElem?_eq_none (by simp; omega)]
      rfl
  unfold passing
  rw [List.drop_zero]
  conv => lhs; rw [e0]
  rw [List.filterMap_map, ← List.filterMap_eq_map, List.filterMap_filter]
  refine Z.fm_congr fun i hi => ?_
  have hi := List.mem_range.mp hi
  show os.getD i none = _
  have e1 : os.getD i none = os[i] := by simp [hi]
  rw [e1]
  cases h : os[i] with
  | none => simp [hi, h]
  | some r => simp [hi, h]
theorem pe_tupG {T : List (Addr × Str)} {c P : Addr} {qn : Str} {elt iter : Expr} {x : Str} {ifs : List Expr} {px p pos gpos : Pos} {scope : Scope} {k : Nat} {ws : L2.St → Hp → (List V → Hp → Prop) → Prop} {W : L2.St → Hp → List V → List (Option V) → Prop}
    (hr : Room k X.A) (hg : Gl X "tuple") (hm : X.mg "tuple" = none) (TB : LamX.TabB X.base X.mg c P) (hcode : X.env.code = .ref c) (hqn : X.env.qual ++ "<genexpr>" = qn) (hmT : (P, qn) ∈ T) (hu : ∀ p ∈ T, p.1 = P → p.2 = qn)
    (S : GxR.GenS X.env scope x) (hsrc : GSrc X iter ws) (hel : ∀ pins σ H1 s1 xs os, Inv X pins σ H1 s1 → H1 P ≠ none → W σ H1 xs os → Each (Item X scope x P s1 ifs elt) xs os) (hs : ∀ v, genFold iter X.env v = pure v)
    (he : starEach [.GeneratorExp elt [⟨.Name x px, iter, ifs, 0⟩] scope gpos] X.env = (false, eval (.GeneratorExp elt [⟨.Name x px, iter, ifs, 0⟩] scope gpos) X.env) :: starEach [] X.env := by rfl) :
    PE X (.Call (.Name "tuple" p) [.GeneratorExp elt [⟨.Name x px, iter, ifs, 0⟩] scope gpos] [] pos) (tTupG T ws W) := by
  refine ⟨fun pins s σ H Q I h => ?_⟩
  have main : ∀ Q' : Value → Shared → Prop, (∀ (H1 : Hp) (os : List (Option V)) (n : Nat) (g : Addr) (s5 : Shared), os.length = n → (os.filterMap id).length ≤ sizeLine → (∀ H2, ExtN H1 H2 → Tabs T H2 → ∀ a, H2 a = none → Q (.ref a) (upd H2 a (.tup (os.filterMap id)))) →
      Rdy X T pins σ H1 (fun i => match os[i]? with | some (some _) => true | _ => false) (fun i v => ∃ r, os[i]? = some (some r) ∧ RelV r v) n g s5 → Q' (.ref g) s5) →
      wpAny (model X.prog X.w) X.A (eval (.GeneratorExp elt [⟨.Name x px, iter, ifs, 0⟩] scope gpos) X.env) Q' X.xe s := fun Q' hQ' => by
    refine wpAny_GeneratorExp_walksQ hr.hd S.co (closure_ok S.free) S.cell S.dot S.loc S.kind (by have := hr.dp; omega) ?_ hs
    refine wpAny_mono (hsrc.run pins s σ H _ I h) (fun xv sa ha => wpAny_mono ha (fun it s2 hh => ?_) fun _ _ e => e) fun _ _ e => e
    obtain ⟨s1, H1, o, ex, n, Pv, St, xs, I1, rfl, rfl, hW, hst, hex, hn, hPv, hT, os, hos, hlen, hQ⟩ := hh
    obtain ⟨ps, hP, _⟩ := id (hT _ hmT)
    have oldP : s1.heap.get? P = some { cls := .none, data := .fields ps } := I1.hok P _ hP
    have nP : H1 P ≠ none := by rw [hP]; exact fun z => nomatch z
    obtain ⟨hl, hall⟩ := (hel pins σ H1 s1 xs os I1 nP hos).get
    refine rest (T := T) (pz := fun i => match os[i]? with | some (some _) => true | _ => false) (F := fun i v => ∃ r, os[i]? = some (some r) ∧ RelV r v) (q := qn) I1 hr TB hcode hqn hmT hu hT hW hst (fun b hb => ?_) ?_ ?_ fun g s5 hR => ?_
    · obtain ⟨u, e, hc⟩ := hex b hb
      refine ⟨fun z => ?_, Heap.lt_size e⟩
      rw [z, oldP] at e
      cases e
      exact hc rfl
    · intro C code bi A' E' i v t m₂ hA hv hn2 hm2 hk
      obtain ⟨xv, ex, rx⟩ := hPv i v hv
      obtain ⟨ov, eo, hp⟩ := hall i xv ex
      cases ov with
      | none =>
        have e : (match os[i]? with | some (some _) => true | _ => false) = false := by rw [eo]
        dsimp only
        rw [e]
        exact hp C code bi A' E' v t m₂ hA rx hn2 hm2 hk
      | some r =>
        have e : (match os[i]? with | some (some _) => true | _ => false) = true := by rw [eo]
        dsimp only
        rw [e]
        exact hp.1 C code bi A' E' v t m₂ hA rx hn2 hm2 hk
    · intro C code bi A' E' i v t m₂ hA hv hp hn2 hm2 hk
      obtain ⟨xv, ex, rx⟩ := hPv i v hv
      obtain ⟨ov, eo, hp'⟩ := hall i xv ex
      cases ov with
      | none =>
        have e : (match os[i]? with | some (some _) => true | _ => false) = false := by rw [eo]
        have hp3 : (match os[i]? with | some (some _) => true | _ => false) = true := hp
        rw [e] at hp3
        cases hp3
      | some r => exact wpAny_mono (hp'.2 C code bi A' E' v t m₂ hA rx hn2 hm2 hk) (fun y s3 h => ⟨⟨r, eo, h.1⟩, h.2⟩) fun _ _ e => e
    · exact hQ' H1 os n g s5 (hl.symm.trans hn) hlen hQ hR
  refine Call_ (ld_blt I hg hm boot_tuple (PyProof.Rows.callWith_type1 ?_ he rfl))
  rw [he]
  refine Calls.spliced_cons (main _ fun H1 os n g s5 hn hlen hQ hR => Calls.spliced_nil ?_)
  obtain ⟨fp, wr, G, St2, W2, hst2, hty, hgf, hfp, hmv⟩ := hR
  have em := res_map (os := os)
  rw [hn] at em
  have ln : (passing (fun i => match os[i]? with | some (some _) => true | _ => false) n 0).length = (os.filterMap id).length := by
    rw [em, List.length_map]
  refine call_tuple_gen (hsz := by rw [ln]; exact hlen) W2.in4_3 hty hst2 hfp hgf fun s' acc hm' hacc => ?_
  obtain ⟨H2, hE, hT2, I2⟩ := hmv s' hm'
  have hv : Vals (os.filterMap id) acc.toList := by
    refine vals_mk (by rw [← ln]; exact hacc.1.symm) fun j v hj => ?_
    obtain ⟨i, hi, r, e2, e3⟩ := hacc.2 j v (by simpa using hj)
    refine ⟨r, ?_, e3⟩
    rw [em, List.getElem?_map, hi]
    show some (match os[i]? with | some (some r) => r | _ => .non) = some r
    rw [e2]
  have z := laid_tup (Q := Q) (k := s'.toks) I2 hv hlen fun a ha => hQ H2 hE hT2 a ha
  have ea : acc.toList.toArray = acc := by simp
  rw [ea] at z
  exact z
end
end GeX
end
section
/-! ZGd: values and tests in a generator's frame. -/
namespace GeX
open PySem PySem.Spec PyProof.Rows L2 LamX
section
variable {X : Cx} {scope : Scope} {x : Str} {P : Addr} {s1 : Shared} {a b : Expr} {xv y z r : V} {pos p : Pos}
theorem keeps_at {t : Shared} (k : Nat) : Keeps t { t with toks := k } := GxR.keeps_tok t k
theorem keeps_two {s t u : Shared} (h : Keeps s t) (g : Keeps t u) : Keeps s u := by
  obtain ⟨h1, k1, rfl, c1⟩ := h
  obtain ⟨h2, k2, rfl, c2⟩ := g
  exact ⟨h2, k2, rfl, fun b o e => c2 b o (c1 b o e)⟩
theorem QEv.own (S : GxR.GenS X.env scope x) (hd : (x == ("__debug__" : Str)) = false) : QEv X scope x P s1 (.Name x p) xv xv := by
  intro C code bi A' E' v t m₂ hA rx hn hm hk
  exact wpAny_Name (wpAny_loadName_local S.kind S.loc hn hm ⟨rx, GxR.keeps_refl _⟩) hd
theorem QEv.free {pins : List (Addr × Obj)} {σ : L2.St} {H1 : Hp} {i : Nat} {n : Str} (I : Inv X pins σ H1 s1) (hP : H1 P ≠ none) (S : GxR.GenS X.env scope x) (hN : X.N[i]? = some n) (hv : Vis X.env.scope n) (hs : σ[i]? = some (some y)) (hf : scope.names.lookup n = some .free) (hc : X.env.kindOf n = some .cell ∨ X.env.kindOf n = some .free)
    (hd : (n == ("__debug__" : Str)) = false) (hcd : (n == ("__classdict__" : Str)) = false) : QEv X scope x P s1 (.Name n p) xv y := by
  intro C code bi A' E' v t m₂ hA rx hn hm hk
  obtain ⟨m, hns, hl⟩ := I.loc
  obtain ⟨u, ru, lk⟩ := hl i n y hN hs hv
  have lc : ∃ c, X.env.cells.lookup n = some c ∧ s1.heap.IsCell c (some u) := by
    rcases lk with ⟨h1, _⟩ | ⟨_, h⟩
    · rcases hc with z | z <;> rw [z] at h1 <;> cases h1
    · exact h
  obtain ⟨c, ec, hcell⟩ := lc
  have hfr : ∀ y ∈ scope.names, y.2 = .free → ∃ c, X.env.cells.lookup y.1 = some c := S.free
  have e2 := NdefX.clo_has hfr (PySem.mem_of_lookup hf) ec
  have ne : c ≠ P := fun e => hP (by rw [← e]; exact I.freeC n c ec)
  have hcell' : t.heap.IsCell c (some u) := by
    obtain ⟨o, ho, hdt⟩ := hcell
    exact ⟨o, hk c o ne ho, hdt⟩
  exact wpAny_Name (wpAny_loadName_free S.kind hf e2 hcell' ⟨ru, GxR.keeps_refl _⟩ hcd) hd
theorem QEv.int {i : Int} {k : Nat} : QEv X scope x P s1 (.Constant (.int i) k p) xv (.int i) := by
  intro C code bi A' E' v t m₂ hA rx hn hm hk
  exact wpAny_Constant_int ⟨⟨_, rfl⟩, keeps_at _⟩
theorem QEv.add {i j : Int} (ha : QEv X scope x P s1 a xv (.int i)) (hb : QEv X scope x P s1 b xv (.int j)) : QEv X scope x P s1 (.BinOp a .Add b pos) xv (.int (i + j)) := by
  intro C code bi A' E' v t m₂ hA rx hn hm hk
  refine wpAny_BinOp (wpAny_mono (ha C code bi A' E' v t m₂ hA rx hn hm hk) (fun u s2 h2 => ?_) fun _ _ e => e)
  obtain ⟨⟨t1, rfl⟩, k2⟩ := h2
  obtain ⟨h', tk, rfl, c1⟩ := id k2
  refine wpAny_mono (hb C code bi A' E' v _ m₂ hA rx (hn.keeps c1) hm fun b u n e => c1 b u (hk b u n e)) (fun w s3 h3 => ?_) fun _ _ e => e
  obtain ⟨⟨t2, rfl⟩, k3⟩ := h3
  exact add_int ⟨⟨_, rfl⟩, keeps_two (keeps_two k2 k3) (keeps_at _)⟩
/-- a tuple that stands -/
theorem tup_at {pins : List (Addr × Obj)} {σ : L2.St} {H1 : Hp} {q : Addr} {xs : List V} {t : Shared} (I : Inv X pins σ H1 s1) (hq : SqT X.K H1 q xs) (oldP : ∃ o, s1.heap.get? P = some o ∧ o.cls = .none) (hk : ∀ b u, b ≠ P → s1.heap.get? b = some u → t.heap.get? b = some u) : ∃ its, Vals xs its ∧ IsTup t.heap q its.toArray ∧ its.length ≤ sizeLine := by
  obtain ⟨its, rv, pl, hz⟩ := I.tuple hq
  obtain ⟨o, ho, hc, n, hd⟩ := id pl
  have ne : q ≠ P := fun e => by
    obtain ⟨o', ho', hc'⟩ := oldP
    rw [e, ho'] at ho
    cases ho
    rw [hc'] at hc
    cases hc
  exact ⟨its, rv, ⟨o, hk q o ne ho, hc, n, hd⟩, by rw [← vals_len rv]; exact hz⟩
theorem QEv.ix {pins : List (Addr × Obj)} {σ : L2.St} {H1 : Hp} {q : Addr} {xs : List V} {i : Int} (I : Inv X pins σ H1 s1) (oldP : ∃ o, s1.heap.get? P = some o ∧ o.cls = .none) (ha : QEv X scope x P s1 a xv (.ref q)) (hb : QEv X scope x P s1 b xv (.int i)) (hq : SqT X.K H1 q xs) (he : atI xs i = some r) (hs : PlainIxT b) : QEv X scope x P s1 (.Subscript a b pos) xv r := by
  intro C code bi A' E' v t m₂ hA rx hn hm hk
  refine Subscript_ (wpAny_mono (ha C code bi A' E' v t m₂ hA rx hn hm hk) (fun u s2 h2 => ?_) fun _ _ e => e)
  obtain ⟨ru, k2⟩ := h2
  cases ru
  obtain ⟨h', tk, rfl, c1⟩ := id k2
  refine wpAny_mono (hb C code bi A' E' v _ m₂ hA rx (hn.keeps c1) hm fun b u n e => c1 b u (hk b u n e)) (fun w s3 h3 => ?_) fun _ _ e => e
  obtain ⟨⟨t2, rfl⟩, k3⟩ := h3
  obtain ⟨h3', tk3, rfl, c3⟩ := id k3
  obtain ⟨its, rv, pl, hz⟩ := tup_at (t := { t with heap := h3', toks := tk3 }) I hq oldP fun b u n e => c3 b u (c1 b u (hk b u n e))
  obtain ⟨j, z1, z2, z3, z4, z5⟩ := atI_get he
  obtain ⟨w, ew, rw'⟩ := rv.get z2
  have hl := rv.length
  have hn := line63
  refine subscriptTail_builtinR (x := w) pl.typeIs slot_tuple_getitem.lookup ?_ (hs _ _)
  refine getItem_tuple (j := j) pl ?_ ?_ ?_ (by simpa using ew) ⟨rfl, rw', keeps_two k2 k3⟩
  · have := hz; omega
  · have := hz; omega
  · rw [List.size_toArray, ← hl]
    exact z1
/-- a comparison that leaves all as it is -/
def CmpQ (X : Cx) (P : Addr) (s1 : Shared) (op : CmpOp) (y z : V) (bb : Bool) : Prop :=
  ∀ (A' : Around) (E' : Value → Shared → Prop) (u w : Value) (t : Shared) (Q : Value → Shared → Prop), RelV y u → RelV z w → (∀ b u, b ≠ P → s1.heap.get? b = some u → t.heap.get? b = some u) → Q (.bool bb) t → wpAny (model X.prog X.w) A' (compareOp op u w) Q E' t
theorem CmpQ.gt {i j : Int} : CmpQ X P s1 .Gt (.int i) (.int j) (decide (j < i)) := by
  intro A' E' u w t Q ru rw' hk q
  obtain ⟨t1, rfl⟩ := ru
  obtain ⟨t2, rfl⟩ := rw'
  exact gt_int q
theorem CmpQ.notin {pins : List (Addr × Obj)} {σ : L2.St} {H1 : Hp} {q : Addr} {xs : List V} (I : Inv X pins σ H1 s1) (oldP : ∃ o, s1.heap.get? P = some o ∧ o.cls = .none) (hq : SqT X.K H1 q xs) (fy : flatV y = true) (fs : xs.all flatV = true) : CmpQ X P s1 .NotIn y (.ref q) (!inV y xs) := by
  intro A' E' u w t Q ru rw' hk qq
  cases rw'
  obtain ⟨its, rv, pl, hz⟩ := tup_at I hq oldP hk
  refine SeqAt.notIn_tupleAt (eqU y) pl (fun w hw => mem_eqAt ru fy rv fs w (by simpa using hw)) ?_
  have e : (!its.toArray.any (eqU y)) = !inV y xs := by
    rw [show its.toArray.any (eqU y) = its.any (eqU y) by simp, any_eqU rv fs]
    rfl
  rw [e]
  exact qq
/-- no test -/
theorem QTs.none_ : QTs X scope x P s1 [] xv true := by
  intro C code bi A' E' v t m₂ hA rx hn hm hk
  rw [List.forIn_nil]
  exact wpAny_pure ⟨rfl, GxR.keeps_refl _⟩
/-- one comparison -/
theorem QTs.cmp {op : CmpOp} {bb : Bool} (ha : QEv X scope x P s1 a xv y) (hb : QEv X scope x P s1 b xv z) (ho : CmpQ X P s1 op y z bb) (hmk : behindInMarks op b = false) : QTs X scope x P s1 [.Compare a [op] [b] pos] xv bb := by
  intro C code bi A' E' v t m₂ hA rx hn hm hk
  rw [List.forIn_cons]
  refine wpAny_bind ?_
  rw [if_pos rfl]
  refine wpAny_bind (wpAny_isTrue_Compare1 (wpAny_mono (ha C code bi A' E' v t m₂ hA rx hn hm hk) (fun u s2 h2 => ?_) fun _ _ e => e) hmk)
  obtain ⟨ru, k2⟩ := h2
  obtain ⟨h', tk, rfl, c1⟩ := id k2
  refine wpAny_mono (hb C code bi A' E' v _ m₂ hA rx (hn.keeps c1) hm fun b u n e => c1 b u (hk b u n e)) (fun w s3 h3 => ?_) fun _ _ e => e
  obtain ⟨rw', k3⟩ := h3
  obtain ⟨h3', tk3, rfl, c3⟩ := id k3
  refine ho A' E' u w _ _ ru rw' (fun b u n e => c3 b u (c1 b u (hk b u n e))) (wpAny_truthy_bool (wpAny_pure ?_))
  dsimp only
  rw [List.forIn_nil]
  exact wpAny_pure ⟨rfl, keeps_two k2 k3⟩
end
end GeX
end
section
/-! ZGe: tuple() of a generator expression by data. -/
namespace Z
open PySem PySem.Spec PyProof.Rows L2 LamX
/-- the meaning of a generator's value by the machine's values -/
inductive GVr (K : PySem.W.Frag) (σ : L2.St) (H : Hp) (xv : V) : GE → V → Prop
  | x : GVr K σ H xv .x xv
  | v {i : Nat} {y : V} : σ[i]? = some (some y) → GVr K σ H xv (.v i) y
  | k (i : Int) : GVr K σ H xv (.k i) (.int i)
  | add {a b : GE} {i j : Int} : GVr K σ H xv a (.int i) → GVr K σ H xv b (.int j) → GVr K σ H xv (.add a b) (.int (i + j))
  | ix {a b : GE} {q : Addr} {xs : List V} {k : Int} {r : V} : GVr K σ H xv a (.ref q) → GVr K σ H xv b (.int k) → SqT K H q xs → atI xs k = some r → GVr K σ H xv (.ix a b) r
  | same {a : GE} {q : Addr} {xs : List V} : GVr K σ H xv a (.ref q) → SqT K H q xs → GVr K σ H xv (.same a) (.ref q)
inductive GTr (K : PySem.W.Frag) (σ : L2.St) (H : Hp) (xv : V) : GT → Bool → Prop
  | tt : GTr K σ H xv .tt true
  | gt {a b : GE} {i j : Int} : GVr K σ H xv a (.int i) → GVr K σ H xv b (.int j) → GTr K σ H xv (.gt a b) (decide (j < i))
  | notin {a b : GE} {y : V} {q : Addr} {xs : List V} : GVr K σ H xv a y → GVr K σ H xv b (.ref q) → SqT K H q xs → flatV y = true → xs.all flatV = true → GTr K σ H xv (.notin a b) (!inV y xs)
def GOr (K : PySem.W.Frag) (σ : L2.St) (H : Hp) (t : GT) (e : GE) (xv : V) : Option V → Prop
  | none => GTr K σ H xv t false
  | some r => GTr K σ H xv t true ∧ GVr K σ H xv e r
section
variable {g : Gl0} {E : XK} {X : Cx} {ρ : List Addr} {H : Hp} {S : Sto} {σ : L2.St} {env : Env} {xv : V} {d : D}
theorem gv_of (he : EnvR g.K ρ H σ env) (hx : DV g.K ρ H xv d) : ∀ {e : GE} {y : D}, gev env d e = some y → ∃ v, GVr g.K σ H xv e v ∧ DV g.K ρ H v y
  | .x, y, h => by
    cases h
    exact ⟨xv, .x, hx⟩
  | .v i, y, h => by
    unfold gev at h
    split at h
    · rename_i z q
      cases h
      obtain ⟨v, h1, h2⟩ := he.get i _ q
      exact ⟨v, .v h1, h2⟩
    · cases h
  | .k i, y, h => by
    cases h
    exact ⟨_, .k i, .int i⟩
  | .add a b, y, h => by
    unfold gev at h
    split at h
    · rename_i i j h1 h2
      cases h
      obtain ⟨v, g1, d1⟩ := gv_of he hx h1
      obtain ⟨u, g2, d2⟩ := gv_of he hx h2
      cases d1
      cases d2
      exact ⟨_, .add g1 g2, .int _⟩
    · cases h
  | .ix a b, y, h => by
    unfold gev at h
    split at h
    · rename_i l k h1 h2
      obtain ⟨v, g1, d1⟩ := gv_of he hx h1
      obtain ⟨u, g2, d2⟩ := gv_of he hx h2
      cases d2
      cases d1 with
      | tup hs hd =>
        obtain ⟨w, e1, e2⟩ := at_of hd h
        exact ⟨w, .ix g1 g2 hs e1, e2⟩
    · cases h
  | .same a, y, h => by
    unfold gev at h
    split at h
    · rename_i l h1
      cases h
      obtain ⟨v, g1, d1⟩ := gv_of he hx h1
      cases d1 with
      | tup hs hd => exact ⟨_, .same g1 hs, .tup hs hd⟩
    · cases h
theorem gt_of (he : EnvR g.K ρ H σ env) (hx : DV g.K ρ H xv d) : ∀ {t : GT} {b : Bool}, gtst env d t = some b → GTr g.K σ H xv t b
  | .tt, b, h => by
    cases h
    exact .tt
  | .gt a c, b, h => by
    have h : (match gev env d a, gev env d c with
      | some (.int i), some (.int j) => some (decide (j < i))
      | _, _ => none) = some b := h
    split at h
    · rename_i i j h1 h2
      cases h
      obtain ⟨v, g1, d1⟩ := gv_of he hx h1
      obtain ⟨u, g2, d2⟩ := gv_of he hx h2
      cases d1
      cases d2
      exact .gt g1 g2
    · cases h
  | .notin a c, b, h => by
    have h : (match gev env d a, gev env d c with
      | some x, some (.tup l) => if (flat x && l.all flat) = true then some (!memF x l) else none
      | _, _ => none) = some b := h
    split at h
    · rename_i y l h1 h2
      split at h
      · rename_i hc
        cases h
        obtain ⟨v, g1, d1⟩ := gv_of he hx h1
        obtain ⟨u, g2, d2⟩ := gv_of he hx h2
        rw [Bool.and_eq_true] at hc
        cases d2 with
        | tup hs hd =>
          rw [← mem_iff d1 hd]
          exact .notin g1 g2 hs (by rw [flat_iff d1]; exact hc.1) (by rw [flat_all hd]; exact hc.2)
      · cases h
    · cases h
theorem gone_of {t : GT} {e : GE} {o : Option D} (he : EnvR g.K ρ H σ env) (hx : DV g.K ρ H xv d) (h : gOne env t e d = some o) : (o = none ∧ GOr g.K σ H t e xv none) ∨ ∃ y v, o = some y ∧ DV g.K ρ H v y ∧ GOr g.K σ H t e xv (some v) := by
  unfold gOne at h
  split at h
  · rename_i h1
    cases q : gev env d e with
    | none => rw [q] at h; cases h
    | some y =>
      rw [q] at h
      cases h
      obtain ⟨v, h2, h3⟩ := gv_of he hx q
      exact .inr ⟨y, v, rfl, h3, gt_of he hx h1, h2⟩
  · rename_i h1
    cases h
    exact .inl ⟨rfl, gt_of he hx h1⟩
  · cases h
theorem gall_of {t : GT} {e : GE} (he : EnvR g.K ρ H σ env) : ∀ {xs : List V} {ds : List D} {os : List (Option D)}, DVs g.K ρ H xs ds → gAll env t e ds = some os → ∃ vs, GeX.Each (GOr g.K σ H t e) xs vs ∧ DVs g.K ρ H (vs.filterMap id) (os.filterMap id)
  | _, _, os, .nil, h => by
    cases h
    exact ⟨[], trivial, .nil⟩
  | _, _, os, .cons hv hr, h => by
    unfold gAll at h
    split at h
    · rename_i o os' h1 h2
      cases h
      obtain ⟨vs, e1, e2⟩ := gall_of he hr h2
      rcases gone_of he hv h1 with ⟨rfl, z⟩ | ⟨y, v, rfl, z, w⟩
      · exact ⟨none :: vs, ⟨z, e1⟩, e2⟩
      · exact ⟨some v :: vs, ⟨w, e1⟩, .cons z e2⟩
    · cases h
/-- a source by data -/
def GSr (X : Cx) (g : Gl0) (E : XK) (iter : Expr) (fl : Env → M (List D)) : Prop := ∃ ws, GeX.GSrc X iter ws ∧ ∀ σ H R, (∃ S ρ env, Rel g.K g.T S ρ H ∧ EnvR g.K ρ H σ env ∧ Fin g E ρ H (fl env S) fun ds S' ρ' H' => Rel g.K g.T S' ρ' H' → ∀ xs, DVs g.K ρ' H' xs ds → R xs H') → ws σ H R
theorem gsr_val {l : Expr} {fa : Env → M D} (hK : X.K = g.K) (ha : PE X l (tD g E fa)) : GSr X g E l fun env => bd (fa env) fun x => match x with
    | .tup l => ret l
    | _ => stuck := by
  refine ⟨_, GeX.gsrc_tup ha, fun σ H R ⟨S, ρ, env, hr, he, h⟩ => ⟨S, ρ, env, hr, he, h.bd.imp fun d S1 ρ1 H1 x r1 q v hv => ?_⟩⟩
  rw [hK]
  cases hv with
  | tup hs hd => exact ⟨_, _, rfl, hs, Fin.ret r1 q r1 _ hd⟩
  | _ => exact q.elim
theorem upto_dvs {j : Int} {n : Nat} (e : n = j.toNat) : DVs g.K ρ H (GeX.upto n) (ranges 0 j) := by
  subst e
  refine DVs.of_get ?_ fun i v d h1 h2 => ?_
  · unfold GeX.upto
    rw [ranges_len]
    simp
  · obtain ⟨e1, e2⟩ := ranges_get h2
    subst e1
    unfold GeX.upto at h1
    have e3 : i < j.toNat := by omega
    rw [List.getElem?_map, List.getElem?_range e3] at h1
    cases h1
    have e4 : (0 : Int) + (i : Int) = (i : Int) := by omega
    rw [e4]
    exact .int _
theorem gsr_rg1 {a : Expr} {fa : Env → M D} {p pos : Pos} (hg : Gl X "range") (hm : X.mg "range" = none) (ha : PE X a (tD g E fa)) (hs : starEach [a] X.env = (false, eval a X.env) :: starEach [] X.env) :
    GSr X g E (.Call (.Name "range" p) [a] [] pos) fun env => bd (fa env) fun x => match x with
      | .int j => if rgok j = true then ret (ranges 0 j) else stuck
      | _ => stuck := by
  refine ⟨_, GeX.gsrc_rng1 hg hm (da_cons ha da_nil hs) hs, fun σ H R ⟨S, ρ, env, hr, he, h⟩ => ⟨S, ρ, env, hr, he, ?_⟩⟩
  have z : Fin g E ρ H (bd (bd (fa env) fun x => bd (ret []) fun xs => ret (x :: xs)) (fun ds => match ds with
      | [.int j] => if rgok j = true then ret (ranges 0 j) else stuck
      | _ => stuck) S) fun ds S' ρ' H' => Rel g.K g.T S' ρ' H' → ∀ xs, DVs g.K ρ' H' xs ds → R xs H' := by
    have e : (bd (bd (fa env) fun x => bd (ret []) fun xs => ret (x :: xs)) (fun ds => match ds with
      | [.int j] => if rgok j = true then ret (ranges 0 j) else stuck
      | _ => stuck) S) = (bd (fa env) (fun x => match x with
      | .int j => if rgok j = true then ret (ranges 0 j) else stuck
      | _ => stuck) S) := by
      unfold bd
      cases fa env S with
      | ok a S' =>
        show _ = _
        cases a <;> rfl
      | exc c w S' => rfl
      | stuck => rfl
    rw [e]
    exact h
  refine (Fin.bd z).imp fun ds S1 ρ1 H1 x r1 q vs hv => ?_
  have go : ∀ {v : V} {d : D}, DV g.K ρ1 H1 v d → vs = [v] → ds = [d] → ∃ j : Int, vs = [.int j] ∧ -(2 ^ 62) ≤ j ∧ j < 2 ^ 62 ∧ R (GeX.upto j.toNat) H1 := fun {v d} hw e1 e2 => by
    subst e1 e2
    cases hw with
    | int j =>
      have q : Fin g E ρ1 H1 ((if rgok j = true then ret (ranges 0 j) else stuck : M (List D)) S1) _ := q
      by_cases hj : rgok j = true
      · rw [if_pos hj] at q
        obtain ⟨a1, a2⟩ := rgok_iff hj
        exact ⟨j, rfl, a1, a2, Fin.ret r1 q r1 _ (upto_dvs rfl)⟩
      · rw [if_neg hj] at q
        exact q.elim
    | _ => exact False.elim q
  cases hv with
  | nil => exact q.elim
  | cons h t =>
    cases t with
    | nil => exact go h rfl rfl
    | cons h2 t2 =>
      exfalso
      rename_i d1 _ _ _ _
      cases d1 <;> exact q
/-- THE RULE -/
theorem de_tupG {c P : Addr} {elt iter : Expr} {x : Str} {ifs : List Expr} {px p pos gpos : Pos} {scope : Scope} {k : Nat} {fl : Env → M (List D)} {t : GT} {ge : GE} (hK : X.K = g.K)
    (hr : Room k X.A) (hg : Gl X "tuple") (hm : X.mg "tuple" = none) (TB : LamX.TabB X.base X.mg c P) (hcode : X.env.code = .ref c) (hmT : (P, X.env.qual ++ "<genexpr>") ∈ g.T) (hu : ∀ p ∈ g.T, p.1 = P → p.2 = X.env.qual ++ "<genexpr>")
    (Sc : GxR.GenS X.env scope x) (hsrc : GSr X g E iter fl) (hs : ∀ v, genFold iter X.env v = pure v)
    (hel : ∀ pins σ H1 s1 xv, Inv X pins σ H1 s1 → H1 P ≠ none → (∃ o, s1.heap.get? P = some o ∧ o.cls = .none) → (∀ b, GTr g.K σ H1 xv t b → GeX.QTs X scope x P s1 ifs xv b) ∧ ∀ y, GVr g.K σ H1 xv ge y → GeX.QEv X scope x P s1 elt xv y) :
    PE X (.Call (.Name "tuple" p) [.GeneratorExp elt [⟨.Name x px, iter, ifs, 0⟩] scope gpos] [] pos) (tD g E fun env => bd (fl env) fun l => match gAll env t ge l with
      | some os => newT (os.filterMap id)
      | none => stuck) := by
  obtain ⟨ws, h1, h2⟩ := hsrc
  refine (GeX.pe_tupG (T := g.T) (W := fun σ H1 xs os => Tabs g.T H1 ∧ GeX.Each (GOr g.K σ H1 t ge) xs os) hr hg hm TB hcode rfl hmT hu Sc h1 (fun pins σ H1 s1 xs os I nP hW => ?_) hs).imp fun σ H Q ⟨S, ρ, env, hr, he, h⟩ => ?_
  · obtain ⟨hT, hW⟩ := hW
    obtain ⟨ps, hP, _⟩ := id (hT _ hmT)
    have old : ∃ o, s1.heap.get? P = some o ∧ o.cls = .none := ⟨_, I.hok P _ hP, rfl⟩
    have go : ∀ {xs : List V} {os : List (Option V)}, GeX.Each (GOr g.K σ H1 t ge) xs os → GeX.Each (GeX.Item X scope x P s1 ifs elt) xs os := by
      intro xs
      induction xs with
      | nil => intro os h; cases os with
        | nil => trivial
        | cons o os => exact h.elim
      | cons y xs ih =>
        intro os h
        cases os with
        | nil => exact h.elim
        | cons o os =>
          obtain ⟨q1, q2⟩ := hel pins σ H1 s1 y I nP old
          refine ⟨?_, ih h.2⟩
          cases o with
          | none => exact q1 _ h.1
          | some r => exact ⟨q1 _ h.1.1, q2 _ h.1.2⟩
    exact go hW
  · refine h2 σ H _ ⟨S, ρ, env, hr, he, (Fin.bd h).imp fun ds S1 ρ1 H1 x r1 q r1' xs hx => ?_⟩
    cases ho : gAll env t ge ds with
    | none =>
      rw [ho] at q
      exact False.elim q
    | some os =>
      rw [ho] at q
      have q : Fin g E ρ1 H1 (newT (os.filterMap id) S1) _ := q
      obtain ⟨vs, e1, e2⟩ := gall_of (he.ex hr x) hx ho
      unfold newT at q
      split at q
      · rename_i hz
        refine ⟨r1.tab, vs, ⟨r1.tab, e1⟩, by rw [e2.length]; exact hz, fun H2 eN T2 a ha => ?_⟩
        have x1 : Ex ρ1 H1 ρ1 H2 := ⟨⟨[], by simp⟩, fun b o h n m => ⟨m, eN b o h n⟩⟩
        have r2 := Rel.extN r1 eN T2
        exact q ρ1 _ (x1.trans (Ex.new ha)) (r2.new ha) _ (tup_new r2 ha (e2.ex r1 x1))
      · exact q.elim
end
end Z
end
section
/-! ZCo: from the text to the core language. -/
namespace Z
open PySem
/-- what a global name stands for -/
inductive GRef where | fn (i np : Nat) | cls (k : Nat) | con (d : D) | heard (h : Nat)
/-- where an expression stands -/
structure CC where
  N : List Str
  sc : Scope
  gl : List (Str × GRef)
  fn : Str → Bool
  lam : Bool
  gen : Bool
def idx : List Str → Str → Option Nat
  | [], _ => none
  | y :: r, x => if y = x then some 0 else (idx r x).map (· + 1)
def CC.k (cc : CC) (x : Str) : Option NameKind := cc.sc.names.lookup x
def CC.vis (cc : CC) (x : Str) : Bool := decide (cc.k x = some .local) || decide (cc.k x = some .cell) || decide (cc.k x = some .free)
def dbg (x : Str) : Bool := x == ("__debug__" : Str) || x == ("__classdict__" : Str)
def CC.ix (cc : CC) (x : Str) : Option Nat := if cc.vis x && !dbg x then idx cc.N x else none
/-- a name that may be stored -/
def CC.st (cc : CC) (x : Str) : Option Nat := if (decide (cc.k x = some .local) || (cc.fn x && decide (cc.k x = some .cell))) && !dbg x then idx cc.N x else none
def CC.isG (cc : CC) (x : Str) : Bool := decide (cc.k x = some .globalImplicit)
/-- a global name of the program -/
def CC.ref (cc : CC) (x : Str) : Option GRef := if cc.isG x && !dbg x then cc.gl.lookup x else none
/-- a built-in's name that nothing hides -/
def CC.blt (cc : CC) (x : Str) : Bool := cc.isG x
def isStar : Expr → Bool
  | .Starred .. => true
  | _ => false
/-- an expression whose truth is asked plainly -/
def plainT : Expr → Bool
  | .UnaryOp .Not _ _ | .BoolOp .. | .IfExp .. | .Compare .. => false
  | _ => true
/-- an expression that is no test in its form -/
def vOnly : Expr → Bool
  | .Name .. | .Call .. | .Subscript .. | .Constant .. | .BinOp .. | .Tuple .. | .List .. | .ListComp .. => true
  | _ => false
def isComp : Expr → Bool
  | .ListComp .. | .SetComp .. | .DictComp .. => true
  | _ => false
def isCall : Expr → Bool
  | .Call .. => true
  | _ => false
def isSet : Expr → Bool
  | .Set .. => true
  | _ => false
def isSlice : Expr → Bool
  | .Slice .. => true
  | _ => false
def mapO {α β : Type} (f : α → Option β) : List α → Option (List β)
  | [] => some []
  | x :: r => match f x, mapO f r with
    | some y, some ys => some (y :: ys)
    | _, _ => none
def bopOf : Operator → Option Bop
  | .Add => some .add | .Sub => some .sub | .Mult => some .mul | .FloorDiv => some .div | .Mod => some .mod | .Pow => some .pow
  | _ => none
def copOf : CmpOp → Option Cop
  | .Lt => some .lt | .LtE => some .le | .Gt => some .gt | .GtE => some .ge | .Eq => some .eq | .NotEq => some .ne | .Is => some .is | .IsNot => some .isnot | .In => some .isin | .NotIn => some .notin
def conOf : Const → Option D
  | .none => some .non | .bool b => some (.bl b) | .int i => some (.int i) | .str s => some (.str s)
  | _ => none
/-- a built-in of one argument -/
def p1Of (x : Str) : Option P1 :=
  if x = "len" then some .len else if x = "int" then some .int else if x = "bool" then some .bool else if x = "abs" then some .abs else if x = "min" then some .min else if x = "max" then some .max else if x = "sum" then some .sum else if x = "str" then some .str else none
def p2Of (x : Str) : Option P2 := if x = "max" then some .max else if x = "min" then some .min else none
def tyOf (x : Str) : Option P1 := if x = "int" then some .isInt else if x = "bool" then some .isBool else if x = "str" then some .isStr else if x = "tuple" then some .isTup else if x = "list" then some .isLst else none
def stX (cc : CC) : Expr → Option Nat
  | .Name x _ => cc.st x
  | _ => none
def tgOf (cc : CC) : Expr → Option T
  | .Name x _ => (cc.st x).map .nm
  | .Tuple es _ _ => (mapO (stX cc) es).bind fun is => if es.length ≤ 30 then some (.tp is) else none
  | _ => none
/-- the names of a target -/
def tgNames : Expr → List Str
  | .Name x _ => [x]
  | .Tuple es _ _ => es.filterMap fun e => match e with
      | .Name x _ => some x
      | _ => none
  | _ => []
def boolX (f : Expr → Option E) (op : BoolOp) : List Expr → Option E
  | [] => none
  | a :: r => match r with
    | [] => f a
    | _ :: _ => match f a, boolX f op r with
      | some x, some y => some (match op with
        | .And => .an x y
        | .Or => .or x y)
      | _, _ => none
def iterX (f : Expr → Option E) (cc : CC) (tg : Expr) (e : Expr) : Option I := match e with
  | .Call (.Name x _) [a] [] _ => if isStar a then none else
      if x = "range" && cc.blt x then (f a).map .rg1
      else if x = "enumerate" && cc.blt x then (match tg with
        | .Tuple .. => (f a).map .enum
        | _ => none)
      else (f e).map .val
  | .Call (.Name x _) [a, b] [] _ => if x = "range" && cc.blt x then (if isStar a || isStar b then none else match f a, f b with
      | some u, some v => some (.rg2 u v)
      | _, _ => none) else (f e).map .val
  | e => if isSet e then none else (f e).map .val
def isOneC : Expr → Bool
  | .UnaryOp .USub (.Constant (.int i) _ _) _ => decide (i = 1)
  | _ => false
def lamNone : Arguments → Bool
  | ⟨[], [], none, [], [], none, []⟩ => true
  | _ => false
def cmpX (f : Expr → Option E) (a : Expr) (os : List CmpOp) (cs : List Expr) : Option E := match os, cs with
  | [op], [b] => (match copOf op, f a, f b with
      | some o, some x, some y => if isSet b then none else some (.cmp o x y)
      | _, _, _ => none)
  | [op, op'], [b, c] => (match copOf op, copOf op', f a, f b, f c with
      | some o, some o', some x, some y, some z => if isSet b || isSet c then none else some (.ch o o' x y z)
      | _, _, _, _, _ => none)
  | _, _ => none
def subX (f : Expr → Option E) (a i : Expr) : Option E := match i with
  | .Slice lo hi st _ => (match lo, hi, st with
    | some lo, some hi, none => (match f a, f lo, f hi with
      | some x, some y, some z => some (.sl x y z)
      | _, _, _ => none)
    | some lo, none, none => (match f a, f lo with
      | some x, some y => some (.slo x y)
      | _, _ => none)
    | none, some hi, none => (match f a, f hi with
      | some x, some y => some (.shi x y)
      | _, _ => none)
    | none, none, some st => if isOneC st then (f a).map .rev else none
    | _, _, _ => none)
  | i => match f a, f i with
    | some x, some y => some (.ix x y)
    | _, _ => none
/-- f: here, fb: within the block, ft: there as a test -/
def lcX (f fb ft : Expr → Option E) (cc cb : CC) (elt : Expr) (gs : List Comprehension) (scope : Scope) : Option E := match gs with
  | [g] => if g.is_async = 0 then (match tgOf cb g.target, iterX f cc g.target g.iter, fb elt with
      | some t, some it, some x => if L2.blkC cc.N cc.sc scope ((tgNames g.target).zip t.own) && decide (((tgNames g.target).zip t.own).map (·.2) = t.own) then (match g.ifs with
        | [] => some (.lc t it x)
        | c :: r => (match r with
          | [] => (ft c).map fun y => .lcif t it y x
          | _ :: _ => none)) else none
      | _, _, _ => none) else none
  | _ => none
/-- a value in a generator expression whose item is x -/
def gX (cc : CC) (scope : Scope) (x : Str) : Nat → Expr → Option GE
  | 0, _ => none
  | n + 1, e => (match e with
    | .Name y _ => if y = x then some .x else if decide (scope.names.lookup y = some .free) && (decide (cc.k y = some .cell) || decide (cc.k y = some .free)) && !dbg y then (cc.ix y).map .v else none
    | .Constant c _ _ => (match c with
      | .int i => some (.k i)
      | _ => none)
    | .BinOp a op b _ => (match op with
      | .Add => (match gX cc scope x n a, gX cc scope x n b with
        | some u, some v => some (.add u v)
        | _, _ => none)
      | _ => none)
    | .Subscript a b _ => if isSlice b then none else (match gX cc scope x n a, gX cc scope x n b with
      | some u, some v => some (.ix u v)
      | _, _ => none)
    | _ => none)
/-- its tests -/
def gtX (cc : CC) (scope : Scope) (x : Str) : List Expr → Option GT
  | [] => some .tt
  | [.Compare a [op] [b] _] => if isSet b then none else (match op, gX cc scope x 20 a, gX cc scope x 20 b with
    | .Gt, some u, some v => some (.gt u v)
    | .NotIn, some u, some v => some (.notin u v)
    | _, _, _ => none)
  | _ => none
/-- what it walks -/
def gsX (f : Expr → Option E) (cc : CC) (e : Expr) : Option I := match e with
  | .Name .. => (f e).map .val
  | .Call (.Name x _) [a] [] _ => if x = "range" && cc.blt x then (if isStar a then none else (f a).map .rg1) else (f e).map .val
  | .Call .. => (f e).map .val
  | _ => none
/-- the generator's own scope -/
def genSB (sc scope : Scope) (x : Str) : Bool :=
  decide (scope.kind = .function) && !scope.isCoroutine && decide (scope.names.lookup (".0" : Str) = some NameKind.local) && decide (scope.names.lookup x = some .local) && scope.names.all fun y => !decide (y.2 = .cell) && (!decide (y.2 = .free) || decide (sc.names.lookup y.1 = some .cell) || decide (sc.names.lookup y.1 = some .free))
def genX (f : Expr → Option E) (cc : CC) (e : Expr) : Option E := match e with
  | .GeneratorExp elt [⟨.Name x _, iter, ifs, as⟩] scope _ => if decide (as = 0) && cc.lam && cc.gen && genSB cc.sc scope x && !dbg x then (match gsX f cc iter, gtX cc scope x ifs, gX cc scope x 20 elt with
    | some it, some t, some y => some (.tupG it t y)
    | _, _, _ => none) else none
  | _ => none
def isGen : Expr → Bool
  | .GeneratorExp .. => true
  | _ => false
def bltX (f : Expr → Option E) (cc : CC) (x : Str) (args : List Expr) : Option E := match args with
  | [a] => (match p1Of x with
      | some p => (f a).map (.p1 p)
      | none => if x = "tuple" then (if isGen a then genX f cc a else (iterX f cc (.Constant .none 0 ⟨0, 0, 0, 0⟩) a).map .tupOf) else if x = "list" then (iterX f cc (.Constant .none 0 ⟨0, 0, 0, 0⟩) a).map .lstOf else none)
  | [a, b] => (match p2Of x with
      | some p => (match f a, f b with
        | some x, some y => some (.p2 p x y)
        | _, _ => none)
      | none => if x = "isinstance" then (match b with
        | .Name t _ => if cc.blt t && (cc.gl.lookup t).isNone then (match tyOf t, f a with
          | some p, some x => some (.p1 p x)
          | _, _ => none) else none
        | _ => none) else none)
  | _ => none
/-- fl: within a lambda of this scope -/
def nameX (f : Expr → Option E) (fl : Scope → Expr → Option E) (cc : CC) (x : Str) (args : List Expr) : Option E := if args.any isStar then none else match cc.ref x with
  | some (.fn i np) => if args.length = np then (mapO f args).map (.call i) else none
  | some (.heard h) => (match args with
    | [.Lambda ps body scope _] => if (cc.lam && !cc.gen) && lamNone ps && LamX.lamSB cc.sc scope then (fl scope body).map (.heard h) else none
    | _ => none)
  | some (.cls _) => none
  | some (.con _) => none
  | none => if cc.blt x then bltX f cc x args else none
def methX (f : Expr → Option E) (l : Expr) (m : Str) (ap : Pos) (args : List Expr) (cp : Pos) : Option E := if isCall l || !(ap.endLine == cp.line) || args.any isStar then none else match args with
  | [a] => (match f l, f a with
    | some x, some y => if m = "append" then some (.app x y) else if m = "extend" then some (.ext x y) else none
    | _, _ => none)
  | [] => if m = "pop" then (f l).map .pop else none
  | _ => none
def callX (f : Expr → Option E) (fl : Scope → Expr → Option E) (cc : CC) (g : Expr) (args : List Expr) (kws : List Keyword) (cp : Pos) : Option E := match kws with
  | [] => (match g with
    | .Name x _ => nameX f fl cc x args
    | .Attribute l m ap => methX f l m ap args cp
    | _ => none)
  | _ :: _ => none
def varX (cc : CC) (x : Str) : Option E := match cc.ix x with
  | some i => some (.v i)
  | none => (match cc.ref x with
    | some (.con (.int i)) => some (.k (.int i))
    | _ => none)
def CC.blk (cc : CC) (scope : Scope) : CC := { cc with sc := L2.relS scope cc.sc, fn := fun x => scope.names.lookup x == some .cell, lam := false }
def CC.lmb (cc : CC) (scope : Scope) : CC := { cc with sc := scope, fn := fun _ => false, lam := false }
/-- an expression; t: as a test -/
def cX : Nat → Bool → CC → Expr → Option E
  | 0, _, _, _ => none
  | n + 1, t, cc, e => (match t with
    | true => (match e with
      | .UnaryOp op a _ => (match op with
        | .Not => (cX n true cc a).map .nt
        | _ => none)
      | .BoolOp op vs _ => boolX (cX n true cc) op vs
      | .IfExp t a b _ => (match cX n true cc t, cX n true cc a, cX n true cc b with
        | some x, some y, some z => some (.ite x y z)
        | _, _, _ => none)
      | .Compare a os cs _ => cmpX (cX n false cc) a os cs
      | e => if vOnly e then cX n false cc e else none)
    | false => (match e with
      | .Constant c _ _ => (conOf c).map .k
      | .Name x _ => varX cc x
      | .BinOp a op b _ => (match bopOf op, cX n false cc a, cX n false cc b with
        | some o, some x, some y => some (.bin o x y)
        | _, _, _ => none)
      | .UnaryOp op a _ => (match op with
        | .USub => (cX n false cc a).map .neg
        | .Not => (cX n false cc a).map .nt
        | _ => none)
      | .BoolOp op vs _ => boolX (cX n false cc) op vs
      | .Compare a os cs _ => cmpX (cX n false cc) a os cs
      | .IfExp t a b _ => (match cX n true cc t, cX n false cc a, cX n false cc b with
        | some x, some y, some z => some (.ite x y z)
        | _, _, _ => none)
      | .Tuple es _ _ => if es.any isStar then none else (mapO (cX n false cc) es).map .tup
      | .List es _ => if es.any isStar then none else (mapO (cX n false cc) es).map .lst
      | .Subscript a i _ => subX (cX n false cc) a i
      | .ListComp elt gs scope _ => lcX (cX n false cc) (cX n false (cc.blk scope)) (cX n true (cc.blk scope)) cc (cc.blk scope) elt gs scope
      | .Call g args kws cp => callX (cX n false cc) (fun scope body => cX n false (cc.lmb scope) body) cc g args kws cp
      | _ => none))
/-! ### statements -/
/-- does a store of a comprehension come within? -/
def swB (cc : CC) (y : Str) (py : Pos) (scope : Scope) (pos : Pos) : Bool := (cc.k y == some .local) && (py.line == pos.line) && !(scope.names.any fun (n, k) => n == y && (k == .local || k == .cell))
/-- a local on that line -/
def locB (cc : CC) (line : Nat) : Expr → Bool
  | .Name x p => (cc.k x == some .local) && (p.line == line)
  | _ => false
def tsLine (ts : List Expr) : Nat := (ts.head?.map (·.pos.line)).getD 0
/-- a display of values that is stored in its order -/
def inOrd (cc : CC) (ts vs : List Expr) : Bool := !(ts.length == 2 || ts.length == 3) || vs.length != ts.length || vs.all (foldedForSure 8) || ts.any fun t => !locB cc (tsLine ts) t
def parX (f : Expr → Option E) (cc : CC) (ts vs : List Expr) : Option S := match ts, vs with
  | [t1, t2], [a, b] => (match t1, t2 with
    | .Name x p, .Name y q => (match cc.st x, cc.st y, f a, f b with
      | some i, some j, some u, some v => if locB cc p.line t1 && locB cc p.line t2 && !(x == y) && decide (i ≠ j) && !isStar a && !isStar b && !([a, b].all (foldedForSure 8)) && !([a, b].all (constantsAlone 8)) && decide (cc.sc.kind = .function) then some (.par i j u v) else none
      | _, _, _, _ => none)
    | _, _ => none)
  | _, _ => none
def asgX (f : Expr → Option E) (cc : CC) (tg e : Expr) : Option S := match tg with
  | .Subscript o i _ => if isComp e || isSlice i then none else (match f o, f i, f e with
    | some x, some y, some z => some (.put x y z)
    | _, _, _ => none)
  | .Name x _ => if isComp e && !decide (cc.sc.kind = .function) then none else (match cc.st x, f e with
    | some i, some y => some (.set i y)
    | _, _ => none)
  | .Tuple ts k p => (match e with
    | .Tuple vs k2 p2 => if inOrd cc ts vs then (match tgOf cc (.Tuple ts k p), f (.Tuple vs k2 p2) with
      | some (.tp is), some y => some (.setT is y)
      | _, _ => none) else parX f cc ts vs
    | e => (match tgOf cc (.Tuple ts k p), f e with
      | some (.tp is), some y => some (.setT is y)
      | _, _ => none))
  | _ => none
def raisX (f : Expr → Option E) (cc : CC) (e : Expr) : Option S := match e with
  | .Call g args kws _ => (match g, args, kws with
    | .Name c _, [a], [] => (match cc.ref c, f a with
      | some (.cls k), some x => if isStar a || !cc.lam then none else some (.rais k x)
      | _, _ => none)
    | _, _, _ => none)
  | _ => none
def cS : Nat → CC → Stmt → Option S
  | 0, _, _ => none
  | n + 1, cc, st => match st with
    | .Expr e _ => if isComp e then none else (cX n false cc e).map .expr
    | .Return e _ => (match e with
      | some e => (cX n false cc e).map .ret
      | none => none)
    | .Pass _ => some .pas
    | .Break _ => some .brk
    | .Continue _ => some .cont
    | .If t a b _ => (match cX n true cc t, mapO (cS n cc) a, mapO (cS n cc) b with
      | some x, some y, some z => some (.ifs x y z)
      | _, _, _ => none)
    | .For tg it b els _ => (match els with
      | [] => (match tgOf cc tg, iterX (cX n false cc) cc tg it, mapO (cS n cc) b with
        | some t, some x, some y => some (.fors t x y)
        | _, _, _ => none)
      | _ :: _ => none)
    | .While t b els _ => (match els with
      | [] => (match cX n true cc t, mapO (cS n cc) b with
        | some x, some y => some (.whil x y)
        | _, _ => none)
      | _ :: _ => none)
    | .Raise e cz _ => (match e, cz with
      | some e, none => raisX (cX n false cc) cc e
      | _, _ => none)
    | .Assign ts e _ => (match ts with
      | [tg] => asgX (cX n false cc) cc tg e
      | _ => none)
    | _ => none
end Z
end
section
/-! ZCs: the core language tells what the text does: expressions. -/
namespace Z
open PySem PySem.Spec PyProof.Rows L2
/-- the built-ins that may be named -/
def bltN : List Str := ["range", "len", "int", "bool", "abs", "min", "max", "sum", "tuple", "list", "enumerate", "isinstance", "str", "zip", "all", "any", "sorted", "set", "dict"]
/-- a def that hears -/
def HrOk (g : Gl0) (P : Prog) (K : PySem.W.Frag) (mg : Str → Option Value) (x : Str) (h : Nat) : Prop :=
  ∃ (hd : Heard) (Ng : List Str) (sg : Scope) (a csn e s : Str) (cn : Str → Option Nat) (rs0 rs : List (Str × Str)) (xs : List Expr) (rest : List Stmt) (gf : Addr) (pg : Arguments) (dV kV doc pm cdv ct oc : Value) (an od : Option Addr) (osl : Array (Option Value)) (j k1 : Nat) (q1 q2 q3 q4 q5 q6 q7 q8 q9 q10 q11 : Pos),
    P.hears[h]? = some hd ∧ HeOk g K mg P hd Ng sg a csn e s (rs0 ++ rs) cn ∧ RowsX e xs rs0 ∧ Steps e s Ng sg rest rs ∧ mg x = some (.ref gf) ∧ PySem.W.keepIn K (.ref gf) = true ∧
    K.lookup gf = some ⟨oc, od, .func (PySem.W.fnOf x x pg (heardB a hd.told csn e s xs rest j k1 q1 q2 q3 q4 q5 q6 q7 q8 q9 q10 q11) sg dV kV doc pm an cdv ct), osl⟩ ∧ PySem.W.codeIn K cdv x = true ∧
    L2.Binds K (PySem.W.fnOf x x pg (heardB a hd.told csn e s xs rest j k1 q1 q2 q3 q4 q5 q6 q7 q8 q9 q10 q11) sg dV kV doc pm an cdv ct) [a] [] ∧ FnScope Ng [a] sg ∧ (a == ("__debug__" : Str)) = false ∧ (a == ("__classdict__" : Str)) = false
/-- the code objects that a def makes -/
def sufOf (b : Bool) : Str := if b = true then "<genexpr>" else "<lambda>"
/-- what is known of the global names -/
structure GOk (g : Gl0) (P : Prog) (C : Nat → List D → M D) (kF : Nat) (gl : List (Str × GRef)) (pr : Program) (w : World) (K : PySem.W.Frag) (mg : Str → Option Value) (base : Heap) : Prop where
  fn : ∀ x i np, gl.lookup x = some (.fn i np) → mg x = some (.ref (g.L.fa i)) ∧ PySem.W.keepIn K (.ref (g.L.fa i)) = true ∧ (∃ fd ps, FnOk pr w K mg base (L2N.CX pr w) kF (g.L.fa i) fd ps (spD g np (C i)) ∧ L2.Binds K fd ps []) ∧ ∀ ds S, ds.length ≠ np → C i ds S = .stuck
  con : ∀ x i, gl.lookup x = some (.con (.int i)) → ∃ t, mg x = some (.int i t)
  blt : ∀ x, x ∈ bltN → mg x = none
  none : ∀ x, gl.lookup x = none → x ∈ bltN → mg x = Option.none
  cls : ∀ x k, gl.lookup x = some (.cls k) → mg x = some (.ref (g.L.ca k)) ∧ OexC K (g.L.ca k) ∧ PySem.W.findIn K (.ref (g.L.ca k)) "what" = some Option.none ∧ ∃ fI, PySem.W.findIn K (.ref (g.L.ca k)) "__init__" = some (some (.ref fI)) ∧ PySem.W.typeIn K (.ref fI) = some (.type "function") ∧
    ∃ fd ps, FnOk pr w K mg base (fun _ _ _ _ _ _ => False) 1 fI fd ps (spInit K) ∧ L2.Binds K fd ps []
  heard : ∀ x h, gl.lookup x = some (.heard h) → HrOk g P K mg x h
structure XOk (g : Gl0) (P : Prog) (C : Nat → List D → M D) (kF : Nat) (cc : CC) (X : Cx) (E : XK) : Prop where
  K : X.K = g.K
  N : X.N = cc.N
  nd : cc.N.Nodup
  sc : X.env.scope = cc.sc
  calm : X.calm = true
  room : Room kF X.A
  tk : L2N.Takes X (fun cls d _ H => E cls d H)
  fnx : X.fn = cc.fn
  G : GOk g P C kF cc.gl X.prog X.w X.K X.mg X.base
  lm : cc.lam = true → ∃ (c Pt : Addr) (q : Str), X.env.qual = q ∧ X.env.code = .ref c ∧ LamX.TabB X.base X.mg c Pt ∧ (Pt, q ++ sufOf cc.gen) ∈ g.T ∧ (∀ p ∈ g.T, p.1 = Pt → p.2 = q ++ sufOf cc.gen) ∧ Room (kF + 2) X.A
theorem idx_get : ∀ {N : List Str} {x : Str} {i : Nat}, idx N x = some i → N[i]? = some x
  | [], _, _, h => by cases h
  | y :: r, x, i, h => by
    unfold idx at h
    by_cases e : y = x
    · rw [if_pos e] at h
      cases h
      rw [e]
      rfl
    · rw [if_neg e] at h
      cases q : idx r x with
      | none => rw [q] at h; cases h
      | some j =>
        rw [q] at h
        cases h
        exact (List.getElem?_cons_succ ..).trans (idx_get q)
theorem dbg_no {x : Str} (h : dbg x = false) : (x == ("__debug__" : Str)) = false ∧ (x == ("__classdict__" : Str)) = false := by
  unfold dbg at h
  exact Bool.or_eq_false_iff.mp h
section
variable {g : Gl0} {P : Prog} {C : Nat → List D → M D} {kF : Nat} {cc : CC} {X : Cx} {E : XK} {a b c e : Expr} {pos : Pos}
theorem XOk.ix (O : XOk g P C kF cc X E) {x : Str} {i : Nat} (h : cc.ix x = some i) : X.N[i]? = some x ∧ Vis X.env.scope x ∧ (x == ("__debug__" : Str)) = false ∧ (x == ("__classdict__" : Str)) = false := by
  unfold CC.ix at h
  split at h
  · rename_i hc
    rw [Bool.and_eq_true] at hc
    obtain ⟨h1, h2⟩ := hc
    have h3 := dbg_no (by simpa using h2)
    refine ⟨by rw [O.N]; exact idx_get h, ?_, h3⟩
    unfold CC.vis CC.k at h1
    simp only [Bool.or_eq_true, decide_eq_true_eq] at h1
    unfold Vis
    rw [O.sc]
    rcases h1 with (h1 | h1) | h1
    · exact .inl h1
    · exact .inr (.inl h1)
    · exact .inr (.inr h1)
  · cases h
theorem XOk.st (O : XOk g P C kF cc X E) {x : Str} {i : Nat} (h : cc.st x = some i) : X.N[i]? = some x ∧ L2.Loc X.env.scope x ∧ (X.fn x = true ∨ X.env.scope.names.lookup x = some .local) := by
  unfold CC.st at h
  split at h
  · rename_i hc
    rw [Bool.and_eq_true] at hc
    obtain ⟨h1, h2⟩ := hc
    refine ⟨by rw [O.N]; exact idx_get h, ?_⟩
    unfold CC.k at h1
    simp only [Bool.or_eq_true, Bool.and_eq_true, decide_eq_true_eq] at h1
    unfold L2.Loc
    rw [O.sc]
    rcases h1 with h1 | ⟨h0, h1⟩
    · exact ⟨.inl h1, .inr h1⟩
    · refine ⟨.inr h1, .inl ?_⟩
      rw [O.fnx]
      exact h0
  · cases h
theorem XOk.isG (O : XOk g P C kF cc X E) {x : Str} (h : cc.isG x = true) : Gl X x := by
  unfold CC.isG CC.k at h
  unfold Gl Env.kindOf
  rw [O.sc]
  simpa using h
theorem XOk.ref (O : XOk g P C kF cc X E) {x : Str} {r : GRef} (h : cc.ref x = some r) : Gl X x ∧ (x == ("__debug__" : Str)) = false ∧ cc.gl.lookup x = some r := by
  unfold CC.ref at h
  split at h
  · rename_i hc
    rw [Bool.and_eq_true] at hc
    exact ⟨O.isG hc.1, (dbg_no (by simpa using hc.2)).1, h⟩
  · cases h
theorem star_no {es : List Expr} {env : PySem.Env} (h : isStar e = false) : starEach (e :: es) env = (false, eval e env) :: starEach es env := by
  cases e <;> first | rfl | cases h
theorem stars_no {env : PySem.Env} {pos : Pos} : ∀ {es : List Expr}, es.any isStar = false → (backTo pos (starEach es env)).any (·.1) = false
  | [], _ => rfl
  | e :: es, h => by
    rw [List.any_cons, Bool.or_eq_false_iff] at h
    rw [star_no h.1]
    show (false || (backTo pos (starEach es env)).any (·.1)) = false
    rw [stars_no h.2]
    rfl
/-- several arguments -/
theorem mapO_nil {α β : Type} {f : α → Option β} {ys : List β} (h : mapO f [] = some ys) : ys = [] := by
  unfold mapO at h
  cases h
  rfl
theorem mapO_cons {α β : Type} {f : α → Option β} {x : α} {r : List α} {ys : List β} (h : mapO f (x :: r) = some ys) : ∃ y ys', f x = some y ∧ mapO f r = some ys' ∧ ys = y :: ys' := by
  unfold mapO at h
  split at h
  · rename_i y ys' h1 h2
    cases h
    exact ⟨y, ys', h1, h2, rfl⟩
  · cases h
theorem args_ok {f : Expr → Option Z.E} (hf : ∀ e c, f e = some c → PE X e (tD g E (ev P C c))) : ∀ {es : List Expr} {cs : List Z.E}, mapO f es = some cs → es.any isStar = false → PA X es (tDs g E (evs P C cs))
  | [], cs, h, _ => by
    rw [mapO_nil h]
    exact da_nil
  | e :: es, cs, h, hs => by
    obtain ⟨y, ys, h1, h2, rfl⟩ := mapO_cons h
    rw [List.any_cons, Bool.or_eq_false_iff] at hs
    exact da_cons (hf e y h1) (args_ok hf h2 hs.2) (star_no hs.1)
theorem bin_ok (O : XOk g P C kF cc X E) {op : Operator} {o : Bop} (h : bopOf op = some o) {fa fb : Env → M D} (ha : PE X a (tD g E fa)) (hb : PE X b (tD g E fb)) : PE X (.BinOp a op b pos) (tD g E fun env => bd (fa env) fun x => bd (fb env) fun y => binop o x y) := by
  cases op <;> simp only [bopOf, Option.some.injEq, reduceCtorEq] at h <;> subst h
  · exact de_bin (or_add O.K) od_add ha hb
  · exact de_bin op_sub od_sub ha hb
  · exact de_bin (or_mul O.K) od_mul ha hb
  · exact de_bin op_mod od_mod ha hb
  · exact de_bin op_pow od_pow ha hb
  · exact de_bin op_fdivW od_div ha hb
/-- a comparison's two sides -/
theorem cop_ok (O : XOk g P C kF cc X E) {op : CmpOp} {o : Cop} (h : copOf op = some o) : ∃ r : R2, OpR X (compareOp op) r ∧ OpB g r (cmpB o) := by
  have hu := O.room.units
  cases op <;> simp only [copOf, Option.some.injEq] at h <;> subst h
  · exact ⟨_, or_eq O.K hu, ob_eq⟩
  · exact ⟨_, or_ne O.K hu, ob_ne⟩
  · exact ⟨_, op_lt, ob_lt⟩
  · exact ⟨_, op_le, ob_le⟩
  · exact ⟨_, op_gt, ob_gt⟩
  · exact ⟨_, op_ge, ob_ge⟩
  · exact ⟨_, OpR.or op_isN op_isBl, ob_is⟩
  · exact ⟨_, op_notN, ob_isnot⟩
  · exact ⟨_, by have z := op_in_seq (X := X); rw [O.K] at z; exact z, ob_in⟩
  · exact ⟨_, by have z := op_notIn_seq (X := X); rw [O.K] at z; exact z, ob_notin⟩
theorem mark_no {op : CmpOp} {b : Expr} (h : isSet b = false) : behindInMarks op b = false := by
  cases b <;> first | rfl | cases h
theorem con_ok {cn : Const} {d : D} {k : Nat} (h : conOf cn = some d) : PE X (.Constant cn k pos) (tD g E fun _ => ret d) := by
  cases cn <;> simp only [conOf, Option.some.injEq, reduceCtorEq] at h <;> subst h
  · exact de_const pe_non fun _ _ => .non
  · exact de_const pe_bl fun _ _ => .bl _
  · exact de_const pe_int fun _ _ => .int _
  · exact de_const pe_str fun _ _ => .str _
theorem slice_no {b : Expr} (h : isSlice b = false) : PlainIx b := by
  cases b <;> first | exact fun _ _ => rfl | cases h
theorem base_no {e : Expr} {m : Str} {env : PySem.Env} (h : isCall e = false) : attributeBase e m env (eval e env) = eval e env := by
  cases e <;> first | rfl | cases h
theorem plain_true {e : Expr} {env : PySem.Env} (h : plainT e = true) (whole : Sem Value) : isTrue e env whole = (do let v ← whole; standAt e.pos; holding [v] (truthy v)) := by
  cases e with
  | UnaryOp op a p => cases op <;> first | rfl | cases h
  | BoolOp op vs p => cases h
  | IfExp t a b p => cases h
  | Compare a os bs p => cases h
  | _ => rfl
theorem pt_ifx {t : Expr} {tA tB tC : TT} (ht : PT X t tA) (ha : PT X a tB) (hb : PT X b tC) : PT X (.IfExp t a b pos) (fun σ H Q => tA σ H fun c H1 => if c = true then tB σ H1 Q else tC σ H1 Q) := by
  refine ⟨fun pins s σ H Q I h => ?_⟩
  refine PyProof.Rows.isTrue_IfExp (thn (ht.run pins s σ H _ I h) fun d s1 ⟨H1, I1, q1⟩ => ?_)
  cases d with
  | true => exact ha.run pins s1 σ H1 Q I1 q1
  | false => exact hb.run pins s1 σ H1 Q I1 q1
theorem dt_ite {t : Expr} {ft fa fb : Env → M Bool} (ht : PT X t (tTst g E ft)) (ha : PT X a (tTst g E fa)) (hb : PT X b (tTst g E fb)) : PT X (.IfExp t a b pos) (tTst g E fun env => bd (ft env) fun c => if c = true then fa env else fb env) :=
  (pt_ifx ht ha hb).imp fun σ H Q ⟨S, ρ, env, hr, he, h⟩ => by
    refine ⟨S, ρ, env, hr, he, h.bd.imp fun c S1 ρ1 H1 x r1 q => ?_⟩
    cases c with
    | true => exact ⟨S1, ρ1, env, r1, he.ex hr x, q⟩
    | false => exact ⟨S1, ρ1, env, r1, he.ex hr x, q⟩
/-- a and b and .. -/
theorem bool_val {f : Expr → Option Z.E} {op : BoolOp} (hf : ∀ e c, f e = some c → PE X e (tD g E (ev P C c))) : ∀ {es : List Expr} {c : Z.E}, boolX f op es = some c → PE X (.BoolOp op es pos) (tD g E (ev P C c))
  | [], c, h => by cases h
  | [e], c, h => de_and1 (hf e c h)
  | e :: e2 :: es, c, h => by
    unfold boolX at h
    dsimp only at h
    split at h
    · rename_i x y h1 h2
      have ih := bool_val hf h2
      cases op with
      | And =>
        cases h
        exact de_and (hf e x h1) ih
      | Or =>
        cases h
        exact de_or (hf e x h1) ih
    · cases h
theorem bool_tst {f : Expr → Option Z.E} {op : BoolOp} (hf : ∀ e c, f e = some c → PT X e (tTst g E (tst P C c))) : ∀ {es : List Expr} {c : Z.E}, boolX f op es = some c → PW X (.BoolOp op es pos) (tTst g E (tst P C c))
  | [], c, h => by cases h
  | [e], c, h => by
    cases op with
    | And => exact dt_and1 (hf e c h)
    | Or => exact dt_or1 (hf e c h)
  | e :: e2 :: es, c, h => by
    unfold boolX at h
    dsimp only at h
    split at h
    · rename_i x y h1 h2
      have ih := bool_tst hf h2
      cases op with
      | And =>
        cases h
        exact dt_and (hf e x h1) ih
      | Or =>
        cases h
        exact dt_or (hf e x h1) ih
    · cases h
theorem set_no {e : Expr} {env : PySem.Env} (h : isSet e = false) (x : Value) : foldedSetIterable e env x = pure x := by
  cases e <;> first | rfl | cases h
/-- what is walked -/
theorem iter_ok (O : XOk g P C kF cc X E) {f : Expr → Option Z.E} {tg : Expr} (hf : ∀ e c, f e = some c → PE X e (tD g E (ev P C c))) {i : I} (h : iterX f cc tg e = some i) : PI X tg e (tI g E (walk P C i)) := by
  have val : ∀ {e : Expr} {i : I}, (f e).map I.val = some i → PI X tg e (tI g E (walk P C i)) := fun {e i} h => by
    cases q : f e with
    | none => rw [q] at h; cases h
    | some c =>
      rw [q] at h
      cases h
      exact di_val O.K (hf e c q)
  unfold iterX at h
  split at h
  · rename_i x p a p2
    split at h
    · cases h
    · rename_i hs
      have hs : isStar a = false := by simpa using hs
      split at h
      · rename_i hr
        rw [Bool.and_eq_true, decide_eq_true_eq] at hr
        obtain ⟨rfl, hr⟩ := hr
        cases q : f a with
        | none => rw [q] at h; cases h
        | some c =>
          rw [q] at h
          cases h
          exact di_rg1 (O.isG hr) (O.G.blt _ (by simp [bltN])) (hf a c q) (star_no hs)
      · split at h
        · rename_i hr
          rw [Bool.and_eq_true, decide_eq_true_eq] at hr
          obtain ⟨rfl, hr⟩ := hr
          split at h
          · cases q : f a with
            | none => rw [q] at h; cases h
            | some c =>
              rw [q] at h
              cases h
              exact di_enum O.K (O.isG hr) (O.G.blt _ (by simp [bltN])) (hf a c q) (star_no hs)
          · cases h
        · exact val h
  · rename_i x p a b p2
    split at h
    · rename_i hr
      rw [Bool.and_eq_true, decide_eq_true_eq] at hr
      obtain ⟨rfl, hr⟩ := hr
      split at h
      · cases h
      · rename_i hs
        have hs : isStar a = false ∧ isStar b = false := by simpa using hs
        split at h
        · rename_i u v h1 h2
          cases h
          exact di_rg2 (O.isG hr) (O.G.blt _ (by simp [bltN])) (hf a u h1) (hf b v h2) (star_no hs.1) (star_no hs.2)
        · cases h
    · exact val h
  · split at h
    · cases h
    · exact val h
/-- tuple(..), list(..) of what is walked -/
theorem conv_ok (O : XOk g P C kF cc X E) {f : Expr → Option Z.E} (hf : ∀ e c, f e = some c → PE X e (tD g E (ev P C c))) {i : I} (h : iterX f cc (.Constant .none 0 ⟨0, 0, 0, 0⟩) e = some i) (hs : isStar e = false) {p : Pos} :
    (cc.blt "tuple" = true → PE X (.Call (.Name "tuple" p) [e] [] pos) (tD g E (ev P C (.tupOf i)))) ∧ (cc.blt "list" = true → PE X (.Call (.Name "list" p) [e] [] pos) (tD g E (ev P C (.lstOf i)))) := by
  have mt : X.mg "tuple" = none := O.G.blt _ (by simp [bltN])
  have ml : X.mg "list" = none := O.G.blt _ (by simp [bltN])
  have val : ∀ {i : I}, (f e).map I.val = some i → (cc.blt "tuple" = true → PE X (.Call (.Name "tuple" p) [e] [] pos) (tD g E (ev P C (.tupOf i)))) ∧ (cc.blt "list" = true → PE X (.Call (.Name "list" p) [e] [] pos) (tD g E (ev P C (.lstOf i)))) := fun {i} h => by
    cases q : f e with
    | none => rw [q] at h; cases h
    | some c =>
      rw [q] at h
      cases h
      exact ⟨fun z => de_tupOf O.K (O.isG z) mt (hf e c q) (star_no hs), fun z => de_lstOf O.K (O.isG z) ml (hf e c q) (star_no hs)⟩
  unfold iterX at h
  split at h
  · rename_i x p1 a p2
    split at h
    · cases h
    · rename_i hs2
      have hs2 : isStar a = false := by simpa using hs2
      split at h
      · rename_i hr
        rw [Bool.and_eq_true, decide_eq_true_eq] at hr
        obtain ⟨rfl, hr⟩ := hr
        cases q : f a with
        | none => rw [q] at h; cases h
        | some c =>
          rw [q] at h
          cases h
          have z := dr_1 (E := E) (p := p1) (pos := p2) (O.isG hr) (O.G.blt _ (by simp [bltN])) (hf a c q) (star_no hs2)
          exact ⟨fun y => de_tupRg O.calm (O.isG y) mt z (star_no hs), fun y => de_lstRg O.calm (O.isG y) ml z (star_no hs)⟩
      · split at h
        · split at h
          · rename_i h2 _ _ _ _ h3
            cases h3
          · cases h
        · exact val h
  · rename_i x p1 a b p2
    split at h
    · rename_i hr
      rw [Bool.and_eq_true, decide_eq_true_eq] at hr
      obtain ⟨rfl, hr⟩ := hr
      split at h
      · cases h
      · rename_i hs2
        have hs2 : isStar a = false ∧ isStar b = false := by simpa using hs2
        split at h
        · rename_i u v h1 h2
          cases h
          have z := dr_2 (E := E) (p := p1) (pos := p2) (O.isG hr) (O.G.blt _ (by simp [bltN])) (hf a u h1) (hf b v h2) (star_no hs2.1) (star_no hs2.2)
          exact ⟨fun y => de_tupRg O.calm (O.isG y) mt z (star_no hs), fun y => de_lstRg O.calm (O.isG y) ml z (star_no hs)⟩
        · cases h
    · exact val h
  · split at h
    · cases h
    · exact val h
/-- targets -/
theorem tgs_ok (O : XOk g P C kF cc X E) : ∀ {es : List Expr} {is : List Nat}, mapO (stX cc) es = some is → PGs X es (gNames is) ∧ es.length = is.length ∧ (assignEach es X.env).length = is.length ∧ (assignEach es X.env).findIdx? (·.1) = none
  | [], is, h => by
    rw [mapO_nil h]
    exact ⟨pgs_nil, rfl, rfl, rfl⟩
  | e :: es, is, h => by
    obtain ⟨y, ys, h1, h2, rfl⟩ := mapO_cons h
    obtain ⟨i1, i2, i3, i4⟩ := tgs_ok O h2
    unfold stX at h1
    split at h1
    · rename_i x p
      obtain ⟨s1, s2, s3⟩ := O.st h1
      refine ⟨pgs_cons (pg_name (by rw [O.N]; exact O.nd) s1 s2 s3) i1 (by rfl), by simp [i2], ?_, ?_⟩
      · show (assignEach es X.env).length + 1 = _
        rw [i3]
        rfl
      · have ea : assignEach (.Name x p :: es) X.env = (false, assign (.Name x p) X.env) :: assignEach es X.env := rfl
        rw [ea, List.findIdx?_cons, i4]
        rfl
    · cases h1
theorem tg_ok (O : XOk g P C kF cc X E) {tg : Expr} {t : T} (h : tgOf cc tg = some t) : PG X tg (gD g t) := by
  unfold tgOf at h
  split at h
  · rename_i x p
    cases q : cc.st x with
    | none => rw [q] at h; cases h
    | some i =>
      rw [q] at h
      cases h
      obtain ⟨s1, s2, s3⟩ := O.st q
      exact pg_name (by rw [O.N]; exact O.nd) s1 s2 s3
  · rename_i es k p
    cases q : mapO (stX cc) es with
    | none => rw [q] at h; cases h
    | some is =>
      rw [q] at h
      have h : (if es.length ≤ 30 then some (T.tp is) else none) = some t := h
      split at h
      · cases h
        obtain ⟨i1, i2, i3, i4⟩ := tgs_ok O q
        have z := pg_tup (k := k) (pos := p) (n := is.length) O.calm i1 i3 i4
        show PG X _ (gTup g.K is.length (gNames is))
        rw [← O.K]
        exact z
      · cases h
  · cases h
theorem last_no {op op' : CmpOp} {b c : Expr} (h : isSet c = false) : lastMarks [op, op'] [b, c] = false := mark_no h
theorem cmp_ok (O : XOk g P C kF cc X E) {f : Expr → Option Z.E} (hf : ∀ e c, f e = some c → PE X e (tD g E (ev P C c))) {os : List CmpOp} {cs : List Expr} {r : Z.E} (h : cmpX f a os cs = some r) : PE X (.Compare a os cs pos) (tD g E (ev P C r)) ∧ PT X (.Compare a os cs pos) (tTst g E (tst P C r)) := by
  unfold cmpX at h
  split at h
  · rename_i op b
    split at h
    · rename_i o x y h1 h2 h3
      split at h
      · cases h
      · rename_i hs
        cases h
        obtain ⟨r, r1, r2⟩ := cop_ok O h1
        have hm := mark_no (op := op) (show isSet b = false by simpa using hs)
        exact ⟨de_cmp r1 r2 (hf a x h2) (hf b y h3) hm, dt_cmp r1 r2 (hf a x h2) (hf b y h3) hm⟩
    · cases h
  · rename_i op op' b c
    split at h
    · rename_i o o' x y z h1 h2 h3 h4 h5
      split at h
      · cases h
      · rename_i hs
        cases h
        obtain ⟨r, r1, r2⟩ := cop_ok O h1
        obtain ⟨r', r3, r4⟩ := cop_ok O h2
        have hm := last_no (op := op) (op' := op') (b := b) (show isSet c = false by simp at hs; exact hs.2)
        exact ⟨de_chain r1 r2 r3 r4 (hf a x h3) (hf b y h4) (hf c z h5) hm, dt_chain r1 r2 r3 r4 (hf a x h3) (hf b y h4) (hf c z h5) hm⟩
    · cases h
  · cases h
/-- the context of a comprehension's block -/
theorem XOk.blk (O : XOk g P C kF cc X E) (scope : Scope) : Blk X scope fun Y => XOk g P C kF (cc.blk scope) Y noE := fun s H Cd cl fp =>
  ⟨O.K, O.N, O.nd, (by show _ = relS scope cc.sc; rw [← O.sc]; rfl), O.calm, O.room, takes0N, rfl, O.G, (fun z => nomatch z)⟩
theorem stars1 {a : Expr} (h : [a].any isStar = false) : isStar a = false := by simpa using h
theorem isA_fn : (isA "int" = isint) ∧ (isA "bool" = isbool) ∧ (isA "str" = isstr) ∧ (isA "tuple" = istup) ∧ (isA "list" = islst) := ⟨rfl, rfl, rfl, rfl, rfl⟩
theorem isi_ok (O : XOk g P C kF cc X E) {t : Str} {p : P1} (h : tyOf t = some p) (gi : cc.blt "isinstance" = true) (gt : cc.blt t = true) (hn : cc.gl.lookup t = none) {fa : Env → M D} (ha : PE X a (tD g E fa)) (hs : isStar a = false) {p1 p2 : Pos} :
    PE X (.Call (.Name "isinstance" p1) [a, .Name t p2] [] pos) (tD g E fun env => bd (fa env) fun x => prim1 p x) := by
  have mi : X.mg "isinstance" = none := O.G.blt _ (by simp [bltN])
  have go : ∀ {T : String}, knownT T = true → (∀ d, prim1 p d = ret (.bl (isA T d))) → t = T → bootBuiltins t = some (.type T) → t ≠ "__name__" → (t == ("__debug__" : Str)) = false → t ∈ bltN → PE X (.Call (.Name "isinstance" p1) [a, .Name t p2] [] pos) (tD g E fun env => bd (fa env) fun x => prim1 p x) := fun {T} hT hp _ hv hn1 hd hm => by
    have e : (fun env => bd (fa env) fun x => prim1 p x) = fun env => bd (fa env) fun d => ret (.bl (isA T d)) := by
      funext env
      congr 1
      funext d
      exact hp d
    rw [e]
    exact de_isi (hT := hT) O.K (O.isG gi) mi (O.isG gt) (O.G.none t hn hm) hv hn1 hd ha (star_no hs)
  unfold tyOf at h
  split at h
  · rename_i e; cases h; subst e; exact go (T := "int") rfl (fun _ => rfl) rfl boot_int (by decide) (by decide) (by simp [bltN])
  · split at h
    · rename_i e; cases h; subst e; exact go (T := "bool") rfl (fun _ => rfl) rfl boot_bool (by decide) (by decide) (by simp [bltN])
    · split at h
      · rename_i e; cases h; subst e; exact go (T := "str") rfl (fun _ => rfl) rfl boot_str (by decide) (by decide) (by simp [bltN])
      · split at h
        · rename_i e; cases h; subst e; exact go (T := "tuple") rfl (fun _ => rfl) rfl boot_tuple (by decide) (by decide) (by simp [bltN])
        · split at h
          · rename_i e; cases h; subst e; exact go (T := "list") rfl (fun _ => rfl) rfl boot_list (by decide) (by decide) (by simp [bltN])
          · cases h
theorem p1_ok (O : XOk g P C kF cc X E) {f : Str} {p : P1} (h : p1Of f = some p) (gf : cc.blt f = true) {fa : Env → M D} (ha : PE X a (tD g E fa)) (hs : isStar a = false) {q : Pos} :
    PE X (.Call (.Name f q) [a] [] pos) (tD g E fun env => bd (fa env) fun x => prim1 p x) := by
  have G := O.isG gf
  have s1 := star_no (es := []) (env := X.env) hs
  unfold p1Of at h
  split at h
  · rename_i e; cases h; subst e; exact de_b1 (cr_len O.K) o1_len G (O.G.blt _ (by simp [bltN])) boot_len (by decide) (by decide) ha s1
  · split at h
    · rename_i e; cases h; subst e; exact de_ty1 call_int1 o1_int G (O.G.blt _ (by simp [bltN])) boot_int (by decide) (by decide) ha s1
    · split at h
      · rename_i e; cases h; subst e; exact de_ty1 call_bool1 o1_bool G (O.G.blt _ (by simp [bltN])) boot_bool (by decide) (by decide) ha s1
      · split at h
        · rename_i e; cases h; subst e; exact de_b1 call_abs o1_abs G (O.G.blt _ (by simp [bltN])) boot_abs (by decide) (by decide) ha s1
        · split at h
          · rename_i e; cases h; subst e; exact de_b1 (by have z := cr_min O.calm; rw [O.K] at z; exact z) o1_min G (O.G.blt _ (by simp [bltN])) boot_min (by decide) (by decide) ha s1
          · split at h
            · rename_i e; cases h; subst e; exact de_b1 (by have z := cr_max O.calm; rw [O.K] at z; exact z) o1_max G (O.G.blt _ (by simp [bltN])) boot_max (by decide) (by decide) ha s1
            · split at h
              · rename_i e; cases h; subst e; exact de_b1 (by have z := cr_sum O.calm; rw [O.K] at z; exact z) o1_sum G (O.G.blt _ (by simp [bltN])) boot_sum (by decide) (by decide) ha s1
              · split at h
                · rename_i e; cases h; subst e; exact de_ty1 call_str_int o1_str G (O.G.blt _ (by simp [bltN])) boot_str (by decide) (by decide) ha s1
                · cases h
theorem p2_ok (O : XOk g P C kF cc X E) {f : Str} {p : P2} (h : p2Of f = some p) (gf : cc.blt f = true) {fa fb : Env → M D} (ha : PE X a (tD g E fa)) (hb : PE X b (tD g E fb)) (hs : [a, b].any isStar = false) {q : Pos} :
    PE X (.Call (.Name f q) [a, b] [] pos) (tD g E fun env => bd (fa env) fun x => bd (fb env) fun y => prim2 p x y) := by
  have G := O.isG gf
  have hs : isStar a = false ∧ isStar b = false := by simpa using hs
  unfold p2Of at h
  split at h
  · rename_i e; cases h; subst e; exact de_b2 (call_max2 O.calm) o2_max G (O.G.blt _ (by simp [bltN])) boot_max (by decide) (by decide) ha hb (star_no hs.1) (star_no hs.2)
  · split at h
    · rename_i e; cases h; subst e; exact de_b2 (call_min2 O.calm) o2_min G (O.G.blt _ (by simp [bltN])) boot_min (by decide) (by decide) ha hb (star_no hs.1) (star_no hs.2)
    · cases h
end
end Z
end
section
/-! ZCg: generator expressions: what the core language tells is what the text does. -/
namespace Z
open PySem PySem.Spec PyProof.Rows L2
section
variable {g : Gl0} {P : Prog} {C : Nat → List D → M D} {kF : Nat} {cc : CC} {X : Cx} {E : XK} {a b c e : Expr} {pos : Pos} {scope : Scope} {x : Str}
theorem genS_by (sc : X.env.scope = cc.sc) (ok : X.Ok) (h : genSB cc.sc scope x = true) : GxR.GenS X.env scope x := by
  unfold genSB at h
  simp only [Bool.and_eq_true, Bool.or_eq_true, Bool.not_eq_true', decide_eq_true_eq, decide_eq_false_iff_not, List.all_eq_true] at h
  obtain ⟨⟨⟨⟨h1, h2⟩, h3⟩, h4⟩, h5⟩ := h
  refine ⟨h1, h2, fun y hy => (h5 y hy).1, h3, h4, fun y hy e => ?_⟩
  rcases (h5 y hy).2 with (z | z) | z
  · exact absurd e z
  · exact ok.has _ (.inl (by show X.env.scope.names.lookup y.1 = _; rw [sc]; exact z))
  · exact ok.has _ (.inr (by show X.env.scope.names.lookup y.1 = _; rw [sc]; exact z))
/-- a value -/
theorem gX_ok (O : XOk g P C kF cc X E) (Sc : GxR.GenS X.env scope x) (hd : dbg x = false) {Pt : Addr} {pins : List (Addr × Obj)} {σ : L2.St} {H1 : Hp} {s1 : Shared} {xv : V} (I : Inv X pins σ H1 s1) (nP : H1 Pt ≠ none) (old : ∃ o, s1.heap.get? Pt = some o ∧ o.cls = .none) :
    ∀ (n : Nat) {e : Expr} {ge : GE} {y : V}, gX cc scope x n e = some ge → GVr g.K σ H1 xv ge y → GeX.QEv X scope x Pt s1 e xv y
  | 0, e, ge, y, h, _ => by cases h
  | n + 1, e, ge, y, h, v => by
    cases e with
    | Name m p =>
      have h : (if m = x then some GE.x else if (decide (scope.names.lookup m = some .free) && (decide (cc.k m = some .cell) || decide (cc.k m = some .free)) && !dbg m) = true then (cc.ix m).map .v else none) = some ge := h
      by_cases em : m = x
      · rw [if_pos em] at h
        cases h
        cases v
        rw [em]
        exact GeX.QEv.own Sc (dbg_no hd).1
      · rw [if_neg em] at h
        split at h
        · rename_i hc
          simp only [Bool.and_eq_true, Bool.or_eq_true, Bool.not_eq_true', decide_eq_true_eq] at hc
          obtain ⟨⟨c1, c2⟩, c3⟩ := hc
          cases q : cc.ix m with
          | none => rw [q] at h; cases h
          | some i =>
            rw [q] at h
            cases h
            obtain ⟨i1, i2, i3, i4⟩ := O.ix q
            cases v with
            | v hs => exact GeX.QEv.free I nP Sc i1 i2 hs c1 (by show X.env.scope.names.lookup m = _ ∨ X.env.scope.names.lookup m = _; rw [O.sc]; exact c2) i3 i4
        · cases h
    | Constant cn k p =>
      cases cn with
      | int i =>
        have h : some (GE.k i) = some ge := h
        cases h
        cases v
        exact GeX.QEv.int
      | _ => cases h
    | BinOp a op b p =>
      cases op with
      | Add =>
        have h : (match gX cc scope x n a, gX cc scope x n b with
          | some u, some v => some (GE.add u v)
          | _, _ => none) = some ge := h
        split at h
        · rename_i u w h1 h2
          cases h
          cases v with
          | add v1 v2 => exact GeX.QEv.add (gX_ok O Sc hd I nP old n h1 v1) (gX_ok O Sc hd I nP old n h2 v2)
        · cases h
      | _ => cases h
    | Subscript a b p =>
      have h : (if isSlice b = true then none else (match gX cc scope x n a, gX cc scope x n b with
          | some u, some v => some (GE.ix u v)
          | _, _ => none)) = some ge := h
      split at h
      · cases h
      · rename_i hb
        split at h
        · rename_i u w h1 h2
          cases h
          cases v with
          | ix v1 v2 hq he => exact GeX.QEv.ix I old (gX_ok O Sc hd I nP old n h1 v1) (gX_ok O Sc hd I nP old n h2 v2) (by rw [O.K]; exact hq) he (slice_no (by simpa using hb))
        · cases h
    | _ => cases h
theorem gtX_ok (O : XOk g P C kF cc X E) (Sc : GxR.GenS X.env scope x) (hd : dbg x = false) {Pt : Addr} {pins : List (Addr × Obj)} {σ : L2.St} {H1 : Hp} {s1 : Shared} {xv : V} (I : Inv X pins σ H1 s1) (nP : H1 Pt ≠ none) (old : ∃ o, s1.heap.get? Pt = some o ∧ o.cls = .none)
    {ifs : List Expr} {t : GT} {b : Bool} (h : gtX cc scope x ifs = some t) (v : GTr g.K σ H1 xv t b) : GeX.QTs X scope x Pt s1 ifs xv b := by
  unfold gtX at h
  split at h
  · cases h
    cases v
    exact GeX.QTs.none_
  · rename_i a op b' p
    split at h
    · cases h
    · rename_i hs
      have hs : isSet b' = false := by simpa using hs
      split at h
      · rename_i u w h1 h2
        cases h
        cases v with
        | gt v1 v2 => exact GeX.QTs.cmp (gX_ok O Sc hd I nP old 20 h1 v1) (gX_ok O Sc hd I nP old 20 h2 v2) GeX.CmpQ.gt (mark_no hs)
      · rename_i u w h1 h2
        cases h
        cases v with
        | notin v1 v2 hq f1 f2 => exact GeX.QTs.cmp (gX_ok O Sc hd I nP old 20 h1 v1) (gX_ok O Sc hd I nP old 20 h2 v2) (GeX.CmpQ.notin I old (by rw [O.K]; exact hq) f1 f2) (mark_no hs)
      · cases h
  · cases h
theorem gsX_ok (O : XOk g P C kF cc X E) {f : Expr → Option Z.E} (hf : ∀ e c, f e = some c → PE X e (tD g E (ev P C c))) {iter : Expr} {i : I} (h : gsX f cc iter = some i) : GSr X g E iter (gsrc P C i) ∧ ∀ v, genFold iter X.env v = pure v := by
  have val : ∀ {e : Expr} {i : I}, (f e).map I.val = some i → GSr X g E e (gsrc P C i) := fun {e i} h => by
    cases q : f e with
    | none => rw [q] at h; cases h
    | some c =>
      rw [q] at h
      cases h
      exact gsr_val O.K (hf e c q)
  unfold gsX at h
  split at h
  · exact ⟨val h, fun _ => rfl⟩
  · split at h
    · rename_i hr
      rw [Bool.and_eq_true, decide_eq_true_eq] at hr
      obtain ⟨rfl, hr⟩ := hr
      split at h
      · cases h
      · rename_i a _ hs
        have hs : isStar a = false := by simpa using hs
        cases q : f a with
        | none => rw [q] at h; cases h
        | some c =>
          rw [q] at h
          cases h
          exact ⟨gsr_rg1 (O.isG hr) (O.G.blt _ (by simp [bltN])) (hf a c q) (star_no hs), fun _ => rfl⟩
    · exact ⟨val h, fun _ => rfl⟩
  · exact ⟨val h, fun _ => rfl⟩
  · cases h
theorem gen_ok0 (O : XOk g P C kF cc X E) (ok : X.Ok) {f : Expr → Option Z.E} (hf : ∀ e c, f e = some c → PE X e (tD g E (ev P C c))) {r : Z.E} {p : Pos} (gt : cc.blt "tuple" = true) (h : genX f cc e = some r) : PE X (.Call (.Name "tuple" p) [e] [] pos) (tD g E (ev P C r)) := by
  unfold genX at h
  split at h
  · rename_i elt x px iter ifs as scope gpos
    split at h
    · rename_i hc
      simp only [Bool.and_eq_true, Bool.not_eq_true', decide_eq_true_eq] at hc
      obtain ⟨⟨⟨⟨c0, c1⟩, c2⟩, c3⟩, c4⟩ := hc
      subst c0
      split at h
      · rename_i it t ge h1 h2 h3
        cases h
        obtain ⟨s1, s2⟩ := gsX_ok O hf h1
        obtain ⟨cd, Pt, q, l0, l1, l2, l3, l4, l5⟩ := O.lm c1
        rw [c2] at l3 l4
        subst l0
        have Sc := genS_by (x := x) O.sc ok c3
        exact de_tupG O.K l5 (O.isG gt) (O.G.blt _ (by simp [bltN])) l2 l1 l3 l4 Sc s1 s2 fun pins σ H1 s1 xv I nP old =>
          ⟨fun b v => gtX_ok O Sc c4 I nP old h2 v, fun y v => gX_ok O Sc c4 I nP old 20 h3 v⟩
      · cases h
    · cases h
  · cases h
theorem gen_ok (O : XOk g P C kF cc X E) {f : Expr → Option Z.E} (hf : ∀ e c, f e = some c → PE X e (tD g E (ev P C c))) {r : Z.E} {p : Pos} (gt : cc.blt "tuple" = true) (h : genX f cc e = some r) : PE X (.Call (.Name "tuple" p) [e] [] pos) (tD g E (ev P C r)) :=
  ⟨fun pins s σ H Q I q => (gen_ok0 O I.ok hf gt h).run pins s σ H Q I q⟩
end
end Z
end
section
/-! ZCt: the core language tells what the text does: all expressions. -/
namespace Z
open PySem PySem.Spec PyProof.Rows L2
section
variable {g : Gl0} {P : Prog} {C : Nat → List D → M D} {kF : Nat} {cc : CC} {X : Cx} {E : XK} {a b c e : Expr} {pos : Pos} {f : Expr → Option Z.E}
theorem map_some {α β : Type} {f : α → β} {o : Option α} {r : β} (h : o.map f = some r) : ∃ x, o = some x ∧ r = f x := by
  cases o with
  | none => cases h
  | some x => cases h; exact ⟨x, rfl, rfl⟩
/-- what f tells is so -/
abbrev Tells (g : Gl0) (P : Prog) (C : Nat → List D → M D) (X : Cx) (E : XK) (f : Expr → Option Z.E) : Prop := ∀ e c, f e = some c → PE X e (tD g E (ev P C c))
abbrev TellsT (g : Gl0) (P : Prog) (C : Nat → List D → M D) (X : Cx) (E : XK) (f : Expr → Option Z.E) : Prop := ∀ e c, f e = some c → PT X e (tTst g E (tst P C c))
/-- a comprehension -/
def LcOk (g : Gl0) (P : Prog) (C : Nat → List D → M D) (X : Cx) (E : XK) (elt : Expr) (gs : List Comprehension) (scope : Scope) (c : Z.E) : Prop :=
  ∃ (tg iter : Expr) (ifs : List Expr) (t : T) (it : I) (own : List (Str × Nat)) (tt : TT) (te : TE) (body : Env → M (Option D)), gs = [⟨tg, iter, ifs, 0⟩] ∧ PI X tg iter (tI g E (walk P C it)) ∧ BlkOk X.N X.env.scope scope own ∧ own.map (·.2) = t.own ∧
    (Blk X scope fun Y => PG Y tg (gD g t)) ∧ (∀ v, foldedSetIterable iter X.env v = pure v) ∧ BodyR g tt te body ∧ MonoT tt ∧ MonoE te ∧ (Blk X scope fun Y => PTs Y ifs tt) ∧ (Blk X scope fun Y => PE Y elt te) ∧
      ev P C c = fun env => bd (walk P C it env) fun w => bd (calm (lcL w (fun d => bd (bindT t d (wipeE env t.own)) body) 0 w.len)) fun l => new l
theorem LcOk.pe {elt : Expr} {gs : List Comprehension} {scope : Scope} {c : Z.E} (hc : X.calm = true) (nd : X.N.Nodup) (h : LcOk g P C X E elt gs scope c) : PE X (.ListComp elt gs scope pos) (tD g E (ev P C c)) := by
  obtain ⟨tg, iter, ifs, t, it, own, tt, te, body, e1, hi, ok, ho, hg, hs, hB, mt, me, ht, he, ev1⟩ := h
  subst e1
  rw [ev1]
  exact (pe_lc hc nd hi ok hg ht he hs).imp fun σ H Q h => by
    rw [ho]
    exact lc_read hB mt me h
theorem lc_ok {fb ft : Expr → Option Z.E} (O : XOk g P C kF cc X E) (hf : Tells g P C X E f) {elt : Expr} {gs : List Comprehension} {scope : Scope} {c : Z.E} (hb : Blk X scope fun Y => Tells g P C Y noE fb) (ht : Blk X scope fun Y => TellsT g P C Y noE ft)
    (h : lcX f fb ft cc (cc.blk scope) elt gs scope = some c) : LcOk g P C X E elt gs scope c := by
  unfold lcX at h
  split at h
  · rename_i gc
    obtain ⟨tg, iter, ifs, as⟩ := gc
    dsimp only at h
    split at h
    · rename_i ha
      subst ha
      split at h
      · rename_i t it x h1 h2 h3
        split at h
        · rename_i hc
          rw [Bool.and_eq_true, decide_eq_true_eq] at hc
          obtain ⟨hB, ho⟩ := hc
          have ok := blkOk_by hB
          rw [← O.N, ← O.sc] at ok
          have hi := iter_ok O hf h2
          have hg : Blk X scope fun Y => PG Y tg (gD g t) := fun s H Cd cl fp => tg_ok (O.blk scope s H Cd cl fp) h1
          have he : Blk X scope fun Y => PE Y elt (tD g noE (ev P C x)) := fun s H Cd cl fp => hb s H Cd cl fp elt x h3
          have hs : ∀ v, foldedSetIterable iter X.env v = pure v := by
            refine set_no ?_
            cases iter <;> first | rfl | cases h2
          split at h
          · cases h
            exact ⟨tg, iter, [], t, it, _, _, _, _, rfl, hi, ok, ho, hg, hs, bodyR_all, mono_yes, mono_tD, fun _ _ _ _ _ => pts_nil, he, rfl⟩
          · rename_i y r
            split at h
            · obtain ⟨z, e1, rfl⟩ := map_some h
              have ht' : Blk X scope fun Y => PT Y y (tTst g noE (tst P C z)) := fun s H Cd cl fp => ht s H Cd cl fp y z e1
              exact ⟨tg, iter, [y], t, it, _, _, _, _, rfl, hi, ok, ho, hg, hs, bodyR_if, mono_tTst, mono_tD, fun s H Cd cl fp => pts_one (ht' s H Cd cl fp), he, rfl⟩
            · cases h
        · cases h
      · cases h
    · cases h
  · cases h
theorem blt_ok (O : XOk g P C kF cc X E) (hf : Tells g P C X E f) {x : Str} {args : List Expr} {c : Z.E} (gf : cc.blt x = true) (hs : args.any isStar = false) {p : Pos} (h : bltX f cc x args = some c) : PE X (.Call (.Name x p) args [] pos) (tD g E (ev P C c)) := by
  unfold bltX at h
  split at h
  · rename_i a
    have hs1 := stars1 hs
    split at h
    · rename_i pp hp
      obtain ⟨y, e1, rfl⟩ := map_some h
      exact p1_ok O hp gf (hf a y e1) hs1
    · split at h
      · rename_i e
        subst e
        split at h
        · exact gen_ok O hf gf h
        · obtain ⟨y, e1, rfl⟩ := map_some h
          exact (conv_ok O hf e1 hs1).1 gf
      · split at h
        · rename_i e
          subst e
          obtain ⟨y, e1, rfl⟩ := map_some h
          exact (conv_ok O hf e1 hs1).2 gf
        · cases h
  · rename_i a b
    split at h
    · rename_i pp hp
      split at h
      · rename_i y z e1 e2
        cases h
        exact p2_ok O hp gf (hf a y e1) (hf b z e2) hs
      · cases h
    · split at h
      · rename_i e
        subst e
        split at h
        · rename_i t q
          split at h
          · rename_i hc
            rw [Bool.and_eq_true] at hc
            split at h
            · rename_i pp y hp e1
              cases h
              have hs1 : isStar a = false := by
                rw [List.any_cons, Bool.or_eq_false_iff] at hs
                exact hs.1
              exact isi_ok O hp gf hc.1 (by simpa using hc.2) (hf a y e1) hs1
            · cases h
          · cases h
        · cases h
      · cases h
  · cases h
theorem name_ok {fl : Scope → Expr → Option Z.E} (O : XOk g P C kF cc X E) (hf : Tells g P C X E f) (hl : ∀ (scope : Scope) (Y : Cx) (E' : XK), XOk g P C kF (cc.lmb scope) Y E' → Tells g P C Y E' (fl scope)) {x : Str} {p : Pos} {args : List Expr} {c : Z.E} (h : nameX f fl cc x args = some c) :
    PE X (.Call (.Name x p) args [] pos) (tD g E (ev P C c)) := by
  unfold nameX at h
  split at h
  · cases h
  · rename_i hs
    have hs : args.any isStar = false := by simpa using hs
    split at h
    · -- an own def
      rename_i i np hr
      obtain ⟨g1, g2, g3⟩ := O.ref hr
      obtain ⟨m1, m2, ⟨fd, ps, F, B⟩, m4⟩ := O.G.fn x i np g3
      split at h
      · obtain ⟨cs, e1, rfl⟩ := map_some h
        have ha := args_ok hf e1 hs
        cases args with
        | nil =>
          rw [mapO_nil e1]
          exact de_call0 F O.room g1 m1 m2 B O.tk m4 g2
        | cons e es =>
          rw [List.any_cons, Bool.or_eq_false_iff] at hs
          exact de_call F O.room g1 m1 m2 B O.tk m4 g2 ha (star_no hs.1) (stars_no hs.2)
      · cases h
    · -- a def that hears
      rename_i hh hr
      obtain ⟨g1, g2, g3⟩ := O.ref hr
      split at h
      · rename_i ps body scope lp _
        split at h
        · rename_i hc
          simp only [Bool.and_eq_true] at hc
          obtain ⟨⟨⟨c1, c0⟩, c2⟩, c3⟩ := hc
          have c0 : cc.gen = false := by simpa using c0
          obtain ⟨y, e1, rfl⟩ := map_some h
          obtain ⟨hd, Ng, sg, a, csn, e, s, cn, rs0, rs, xs, rest, gf, pg, dV, kV, doc, pm, cdv, ct, oc, an, od, osl, j, k1, q1, q2, q3, q4, q5, q6, q7, q8, q9, q10, q11, r1, r2, r3, r4, r5, r6, r7, r8, r9, r10, r11, r12⟩ := O.G.heard x hh g3
          obtain ⟨cd, Pt, q, l0, l1, l2, l3, l4, l5⟩ := O.lm c1
          rw [c0] at l3 l4
          subst l0
          have L : LamX.LamS X.env.scope scope := by rw [O.sc]; exact LamX.lamS_by c3
          have ep : ps = ⟨[], [], none, [], [], none, []⟩ := by
            unfold lamNone at c2
            split at c2
            · rfl
            · cases c2
          subst ep
          have z := de_heard (g := g) (X := X) (P := P) (hd := hd) (E := E) (fe := ev P C y) (p := p) (lpos := lp) (pos := pos) (body := body) (scope := scope) (params := ⟨[], [], none, [], [], none, []⟩) (k := kF) r2 r3 r4 g1 r5 r6 r7 r8 r9 r10 l2 l1 l3 l4 l5 L (by rfl) (fun _ _ _ _ _ => by rfl)
            (fun A outer s' H' Ech f' c' hroom => hl scope (LamX.lamCxN X A outer s' H' Ech scope f' c') Ech ⟨O.K, O.N, O.nd, rfl, rfl, hroom, L2N.takes_of rfl rfl rfl rfl, rfl, O.G, (fun z => nomatch z)⟩ body y e1) g2 r11 r12
          have ee : ev P C (.heard hh y) = fun env => hearM P hd (ev P C y env) := by
            funext env
            show (match P.hears[hh]? with | none => stuck | some hd => hearM P hd (ev P C y env)) = _
            rw [r1]
          rw [ee]
          exact z
        · cases h
      · cases h
    · cases h
    · cases h
    · split at h
      · rename_i gf
        exact blt_ok O hf gf hs h
      · cases h
theorem meth_ok (O : XOk g P C kF cc X E) (hf : Tells g P C X E f) {l : Expr} {m : Str} {ap : Pos} {args : List Expr} {c : Z.E} (h : methX f l m ap args pos = some c) : PE X (.Call (.Attribute l m ap) args [] pos) (tD g E (ev P C c)) := by
  unfold methX at h
  split at h
  · cases h
  · rename_i hs
    have h1 : isCall l = false := by
      cases q : isCall l with
      | false => rfl
      | true => rw [q] at hs; exact absurd rfl hs
    have h2 : (ap.endLine == pos.line) = true := by
      cases q : (ap.endLine == pos.line) with
      | true => rfl
      | false => rw [q] at hs; simp at hs
    have h3 : args.any isStar = false := by
      cases q : args.any isStar with
      | false => rfl
      | true => rw [q] at hs; simp at hs
    split at h
    · rename_i a
      split at h
      · rename_i x y e1 e2
        split at h
        · rename_i e
          subst e
          cases h
          exact de_app O.K (hf l x e1) (hf a y e2) (base_no h1) h2 (star_no (stars1 h3))
        · split at h
          · rename_i e
            subst e
            cases h
            exact de_ext O.K (hf l x e1) (hf a y e2) (base_no h1) h2 (star_no (stars1 h3))
          · cases h
      · cases h
    · split at h
      · rename_i e
        subst e
        obtain ⟨x, e1, rfl⟩ := map_some h
        exact de_pop O.K (hf l x e1) (base_no h1) h2
      · cases h
    · cases h
theorem sub_ok (O : XOk g P C kF cc X E) (hf : Tells g P C X E f) {a i : Expr} {c : Z.E} (h : subX f a i = some c) : PE X (.Subscript a i pos) (tD g E (ev P C c)) := by
  have plain : isSlice i = false → (match f a, f i with
        | some x, some y => some (Z.E.ix x y)
        | _, _ => none) = some c → PE X (.Subscript a i pos) (tD g E (ev P C c)) := fun hi h => by
    split at h
    · rename_i x y e1 e2
      cases h
      exact de_ix O.K (hf a x e1) (hf i y e2) (slice_no hi)
    · cases h
  cases i with
  | Slice lo hi st p =>
    unfold subX at h
    dsimp only at h
    split at h
    · split at h
      · rename_i x y z e1 e2 e3
        cases h
        exact de_sl O.K (hf _ x e1) (hf _ y e2) (hf _ z e3)
      · cases h
    · split at h
      · rename_i x y e1 e2
        cases h
        exact de_slo O.K (hf _ x e1) (hf _ y e2)
      · cases h
    · split at h
      · rename_i x y e1 e2
        cases h
        exact de_shi O.K (hf _ x e1) (hf _ y e2)
      · cases h
    · split at h
      · rename_i hst
        obtain ⟨x, e1, rfl⟩ := map_some h
        unfold isOneC at hst
        split at hst
        · have ei := of_decide_eq_true hst
          subst ei
          exact de_rev O.K (hf _ x e1)
        · cases hst
      · cases h
    · cases h
  | _ => exact plain rfl h
theorem var_ok (O : XOk g P C kF cc X E) {x : Str} {c : Z.E} (h : varX cc x = some c) : PE X (.Name x pos) (tD g E (ev P C c)) := by
  unfold varX at h
  split at h
  · rename_i i hi
    cases h
    obtain ⟨h1, h2, h3, h4⟩ := O.ix hi
    exact de_var h1 h2 h3 h4
  · split at h
    · rename_i i hr
      cases h
      obtain ⟨g1, g2, g3⟩ := O.ref hr
      obtain ⟨t, e1⟩ := O.G.con x i g3
      exact de_const (pe_glob (v := .int i) g1 e1 ⟨t, rfl⟩ g2) fun _ _ => .int i
    · cases h
/-- the statement for fuel n -/
def Good (g : Gl0) (P : Prog) (C : Nat → List D → M D) (kF n : Nat) : Prop := ∀ (cc : CC) (X : Cx) (E : XK), XOk g P C kF cc X E → Tells g P C X E (cX n false cc) ∧ TellsT g P C X E (cX n true cc)
theorem good_zero : Good g P C kF 0 := fun _ _ _ O => ⟨fun e c h => (nomatch h), fun e c h => (nomatch h)⟩
theorem val_ok {n : Nat} (ih : Good g P C kF n) (O : XOk g P C kF cc X E) : Tells g P C X E (cX (n + 1) false cc) := by
  intro e c h
  cases e with
  | Constant cn k p =>
    simp only [cX] at h
    obtain ⟨d, e1, rfl⟩ := map_some h
    exact con_ok e1
  | Name x p => exact var_ok O h
  | BinOp a op b p =>
    simp only [cX] at h
    split at h
    · rename_i o x y e1 e2 e3
      cases h
      exact bin_ok O e1 ((ih _ _ _ O).1 a x e2) ((ih _ _ _ O).1 b y e3)
    · cases h
  | UnaryOp op a p =>
    cases op with
    | USub =>
      simp only [cX] at h
      obtain ⟨x, e1, rfl⟩ := map_some h
      exact de_neg ((ih _ _ _ O).1 a x e1)
    | Not =>
      simp only [cX] at h
      obtain ⟨x, e1, rfl⟩ := map_some h
      exact de_not ((ih _ _ _ O).1 a x e1)
    | Invert => cases h
    | UAdd => cases h
  | BoolOp op vs p => exact bool_val (ih _ _ _ O).1 h
  | Compare a os cs p => exact (cmp_ok O (ih _ _ _ O).1 h).1
  | IfExp t a b p =>
    simp only [cX] at h
    split at h
    · rename_i x y z e1 e2 e3
      cases h
      exact de_ite ((ih _ _ _ O).2 t x e1) ((ih _ _ _ O).1 a y e2) ((ih _ _ _ O).1 b z e3)
    · cases h
  | Tuple es k p =>
    simp only [cX] at h
    split at h
    · cases h
    · rename_i hs
      obtain ⟨x, e1, rfl⟩ := map_some h
      exact de_tup (args_ok (ih _ _ _ O).1 e1 (by simpa using hs))
  | List es p =>
    simp only [cX] at h
    split at h
    · cases h
    · rename_i hs
      obtain ⟨x, e1, rfl⟩ := map_some h
      exact de_lst (args_ok (ih _ _ _ O).1 e1 (by simpa using hs))
  | Subscript a i p => exact sub_ok O (ih _ _ _ O).1 h
  | ListComp elt gens scope p =>
    exact (lc_ok O (ih _ _ _ O).1 (fun s H Cd cl fp => (ih _ _ _ (O.blk scope s H Cd cl fp)).1) (fun s H Cd cl fp => (ih _ _ _ (O.blk scope s H Cd cl fp)).2) h).pe O.calm (by rw [O.N]; exact O.nd)
  | Call f args kws p =>
    cases kws with
    | cons k ks => cases h
    | nil =>
      cases f with
      | Name x q => exact name_ok O (ih _ _ _ O).1 (fun scope Y E' O' => (ih _ _ _ O').1) h
      | Attribute l m q => exact meth_ok O (ih _ _ _ O).1 h
      | _ => cases h
  | _ => cases h
theorem plain_v {e : Expr} (h : vOnly e = true) : plainT e = true := by
  cases e <;> first | rfl | cases h
/-- where the meaning of a text is no test's, its truth is asked -/
theorem tst_plain {n : Nat} {e : Expr} {c : Z.E} (hv : vOnly e = true) (h : cX n false cc e = some c) : tst P C c = fun σ => bd (ev P C c σ) truth := by
  cases n with
  | zero => cases h
  | succ n =>
    cases e with
    | Constant cn k p =>
      obtain ⟨d, e1, rfl⟩ := map_some h
      rfl
    | Name x p =>
      have h : varX cc x = some c := h
      unfold varX at h
      split at h
      · cases h; rfl
      · split at h
        · cases h; rfl
        · cases h
    | BinOp a op b p =>
      simp only [cX] at h
      split at h
      · cases h; rfl
      · cases h
    | Tuple es k p =>
      simp only [cX] at h
      split at h
      · cases h
      · obtain ⟨d, e1, rfl⟩ := map_some h
        rfl
    | List es p =>
      simp only [cX] at h
      split at h
      · cases h
      · obtain ⟨d, e1, rfl⟩ := map_some h
        rfl
    | Subscript a i p =>
      have h : subX (cX n false cc) a i = some c := h
      unfold subX at h
      split at h
      · split at h
        · split at h <;> first | (cases h; rfl) | cases h
        · split at h <;> first | (cases h; rfl) | cases h
        · split at h <;> first | (cases h; rfl) | cases h
        · split at h
          · obtain ⟨d, e1, rfl⟩ := map_some h
            rfl
          · cases h
        · cases h
      · split at h <;> first | (cases h; rfl) | cases h
    | ListComp elt gs scope p =>
      have h : lcX (cX n false cc) (cX n false (cc.blk scope)) (cX n true (cc.blk scope)) cc (cc.blk scope) elt gs scope = some c := h
      unfold lcX at h
      split at h
      · split at h
        · split at h
          · split at h
            · split at h
              · cases h; rfl
              · split at h
                · obtain ⟨d, e1, rfl⟩ := map_some h
                  rfl
                · cases h
            · cases h
          · cases h
        · cases h
      · cases h
    | Call f args kws p =>
      cases kws with
      | cons k ks => cases h
      | nil =>
        cases f with
        | Name x q =>
          have h : nameX (cX n false cc) (fun scope body => cX n false (cc.lmb scope) body) cc x args = some c := h
          unfold nameX at h
          split at h
          · cases h
          · split at h
            · split at h
              · obtain ⟨d, e1, rfl⟩ := map_some h
                rfl
              · cases h
            · split at h
              · split at h
                · obtain ⟨d, e1, rfl⟩ := map_some h
                  rfl
                · cases h
              · cases h
            · cases h
            · cases h
            · split at h
              · unfold bltX at h
                split at h
                · split at h
                  · obtain ⟨d, e1, rfl⟩ := map_some h
                    rfl
                  · split at h
                    · split at h
                      · unfold genX at h
                        split at h
                        · split at h
                          · split at h
                            · cases h; rfl
                            · cases h
                          · cases h
                        · cases h
                      · obtain ⟨d, e1, rfl⟩ := map_some h
                        rfl
                    · split at h
                      · obtain ⟨d, e1, rfl⟩ := map_some h
                        rfl
                      · cases h
                · split at h
                  · split at h
                    · cases h; rfl
                    · cases h
                  · split at h
                    · split at h
                      · split at h
                        · split at h
                          · cases h; rfl
                          · cases h
                        · cases h
                      · cases h
                    · cases h
                · cases h
              · cases h
        | Attribute l m q =>
          have h : methX (cX n false cc) l m q args p = some c := h
          unfold methX at h
          split at h
          · cases h
          · split at h
            · split at h
              · split at h
                · cases h; rfl
                · split at h
                  · cases h; rfl
                  · cases h
              · cases h
            · split at h
              · obtain ⟨d, e1, rfl⟩ := map_some h
                rfl
              · cases h
            · cases h
        | _ => cases h
    | _ => cases hv
theorem tst_ok {n : Nat} (ih : Good g P C kF n) (O : XOk g P C kF cc X E) : TellsT g P C X E (cX (n + 1) true cc) := by
  intro e c h
  have plain : (if vOnly e = true then cX n false cc e else none) = some c → PT X e (tTst g E (tst P C c)) := fun h => by
    split at h
    · rename_i hv
      rw [tst_plain hv h]
      exact dt_val O.K ((ih _ _ _ O).1 e c h) (plain_true (plain_v hv))
    · cases h
  cases e with
  | UnaryOp op a p =>
    cases op with
    | Not =>
      obtain ⟨x, e1, rfl⟩ := map_some (show (cX n true cc a).map .nt = some c from h)
      exact dt_not ((ih _ _ _ O).2 a x e1)
    | _ => cases h
  | BoolOp op vs p => exact (bool_tst (ih _ _ _ O).2 h).pt
  | IfExp t a b p =>
    simp only [cX] at h
    split at h
    · rename_i x y z e1 e2 e3
      cases h
      exact dt_ite ((ih _ _ _ O).2 t x e1) ((ih _ _ _ O).2 a y e2) ((ih _ _ _ O).2 b z e3)
    · cases h
  | Compare a os cs p => exact (cmp_ok O (ih _ _ _ O).1 h).2
  | _ => exact plain h
/-- ALL EXPRESSIONS -/
theorem good : ∀ n, Good g P C kF n
  | 0 => good_zero
  | n + 1 => fun _ _ _ O => ⟨val_ok (good n) O, tst_ok (good n) O⟩
end
end Z
end
section
/-! ZCu: the core language tells what the text does: statements. -/
namespace Z
open PySem PySem.Spec PyProof.Rows L2
section
variable {g : Gl0} {P : Prog} {C : Nat → List D → M D} {kF : Nat} {cc : CC} {X : Cx} {E : XK} {a b c e : Expr} {pos : Pos} {f : Expr → Option Z.E}
theorem sw_comp {elt : Expr} {gs : List Comprehension} {scope : Scope} {p py : Pos} {y : Str} {l : Nat} (O : XOk g P C kF cc X E) (hk : cc.sc.kind = .function) : swapsWith (.ListComp elt gs scope p) (some (.Name y py)) l X.env = pure (swB cc y py scope p) := by
  have hb : X.env.blockKind = .function := by unfold Env.blockKind; rw [O.sc, hk]; rfl
  unfold swapsWith swB CC.k
  have e : X.env.kindOf y = cc.sc.names.lookup y := by unfold Env.kindOf; rw [O.sc]
  simp only [hb, e, Expr.pos]
  rfl
theorem sw_plain {tg : Expr} {l : Nat} {env : PySem.Env} (h : isComp e = false) : swapsWith e (some tg) l env = pure false := by
  cases e <;> first | rfl | cases h
theorem sw_none {l : Nat} {env : PySem.Env} (h : isComp e = false) : swapsWith e none l env = pure false := by
  cases e <;> first | rfl | cases h
theorem sw_tup {ts : List Expr} {k : Nat} {p : Pos} {l : Nat} {env : PySem.Env} : swapsWith e (some (.Tuple ts k p)) l env = pure false := by
  cases e <;> rfl
theorem ss_name {x : Str} {p : Pos} {env : PySem.Env} : swappedStores [.Name x p] e env = pure none := by
  cases e <;> rfl
theorem ss_sub {o i : Expr} {p : Pos} {env : PySem.Env} : swappedStores [.Subscript o i p] e env = pure none := by
  cases e <;> rfl
def isTupE : Expr → Bool
  | .Tuple .. => true
  | _ => false
theorem ss_tup {ts : List Expr} {k : Nat} {p : Pos} {env : PySem.Env} (h : isTupE e = false) : swappedStores [.Tuple ts k p] e env = pure none := by
  cases e <;> first | rfl | cases h
/-- the names that may be stored from the last -/
def nmF (env : PySem.Env) (line : Nat) : Expr → Option Str
  | .Name id pos => if env.kindOf id == some .local && pos.line == line then some id else none
  | _ => none
theorem ss_is {ts vs : List Expr} {k k2 : Nat} {p p2 : Pos} {env : PySem.Env} : swappedStores [.Tuple ts k p] (.Tuple vs k2 p2) env = (if (!(ts.length == 2 || ts.length == 3) || vs.length != ts.length || env.blockKind != .function) = true then pure none else
    if vs.any isStar = true then pure none else
    if ((ts.filterMap (nmF env (tsLine ts))).length != ts.length || (ts.filterMap (nmF env (tsLine ts))).eraseDups.length != (ts.filterMap (nmF env (tsLine ts))).length) = true then pure none else
    if vs.all (foldedForSure 8) = true then pure none else
    if vs.all (constantsAlone 8) = true then unsupported "assign.tuple-of-constant-expressions:order-of-the-stores" else pure (some (ts.filterMap (nmF env (tsLine ts))))) := by
  rfl
theorem nm_no (O : XOk g P C kF cc X E) {l : Nat} {t : Expr} (h : locB cc l t = false) : nmF X.env l t = none := by
  cases t with
  | Name x p =>
    have h : ((cc.k x == some .local) && (p.line == l)) = false := h
    show (if (X.env.kindOf x == some .local && p.line == l) = true then some x else none) = none
    have e : X.env.kindOf x = cc.k x := by unfold Env.kindOf CC.k; rw [O.sc]
    rw [e, h]
    rfl
  | _ => rfl
theorem nm_yes (O : XOk g P C kF cc X E) {l : Nat} {x : Str} {p : Pos} (h : locB cc l (.Name x p) = true) : nmF X.env l (.Name x p) = some x := by
  have h : ((cc.k x == some .local) && (p.line == l)) = true := h
  show (if (X.env.kindOf x == some .local && p.line == l) = true then some x else none) = some x
  have e : X.env.kindOf x = cc.k x := by unfold Env.kindOf CC.k; rw [O.sc]
  rw [e, h]
  rfl
theorem fm_all {α β : Type} {f : α → Option β} : ∀ {l : List α}, (l.filterMap f).length = l.length → ∀ x ∈ l, f x ≠ none
  | [], _, x, hx => by cases hx
  | y :: l, h, x, hx => by
    rw [List.filterMap_cons] at h
    have hle := List.length_filterMap_le f l
    cases q : f y with
    | none =>
      rw [q] at h
      simp at h
      omega
    | some z =>
      rw [q] at h
      simp at h
      rcases List.mem_cons.mp hx with e | e
      · rw [e, q]; simp
      · exact Option.isSome_iff_ne_none.mp (h x e)
theorem ss_ord (O : XOk g P C kF cc X E) {ts vs : List Expr} {k k2 : Nat} {p p2 : Pos} (h : inOrd cc ts vs = true) : swappedStores [.Tuple ts k p] (.Tuple vs k2 p2) X.env = pure none := by
  rw [ss_is]
  split
  · rfl
  · rename_i c1
    split
    · rfl
    · split
      · rfl
      · rename_i c3
        split
        · rfl
        · rename_i c4
          exfalso
          unfold inOrd at h
          simp only [Bool.or_eq_true, not_or, Bool.not_eq_true] at h c1 c3 c4
          obtain ⟨⟨d1, d2⟩, d3⟩ := c1
          rcases h with ((h | h) | h) | h
          · rw [h] at d1; cases d1
          · rw [h] at d2; cases d2
          · rw [h] at c4; cases c4
          · obtain ⟨t, ht, hb⟩ := List.any_eq_true.mp h
            have hl : (ts.filterMap (nmF X.env (tsLine ts))).length = ts.length := by
              have z := c3.1
              simpa using z
            exact fm_all hl t ht (nm_no O (by simpa using hb))
theorem par_ok (O : XOk g P C kF cc X E) (hf : Tells g P C X E f) {ts vs : List Expr} {k k2 : Nat} {p p2 : Pos} {c : S} (h : parX f cc ts vs = some c) : PS X (.Assign [.Tuple ts k p] (.Tuple vs k2 p2) pos) (tS g E (ex P C c)) := by
  unfold parX at h
  split at h
  · rename_i t1 t2 a b
    split at h
    · rename_i x px y py
      split at h
      · rename_i i j u v h1 h2 h3 h4
        split at h
        · rename_i hc
          cases h
          simp only [Bool.and_eq_true, decide_eq_true_eq, Bool.not_eq_true'] at hc
          obtain ⟨⟨⟨⟨⟨⟨⟨⟨c1, c2⟩, c3⟩, c4⟩, c5⟩, c6⟩, c7⟩, c8⟩, c9⟩ := hc
          obtain ⟨a1, a2, a3⟩ := O.st h1
          obtain ⟨b1, b2, b3⟩ := O.st h2
          have lx : X.env.scope.names.lookup x = some .local := by
            have z : ((cc.k x == some .local) && (px.line == px.line)) = true := c1
            rw [Bool.and_eq_true] at z
            rw [O.sc]
            simpa [CC.k] using z.1
          have ly : X.env.scope.names.lookup y = some .local := by
            have z : ((cc.k y == some .local) && (py.line == px.line)) = true := c2
            rw [Bool.and_eq_true] at z
            rw [O.sc]
            simpa [CC.k] using z.1
          refine ds_par O.calm (by rw [O.N]; exact O.nd) a1 b1 c4 lx ly (hf a u h3) (hf b v h4) (star_no c5) (star_no c6) ?_
          have tl : tsLine [.Name x px, .Name y py] = px.line := rfl
          have hbk : X.env.blockKind = .function := by unfold Env.blockKind; rw [O.sc, c9]; rfl
          have ef : [Expr.Name x px, .Name y py].filterMap (nmF X.env (tsLine [.Name x px, .Name y py])) = [x, y] := by
            rw [tl, List.filterMap_cons, nm_yes O c1, List.filterMap_cons, nm_yes O c2]
            rfl
          have hs : [a, b].any isStar = false := by
            rw [List.any_cons, List.any_cons, c5, c6]
            rfl
          have hd : ([x, y].eraseDups).length = 2 := by
            have hxy : (y == x) = false := by
              have : x ≠ y := by simpa using c3
              simpa using Ne.symm this
            simp [List.eraseDups_cons, hxy]
          rw [ss_is, ef, hs, hd, c7, c8, hbk]
          rw [if_neg (by simp), if_neg (by decide), if_neg (by simp), if_neg (by decide), if_neg (by decide)]
        · cases h
      · cases h
    · cases h
  · cases h
theorem sub_asg {o i : Expr} {p : Pos} {env : PySem.Env} {v : Value} (h : isSlice i = false) : assign (.Subscript o i p) env v = (do
      let ov ← holding [v] (eval o env)
      let iv ← holding [v, ov] (eval i env)
      standAt p
      holding [v, ov, iv] (setItem ov iv v)
      release [v, ov, iv] []) := by
  rw [assign_Subscript]
  cases i <;> first | rfl | cases h
theorem asg_ok {n : Nat} (O : XOk g P C kF cc X E) {tg e : Expr} {c : S} (h : asgX (cX n false cc) cc tg e = some c) : PS X (.Assign [tg] e pos) (tS g E (ex P C c)) := by
  have hf : Tells g P C X E (cX n false cc) := (good n cc X E O).1
  have nd : X.N.Nodup := by rw [O.N]; exact O.nd
  unfold asgX at h
  split at h
  · rename_i o i p
    split at h
    · cases h
    · rename_i hc
      simp only [Bool.or_eq_true, not_or, Bool.not_eq_true] at hc
      split at h
      · rename_i x y z e1 e2 e3
        cases h
        exact ds_put (hf e z e3) (hf o x e1) (hf i y e2) (show swapsWith e (some (.Subscript o i p)) pos.line X.env = pure false from sw_plain hc.1) ss_sub (fun v => sub_asg hc.2)
      · cases h
  · rename_i x p
    split at h
    · cases h
    · rename_i hc
      split at h
      · rename_i i y e1 e2
        cases h
        obtain ⟨a1, a2, a3⟩ := O.st e1
        have plain : swapsWith e (some (.Name x p)) pos.line X.env = pure false → PS X (.Assign [.Name x p] e pos) (tS g E (ex P C (.set i y))) := fun hs =>
          ds_asg (t := .nm i) (pg_name nd a1 a2 a3) (hf e y e2) fun te gg he hg => ps_asg he hg (show swapsWith e (some (.Name x p)) pos.line X.env = pure false from hs) ss_name (by rfl)
        cases hcm : isComp e with
        | false => exact plain (sw_plain hcm)
        | true =>
          have hk : cc.sc.kind = .function := by
            cases q : decide (cc.sc.kind = .function) with
            | true => exact of_decide_eq_true q
            | false => rw [hcm, q] at hc; exact absurd rfl hc
          cases e with
          | ListComp elt gs scope cp =>
            cases hsw : swB cc x p scope cp with
            | false => exact plain (by rw [sw_comp O hk, hsw])
            | true =>
              cases n with
              | zero => cases e2
              | succ n =>
                have z := lc_ok O (good n cc X E O).1 (fun s H Cd cl fp => (good n _ _ _ (O.blk scope s H Cd cl fp)).1) (fun s H Cd cl fp => (good n _ _ _ (O.blk scope s H Cd cl fp)).2) (show lcX (cX n false cc) (cX n false (cc.blk scope)) (cX n true (cc.blk scope)) cc (cc.blk scope) elt gs scope = some y from e2)
                obtain ⟨tg, iter, ifs, t, it, own, tt, te, body, g1, hi, ok, ho, hg, hs, hB, mt, me, ht, he, ev1⟩ := z
                subst g1
                have lx : X.env.scope.names.lookup x = some .local := by
                  unfold swB at hsw
                  rw [Bool.and_eq_true, Bool.and_eq_true] at hsw
                  rw [O.sc]
                  simpa [CC.k] using hsw.1.1
                have z := ds_setLc (spos := pos) hB mt me O.calm nd a1 lx (by rw [sw_comp O hk, hsw]) hi ok ho hg ht he hs
                show PS X _ (tS g E fun env => bd (ev P C y env) fun d => Z.ret (.next (env.set i (some d))))
                rw [ev1]
                exact z
          | SetComp elt gs scope cp => exact absurd e2 (by cases n <;> exact fun h => nomatch h)
          | DictComp k v gs scope cp => exact absurd e2 (by cases n <;> exact fun h => nomatch h)
          | _ => cases hcm
      · cases h
  · rename_i ts k p
    have plain : ∀ {is : List Nat} {y : Z.E}, tgOf cc (.Tuple ts k p) = some (.tp is) → cX n false cc e = some y → swappedStores [.Tuple ts k p] e X.env = pure none → PS X (.Assign [.Tuple ts k p] e pos) (tS g E (ex P C (.setT is y))) := fun {is y} e1 e2 hw =>
      ds_asg (t := .tp is) (tg_ok O e1) (hf e y e2) fun te gg he hg => ps_asg he hg (show swapsWith e (some (.Tuple ts k p)) pos.line X.env = pure false from sw_tup) hw (by rfl)
    split at h
    · rename_i vs k2 p2
      split at h
      · rename_i ho
        split at h
        · rename_i is y e1 e2
          cases h
          exact plain e1 e2 (ss_ord O ho)
        · cases h
      · exact par_ok O hf h
    · rename_i hne
      split at h
      · rename_i is y e1 e2
        cases h
        exact plain e1 e2 (ss_tup (by cases e <;> first | rfl | exact absurd rfl (hne _ _ _)))
      · cases h
  · cases h
theorem rais_ok (O : XOk g P C kF cc X E) (hf : Tells g P C X E f) {e : Expr} {c : S} (h : raisX f cc e = some c) : PS X (.Raise (some e) none pos) (tS g E (ex P C c)) := by
  unfold raisX at h
  split at h
  · split at h
    · split at h
      · rename_i k u e1 e2
        split at h
        · cases h
        · rename_i hc
          simp only [Bool.or_eq_true, not_or, Bool.not_eq_true, Bool.not_eq_true', Bool.not_eq_false'] at hc
          obtain ⟨h1, h2⟩ := hc
          have h2 : cc.lam = true := by
            cases q : cc.lam with
            | true => rfl
            | false => rw [q] at h2; simp at h2
          cases h
          obtain ⟨g1, g2, g3⟩ := O.ref e1
          obtain ⟨m1, T, hno, fI, iC, tI, fd, ps, F, B⟩ := O.G.cls _ _ g3
          obtain ⟨_, _, _, _, _, _, _, _, hr⟩ := O.lm h2
          exact ds_rais O.K O.calm O.tk T hno iC tI F (hr.mono (by omega)) B (fun _ _ _ _ _ _ _ h => h.elim) g1 m1 (hf _ u e2) g2 (star_no (by simpa using h1))
      · cases h
    · cases h
  · cases h
/-- what F tells of a block is so -/
theorem block_ok {F : Stmt → Option S} (hF : ∀ st c, F st = some c → PS X st (tS g E (ex P C c))) : ∀ {b : List Stmt} {cs : List S}, mapO F b = some cs → PSs X b (tS g E (exs P C cs))
  | [], cs, h => by
    rw [mapO_nil h]
    exact ds_nil
  | st :: b, cs, h => by
    obtain ⟨y, ys, h1, h2, rfl⟩ := mapO_cons h
    exact ds_cons (hF st y h1) (block_ok hF h2)
theorem st_ok (hp : PassesOwn (model X.prog X.w) X.A X.env X.xe) (O : XOk g P C kF cc X E) : ∀ (n : Nat) (st : Stmt) (c : S), cS n cc st = some c → PS X st (tS g E (ex P C c))
  | 0, st, c, h => nomatch h
  | n + 1, st, c, h => by
    have ih : ∀ st c, cS n cc st = some c → PS X st (tS g E (ex P C c)) := st_ok hp O n
    have hf : Tells g P C X E (cX n false cc) := (good n cc X E O).1
    have ht : TellsT g P C X E (cX n true cc) := (good n cc X E O).2
    cases st with
    | Expr e p =>
      simp only [cS] at h
      split at h
      · cases h
      · rename_i hc
        obtain ⟨x, e1, rfl⟩ := map_some h
        exact ds_expr (hf e x e1) (sw_none (by simpa using hc))
    | Return e p =>
      cases e with
      | none => cases h
      | some e =>
        obtain ⟨x, e1, rfl⟩ := map_some (show (cX n false cc e).map .ret = some c from h)
        exact ds_ret (hf e x e1)
    | Pass p => cases h; exact ds_pass
    | Break p => cases h; exact ds_brk
    | Continue p => cases h; exact ds_cont
    | If t a b p =>
      simp only [cS] at h
      split at h
      · rename_i x y z e1 e2 e3
        cases h
        exact ds_if (ht t x e1) (block_ok ih e2) (block_ok ih e3)
      · cases h
    | For tg it b els p =>
      cases els with
      | cons _ _ => cases h
      | nil =>
        simp only [cS] at h
        split at h
        · rename_i t x y e1 e2 e3
          cases h
          exact ds_for hp O.calm (iter_ok O hf e2) (tg_ok O e1) (block_ok ih e3) (set_no (by cases it <;> first | rfl | cases e2))
        · cases h
    | While t b els p =>
      cases els with
      | cons _ _ => cases h
      | nil =>
        simp only [cS] at h
        split at h
        · rename_i x y e1 e2
          cases h
          exact ds_while hp (ht t x e1) (block_ok ih e2)
        · cases h
    | Raise e cz p =>
      cases e with
      | none => cases h
      | some e =>
        cases cz with
        | some _ => cases h
        | none => exact rais_ok O hf h
    | Assign ts e p =>
      cases ts with
      | nil => cases h
      | cons tg r =>
        cases r with
        | cons _ _ => cases h
        | nil => exact asg_ok O h
    | _ => cases h
end
end Z
end
section
/-! ZMn: a text's defs keep what the core language tells. -/
namespace Z
open PySem PySem.Spec PyProof.Rows L2
/-- how a def's parameters are bound -/
def Bnd (d : He.DefD) (ps : List Str) : Prop := ∀ (kV doc pm : Value) (an : Option Addr) (cdv ct : Value) (us : List Value), us.length = ps.length → bindArgs (PySem.W.fnOf d.name d.qual d.params d.body d.scope .none kV doc pm an cdv ct) ⟨us, []⟩ = pure (ps.zip us)
/-- a def, its names, its core -/
structure FnT where
  d : He.DefD
  N : List Str
  ps : List Str
  core : List S
  gen : Bool
/-- a def that hears -/
structure HrT where
  x : Str
  d : He.DefD
  hd : Heard
  Ng : List Str
  a : Str
  csn : Str
  e : Str
  s : Str
  cn : List (Str × Nat)
  rs0 : List (Str × Str)
  rs : List (Str × Str)
  xs : List Expr
  rest : List Stmt
structure Txt where
  fns : List FnT
  cls : List Str
  root : Nat
  subT : List (List Nat)
  gl : List (Str × GRef)
  init : He.DefD
  hears : List HrT
  fuel : Nat
/-- class k stands under class j -/
def Txt.sub (T : Txt) (k j : Nat) : Bool := (T.subT.getD k []).contains j
def Txt.cc (T : Txt) (t : FnT) : CC := ⟨t.N, t.d.scope, T.gl, fun _ => true, true, t.gen⟩
def Txt.P (T : Txt) : Prog := ⟨(T.fns.map fun t => ⟨t.ps.length, t.N.length, t.core⟩).toArray, T.sub, (T.hears.map (·.hd)).toArray⟩
def Txt.L (T : Txt) (K : PySem.W.Frag) : Lk := ⟨fun i => match T.fns[i]? with
  | some t => He.fAd K t.d.at_
  | none => 0, fun j => match T.cls[j]? with
  | some x => He.ga K x
  | none => 0⟩
def qlam (q : Str) : Str := (envOfC q ⟨.function, [], false, false, []⟩ 0 0 .none).qual
def Txt.g (T : Txt) (K : PySem.W.Frag) : Gl0 := ⟨K, T.fns.map fun t => ((He.cT K t.d.at_).2, qlam t.d.qual ++ sufOf t.gen), T.L K⟩
/-- what is asked of a def -/
structure FnT.Ok (T : Txt) (t : FnT) : Prop where
  at_ : t.d.at_ = (t.d.name, none)
  sc : FnScope t.N t.ps t.d.scope
  bnd : Bnd t.d t.ps
  dfl : t.d.dfl = []
  core : mapO (cS T.fuel (T.cc t)) t.d.body = some t.core
/-! ### refusals -/
def oexB (K : PySem.W.Frag) (C : Addr) : Bool := match K.lookup C with
  | some ⟨.type t, _, .cls cd, sl⟩ => t == "type" && (match cd.mro, sl.toList with
    | .ref C' :: bm, [_, _, _, _, some (.builtin n), _] => C' == C && n == "ValueError.__new__" && !cd.hasDel && cd.hasDict && PySem.HandSPX.refsVE bm
    | _, _ => false)
  | _ => false
theorem oexB_ok {K : PySem.W.Frag} {C : Addr} (q : oexB K C = true) : ∃ nm q N bs bm sn sub ab col dd k0 k1 k2 k3 k5, K.lookup C = some (excClassObj nm q C N bs bm true sn sub ab col dd k0 k1 k2 k3 k5 "ValueError.__new__") ∧ PySem.HandSPX.refsVE bm = true := by
  unfold oexB at q
  split at q
  · rename_i t dd cd sl ho
    rw [Bool.and_eq_true] at q
    obtain ⟨qt, q⟩ := q
    have qt := eq_of_beq qt
    subst qt
    split at q
    · rename_i C' bm k0 k1 k2 k3 n k5 hm hs
      simp only [Bool.and_eq_true, beq_iff_eq, Bool.not_eq_true'] at q
      obtain ⟨⟨⟨⟨rfl, rfl⟩, hdel⟩, hdct⟩, ht⟩ := q
      obtain ⟨nm, bs, mro, ns, qn, hd, sn, sub, ab, col, del⟩ := cd
      dsimp only at hm hdel hdct
      subst hm hdel hdct
      have hsl : sl = #[k0, k1, k2, k3, some (.builtin "ValueError.__new__"), k5] := by
        obtain ⟨l⟩ := sl
        simp only at hs
        rw [hs]
      subst hsl
      exact ⟨nm, qn, ns, bs, bm, sn, sub, ab, col, dd, k0, k1, k2, k3, k5, ho, ht⟩
    · cases q
  · cases q
/-- what the written part says of a refusal -/
def exB (K : PySem.W.Frag) (fI C : Addr) : Bool := oexB K C && decide (PySem.W.findIn K (.ref C) "__setattr__" = some (some (.builtin "object.__setattr__"))) && decide (PySem.W.subIn K (.ref C) (.type "BaseException") = some true) && decide (PySem.W.typeIn K (.ref C) = some (.type "type")) &&
  PySem.W.keepIn K (.ref C) && decide (PySem.W.findIn K (.ref C) "what" = some none) && decide (PySem.W.findIn K (.ref C) "__init__" = some (some (.ref fI))) && decide (PySem.W.findIn K (.ref C) "__getattribute__" = some (some (.builtin "BaseException.__getattribute__"))) &&
  decide (PySem.W.findIn K (.ref C) "__getattr__" = some none) && PySem.W.hasDictIn K C && decide (PySem.W.findIn K (.ref C) "__class__" = some (some (.builtin "object.__class__"))) && decide (PySem.W.specialIn K (.builtin "object.__class__") "__get__" = some (some (.builtin "getset_descriptor.__get__"))) &&
  decide (PySem.W.takesIn K (.builtin "object.__class__") = some true) && decide (PySem.W.mroIn K C (.type "object") = some true)
structure ExOk (K : PySem.W.Frag) (fI C : Addr) : Prop where
  T : OexC K C
  hno : PySem.W.findIn K (.ref C) "what" = some none
  iC : PySem.W.findIn K (.ref C) "__init__" = some (some (.ref fI))
  cE : ExcC K C
  xE : XfC K C
theorem exB_ok {K : PySem.W.Frag} {fI C : Addr} (h : exB K fI C = true) : ExOk K fI C := by
  unfold exB at h
  simp only [Bool.and_eq_true, decide_eq_true_eq] at h
  obtain ⟨⟨⟨⟨⟨⟨⟨⟨⟨⟨⟨⟨⟨h1, h2⟩, h3⟩, h4⟩, h5⟩, h6⟩, h7⟩, h8⟩, h9⟩, h10⟩, h11⟩, h12⟩, h13⟩, h14⟩ := h
  exact ⟨⟨oexB_ok h1, h2, h3, h4, h5⟩, h6, h7, ⟨h8, h9, h3, h10, h11, h12, h13, h14⟩, ⟨h8, h9, h3, h10⟩⟩
/-- the Bool that is asked of the head -/
def Txt.initA (T : Txt) (K : PySem.W.Frag) : Addr := He.fAd K T.init.at_
def Txt.isB (T : Txt) (K : PySem.W.Frag) (js : List Nat) : Bool := (List.range T.cls.length).all fun k => !(T.sub k T.root) || (decide (PySem.W.exmOne K (.ref ((T.L K).ca k)) (.ref ((T.L K).ca T.root)) = some true) && js.all fun j => decide (PySem.W.kitOne K (.ref ((T.L K).ca k)) (.ref ((T.L K).ca j)) = some (T.sub k j)))
def veB (K : PySem.W.Frag) : Bool := match PySem.W.findCls K (.type "ValueError") (.type "type") "__init__" with
  | some (.val (.builtin n)) => n == "ValueError.__init__"
  | _ => false
theorem veB_ok {K : PySem.W.Frag} (h : veB K = true) : PySem.W.findCls K (.type "ValueError") (.type "type") "__init__" = some (.val (.builtin "ValueError.__init__")) := by
  unfold veB at h
  split at h
  · rename_i n e
    rw [e, eq_of_beq h]
  · cases h
def Txt.exK (T : Txt) (K : PySem.W.Frag) : Bool := decide (PySem.W.typeIn K (.ref (T.initA K)) = some (.type "function")) && (T.cls.all fun x => exB K (T.initA K) (He.ga K x)) && T.isB K (T.hears.flatMap fun h => h.cn.map (·.2)) && decide ((T.fns.map fun t => (He.cT K t.d.at_).2).Nodup) && veB K
structure KEx (T : Txt) (K : PySem.W.Frag) : Prop where
  ty : PySem.W.typeIn K (.ref (T.initA K)) = some (.type "function")
  ex : ∀ k x, T.cls[k]? = some x → ExOk K (T.initA K) ((T.L K).ca k)
  exm : ∀ k, k < T.cls.length → T.sub k T.root = true → PySem.W.exmOne K (.ref ((T.L K).ca k)) (.ref ((T.L K).ca T.root)) = some true
  kit : ∀ k, k < T.cls.length → T.sub k T.root = true → ∀ h ∈ T.hears, ∀ q ∈ h.cn, PySem.W.kitOne K (.ref ((T.L K).ca k)) (.ref ((T.L K).ca q.2)) = some (T.sub k q.2)
  nd : (T.fns.map fun t => (He.cT K t.d.at_).2).Nodup
  ve : PySem.W.findCls K (.type "ValueError") (.type "type") "__init__" = some (.val (.builtin "ValueError.__init__"))
theorem exK_ok {T : Txt} {K : PySem.W.Frag} (h : T.exK K = true) : KEx T K := by
  unfold Txt.exK at h
  simp only [Bool.and_eq_true, decide_eq_true_eq] at h
  obtain ⟨⟨⟨⟨h1, h2⟩, h3⟩, h4⟩, h5⟩ := h
  have isb : ∀ k, k < T.cls.length → T.sub k T.root = true → PySem.W.exmOne K (.ref ((T.L K).ca k)) (.ref ((T.L K).ca T.root)) = some true ∧ ∀ j ∈ (T.hears.flatMap fun h => h.cn.map (·.2)), PySem.W.kitOne K (.ref ((T.L K).ca k)) (.ref ((T.L K).ca j)) = some (T.sub k j) := fun k hk hs => by
    have z := List.all_eq_true.mp h3 k (List.mem_range.mpr hk)
    rw [hs] at z
    simp only [Bool.not_true, Bool.false_or, Bool.and_eq_true, decide_eq_true_eq, List.all_eq_true] at z
    exact z
  refine ⟨h1, fun k x hx => ?_, fun k hk hs => (isb k hk hs).1, fun k hk hs r hr q hq => (isb k hk hs).2 q.2 (List.mem_flatMap.mpr ⟨r, hr, List.mem_map.mpr ⟨q, hq, rfl⟩⟩), h4, veB_ok h5⟩
  have e : (T.L K).ca k = He.ga K x := by
    show (match T.cls[k]? with | some x => He.ga K x | none => 0) = _
    rw [hx]
  rw [e]
  exact exB_ok (List.all_eq_true.mp h2 x (List.mem_of_getElem? hx))
/-! ### what is asked of the text -/
structure HrT.Ok (T : Txt) (h : HrT) : Prop where
  at_ : h.d.at_ = (h.x, none)
  nm : h.d.name = h.x
  qu : h.d.qual = h.x
  dfl : h.d.dfl = []
  bnd : Bnd h.d [h.a]
  sc : FnScope h.Ng [h.a] h.d.scope
  body : ∃ (j k1 : Nat) (q1 q2 q3 q4 q5 q6 q7 q8 q9 q10 q11 : Pos), h.d.body = heardB h.a h.hd.told h.csn h.e h.s h.xs h.rest j k1 q1 q2 q3 q4 q5 q6 q7 q8 q9 q10 q11
  rx : RowsX h.e h.xs h.rs0
  st : Steps h.e h.s h.Ng h.d.scope h.rest h.rs
  na : h.Ng[0]? = some h.a
  ie : ∃ ie : Nat, h.Ng[ie]? = some h.e
  is : ∃ is : Nat, h.Ng[is]? = some h.s
  hne : h.e ≠ h.s
  le : h.d.scope.names.lookup h.e = some .local
  ls : h.d.scope.names.lookup h.s = some .local
  va : Vis h.d.scope h.a
  da : dbg h.a = false
  de : dbg h.e = false
  ds : dbg h.s = false
  gi : h.d.scope.names.lookup ("isinstance" : Str) = some .globalImplicit
  gc : h.d.scope.names.lookup h.csn = some .globalImplicit
  dc : dbg h.csn = false
  root : h.hd.root = T.root
  csn : T.cls[T.root]? = some h.csn
  cn : ∀ q ∈ h.cn, h.d.scope.names.lookup q.1 = some .globalImplicit ∧ T.cls[q.2]? = some q.1 ∧ dbg q.1 = false
  all : ∀ r ∈ h.rs0 ++ h.rs, (h.cn.lookup r.2).isSome = true
  rows : h.hd.rows = (h.rs0 ++ h.rs).map fun r => (r.1, (h.cn.lookup r.2).getD 0)
  z : (h.rs0 ++ h.rs).length ≤ 1000
  sz : ((h.rs0 ++ h.rs).map (·.1.length)).sum + (h.rs0 ++ h.rs).length ≤ 16777216
/-- the defs of the global names -/
def glB (T : Txt) : Bool := T.gl.all fun q => match q.2 with
  | .fn i np => (match T.fns[i]? with
    | some t => decide (t.d.name = q.1) && decide (t.ps.length = np)
    | none => false)
  | .cls k => decide (T.cls[k]? = some q.1)
  | .con _ => true
  | .heard h => (match T.hears[h]? with
    | some r => decide (r.x = q.1)
    | none => false)
structure Txt.Ok (T : Txt) : Prop where
  fns : ∀ t ∈ T.fns, t.Ok T
  gl : glB T = true
  sub : T.subT.length = T.cls.length
  idfl : T.init.dfl = []
  inm : ∃ q1 q2 q3 q4 q5 q6 q7 q8 q9 q10 : Pos, T.init.body = initB q1 q2 q3 q4 q5 q6 q7 q8 q9 q10 ∧ (q2.endLine == q5.line) = true
  isc : FnScope ["self", "what"] ["self", "what"] T.init.scope
  i1 : T.init.scope.names.lookup ("self" : Str) = some .local
  i2 : T.init.scope.names.lookup ("what" : Str) = some .local
  i3 : T.init.scope.names.lookup ("ValueError" : Str) = some .globalImplicit
  ibnd : Bnd T.init ["self", "what"]
  hears : ∀ h ∈ T.hears, h.Ok T
abbrev DefIn (K : PySem.W.Frag) (d : He.DefD) : Prop := ∃ fd, FunD K d.name d.qual d.params d.body d.scope (d.dvs K) (d.kws K) (He.fAd K d.at_) fd
/-- what the head says -/
structure KOk (T : Txt) (K : PySem.W.Frag) (mg : Str → Option Value) : Prop where
  fn : ∀ t ∈ T.fns, mg t.d.name = some (.ref (He.fAd K t.d.at_)) ∧ DefIn K t.d
  init : DefIn K T.init
  hr : ∀ h ∈ T.hears, mg h.x = some (.ref (He.fAd K h.d.at_)) ∧ DefIn K h.d
  cls : ∀ x ∈ T.cls, mg x = some (.ref (He.ga K x))
  con : ∀ x i, (x, GRef.con (.int i)) ∈ T.gl → ∃ t, mg x = some (.int i t)
  blt : ∀ x ∈ bltN, mg x = none
  ve : mg "ValueError" = none
  ex : KEx T K
theorem lookup_in {α : Type} {x : Str} {r : α} : ∀ {l : List (Str × α)}, l.lookup x = some r → (x, r) ∈ l
  | [], h => by cases h
  | (y, z) :: l, h => by
    rw [List.lookup_cons] at h
    split at h
    · rename_i e
      cases h
      have e := eq_of_beq e
      subst e
      exact List.mem_cons_self
    · exact List.mem_cons_of_mem _ (lookup_in h)
theorem bnd_of {K : PySem.W.Frag} {d : He.DefD} {ps : List Str} {f : Addr} {fd : FuncData} (B : Bnd d ps) (hd : d.dfl = []) (F : FunD K d.name d.qual d.params d.body d.scope (d.dvs K) (d.kws K) f fd) : L2.Binds K fd ps [] := by
  have e : d.dvs K = [] := by unfold He.DefD.dvs; rw [hd]; rfl
  rw [e] at F
  exact F.bindsN fun kV doc pm an cdv ct us hl => B kV doc pm an cdv ct us hl
section
variable {T : Txt} {K : PySem.W.Frag} {mg : Str → Option Value} {base : Heap} {pr : Program} {w : World}
theorem ca_is (k : Nat) {x : Str} (h : T.cls[k]? = some x) : (T.L K).ca k = He.ga K x := by
  show (match T.cls[k]? with | some x => He.ga K x | none => 0) = _
  rw [h]
theorem fa_is (i : Nat) {t : FnT} (h : T.fns[i]? = some t) : (T.L K).fa i = He.fAd K t.d.at_ := by
  show (match T.fns[i]? with | some t => He.fAd K t.d.at_ | none => 0) = _
  rw [h]
theorem sub_lt (O : T.Ok) {k j : Nat} (h : T.sub k j = true) : k < T.cls.length := by
  unfold Txt.sub at h
  rw [← O.sub]
  cases Nat.lt_or_ge k T.subT.length with
  | inl h => exact h
  | inr hk =>
    rw [List.getD_eq_getElem?_getD, List.getElem?_eq_none hk] at h
    cases h
theorem lt_get {α : Type} {l : List α} {k : Nat} (h : k < l.length) : ∃ x, l[k]? = some x := ⟨l[k], List.getElem?_eq_getElem h⟩
/-- a def that hears -/
theorem hr_ok (O : T.Ok) (KO : KOk T K mg) {h : HrT} {i : Nat} (hi : T.hears[i]? = some h) : HrOk (T.g K) T.P K mg h.x i := by
  have hm := List.mem_of_getElem? hi
  have HO := O.hears h hm
  obtain ⟨m1, fd, F⟩ := KO.hr h hm
  obtain ⟨oc, od, dV, kV, doc, pm, an, cdv, ct, osl, ef, lk, hcd, hD, hK⟩ := F.ex
  have B := bnd_of HO.bnd HO.dfl F
  obtain ⟨j, k1, q1, q2, q3, q4, q5, q6, q7, q8, q9, q10, q11, eb⟩ := HO.body
  subst ef
  rw [HO.nm, HO.qu, eb] at lk B
  rw [HO.qu] at hcd
  have ek : ∀ k, T.P.sub k h.hd.root = true → k < T.cls.length ∧ T.sub k T.root = true := fun k hk => by
    rw [HO.root] at hk
    exact ⟨sub_lt O hk, hk⟩
  have EX : ∀ k, T.P.sub k h.hd.root = true → ExOk K (T.initA K) ((T.g K).L.ca k) := fun k hk => by
    obtain ⟨x, hx⟩ := lt_get (ek k hk).1
    exact KO.ex.ex k x hx
  refine ⟨h.hd, h.Ng, h.d.scope, h.a, h.csn, h.e, h.s, fun c => h.cn.lookup c, h.rs0, h.rs, h.xs, h.rest, _, _, _, _, _, _, _, _, _, _, _, _, _, _, q1, q2, q3, q4, q5, q6, q7, q8, q9, q10, q11, ?_, ?_, HO.rx, HO.st, m1, F.kp, lk, hcd, B, HO.sc, (dbg_no HO.da).1, (dbg_no HO.da).2⟩
  · show (T.hears.map (·.hd)).toArray[i]? = some h.hd
    rw [List.getElem?_toArray, List.getElem?_map, hi]
    rfl
  · refine ⟨rfl, HO.sc.nd, HO.na, HO.ie, HO.is, HO.hne, HO.le, HO.ls, HO.va, dbg_no HO.de, dbg_no HO.ds, HO.gi, KO.blt _ (by simp [bltN]), HO.gc, ?_, (dbg_no HO.dc).1, fun c j hc => ?_, HO.all, fun k hk => ?_, fun k hk => (EX k hk).cE, fun k hk => (EX k hk).xE, fun k hk => (EX k hk).hno, HO.rows, HO.z, HO.sz⟩
    · rw [HO.root]
      show mg h.csn = some (.ref ((T.L K).ca T.root))
      rw [ca_is T.root HO.csn]
      exact KO.cls _ (List.mem_of_getElem? HO.csn)
    · have hq := lookup_in hc
      obtain ⟨c1, c2, c3⟩ := HO.cn _ hq
      refine ⟨c1, ?_, (dbg_no c3).1, fun k hk => KO.ex.kit k (ek k hk).1 (ek k hk).2 h hm _ hq⟩
      show mg c = some (.ref ((T.L K).ca j))
      rw [ca_is j c2]
      exact KO.cls _ (List.mem_of_getElem? c2)
    · rw [HO.root]
      exact KO.ex.exm k (ek k hk).1 (ek k hk).2
theorem callP_np (O : T.Ok) {m i np : Nat} {t : FnT} (hi : T.fns[i]? = some t) (hn : t.ps.length = np) (ds : List D) (S : Sto) (h : ds.length ≠ np) : callP T.P m i ds S = .stuck := by
  cases m with
  | zero => rfl
  | succ m =>
    have e : T.P.fns[i]? = some ⟨t.ps.length, t.N.length, t.core⟩ := by
      show (T.fns.map fun t => (⟨t.ps.length, t.N.length, t.core⟩ : Fn)).toArray[i]? = _
      rw [List.getElem?_toArray, List.getElem?_map, hi]
      rfl
    unfold callP
    rw [e]
    show runF T.P (callP T.P m) ⟨t.ps.length, t.N.length, t.core⟩ ds S = _
    unfold runF
    rw [if_neg (by rw [hn]; exact h)]
    rfl
theorem start_env {g : Gl0} {ρ : List Addr} {H : Hp} {N : List Str} {vs : List V} {ds : List D} {n : Nat} (h : DVs g.K ρ H vs ds) (hn : vs.length = n) : EnvR g.K ρ H (L2.start N vs) (ds.map some ++ List.replicate (N.length - n) none) := by
  subst hn
  refine ⟨by unfold L2.start; simp [h.length], fun i d e => ?_⟩
  by_cases hi : i < ds.length
  · rw [List.getElem?_append_left (by simpa using hi), List.getElem?_map] at e
    cases q : ds[i]? with
    | none => rw [q] at e; cases e
    | some d' =>
      rw [q] at e
      cases e
      obtain ⟨v, h1, h2⟩ := h.get q
      refine ⟨v, ?_, h2⟩
      unfold L2.start
      rw [List.getElem?_append_left (by rw [List.length_map, h.length]; exact hi), List.getElem?_map, h1]
      rfl
  · rw [List.getElem?_append_right (by simpa using hi), List.getElem?_replicate] at e
    split at e <;> cases e
/-- what all defs keep at a level -/
def Lv (T : Txt) (pr : Program) (w : World) (K : PySem.W.Frag) (mg : Str → Option Value) (base : Heap) (m : Nat) : Prop := ∀ (i : Nat) (t : FnT), T.fns[i]? = some t → ∀ fd, FunD K t.d.name t.d.qual t.d.params t.d.body t.d.scope (t.d.dvs K) (t.d.kws K) (He.fAd K t.d.at_) fd → FnOk pr w K mg base (L2N.CX pr w) (3 * m) ((T.L K).fa i) fd t.ps (spD (T.g K) t.ps.length (callP T.P m i)) ∧ L2.Binds K fd t.ps []
theorem g_ok (O : T.Ok) (KO : KOk T K mg) {m : Nat} (lv : Lv T pr w K mg base m) : GOk (T.g K) T.P (callP T.P m) (3 * m) T.gl pr w K mg base := by
  have gl : ∀ x r, T.gl.lookup x = some r → (match r with
    | .fn i np => ∃ t, T.fns[i]? = some t ∧ t.d.name = x ∧ t.ps.length = np
    | .cls k => T.cls[k]? = some x
    | .con _ => True
    | .heard h => ∃ r, T.hears[h]? = some r ∧ r.x = x) := fun x r h => by
    have z := List.all_eq_true.mp O.gl _ (lookup_in h)
    cases r with
    | fn i np =>
      dsimp only at z
      split at z
      · rename_i t ht
        simp only [Bool.and_eq_true, decide_eq_true_eq] at z
        exact ⟨t, ht, z.1, z.2⟩
      · cases z
    | cls k => exact of_decide_eq_true z
    | con d => trivial
    | heard h =>
      dsimp only at z
      split at z
      · rename_i t ht
        exact ⟨t, ht, of_decide_eq_true z⟩
      · cases z
  refine ⟨fun x i np h => ?_, fun x i h => KO.con x i (lookup_in h), fun x hx => KO.blt x hx, fun x _ hx => KO.blt x hx, fun x k h => ?_, fun x h hh => ?_⟩
  · obtain ⟨t, ht, e1, e2⟩ := gl x _ h
    obtain ⟨m1, fd, F'⟩ := KO.fn t (List.mem_of_getElem? ht)
    obtain ⟨F, B⟩ := lv i t ht fd F'
    have ef : (T.g K).L.fa i = He.fAd K t.d.at_ := fa_is i ht
    refine ⟨by rw [ef, ← e1]; exact m1, by rw [ef]; exact F'.kp, ⟨fd, t.ps, by rw [← e2]; exact F, B⟩, fun ds S hl => callP_np O ht e2 ds S hl⟩
  · have hk := gl x _ h
    have ec : (T.g K).L.ca k = He.ga K x := ca_is k hk
    have EX := KO.ex.ex k x hk
    obtain ⟨fd, F⟩ := KO.init
    have B := bnd_of O.ibnd O.idfl F
    obtain ⟨q1, q2, q3, q4, q5, q6, q7, q8, q9, q10, eb, hl⟩ := O.inm
    obtain ⟨oc, od, dV, kV, doc, pm, an, cdv, ct, osl, efd, lk, hcd, hD, hK⟩ := F.ex
    refine ⟨by rw [ec]; exact KO.cls x (List.mem_of_getElem? hk), EX.T, EX.hno, T.initA K, EX.iC, KO.ex.ty, fd, ["self", "what"], ?_, B⟩
    subst efd
    rw [eb] at lk ⊢
    exact init_fn (k := 0) lk hcd hl O.isc O.i1 O.i2 O.i3 KO.ve KO.ex.ve
  · obtain ⟨r, hr, e⟩ := gl x _ hh
    subst e
    exact hr_ok O KO hr
theorem lv_ok (O : T.Ok) (KO : KOk T K mg) (TB : ∀ t ∈ T.fns, LamX.TabB base mg (He.cT K t.d.at_).1 (He.cT K t.d.at_).2) : ∀ m, Lv T pr w K mg base m
  | 0 => fun i t hi fd F => by
    have FO := O.fns t (List.mem_of_getElem? hi)
    refine ⟨⟨fun vs H Q E h => h.1, fun A outer s H args us vs Q E hr e0 hb r h => ?_⟩, bnd_of FO.bnd FO.dfl F⟩
    obtain ⟨_, S, ρ, ds, _, _, q⟩ := h
    exact False.elim q
  | m + 1 => fun i t hi fd F => by
    have lv := lv_ok O KO TB m
    have hm := List.mem_of_getElem? hi
    have FO := O.fns t hm
    have B := bnd_of FO.bnd FO.dfl F
    obtain ⟨oc, od, dV, kV, doc, pm, an, cdv, ct, osl, efd, lk, hcd, hD, hK⟩ := F.ex
    have ef : (T.L K).fa i = He.fAd K t.d.at_ := fa_is i hi
    refine ⟨?_, B⟩
    obtain ⟨c, ec⟩ := He.codeIn_ref hcd
    have eco : He.codeOf K t.d.at_ = c := He.codeOf_eq lk (by rw [efd]; exact ec)
    subst efd
    rw [ef]
    refine fn_of (k := 3 * m + 2) (N := t.N) lk hcd FO.sc (fun vs H Q E h => h.1) fun A outer s H vs Q E hr h => ?_
    obtain ⟨hl, S, ρ, ds, hR, hds, q⟩ := h
    have XO : XOk (T.g K) T.P (callP T.P m) (3 * m) (T.cc t) (cxOf (L2N.CX pr w) pr w K mg base t.N t.d.qual t.d.scope (He.fAd K t.d.at_) cdv A outer s H E) E := by
      refine ⟨rfl, rfl, FO.sc.nd, rfl, rfl, hr.mono (by omega), L2N.takes_of rfl rfl rfl rfl, rfl, g_ok O KO lv, fun _ => ⟨c, (He.cT K t.d.at_).2, qlam t.d.qual, rfl, ec, ?_, ?_, fun p hp e => ?_, hr⟩⟩
      · have z := TB t hm
        show LamX.TabB base mg c _
        rw [← eco]
        exact z
      · have em : ((He.cT K t.d.at_).2, qlam t.d.qual ++ sufOf t.gen) ∈ (T.g K).T := List.mem_map_of_mem (f := fun t : FnT => ((He.cT K t.d.at_).2, qlam t.d.qual ++ sufOf t.gen)) hm
        exact em
      · obtain ⟨u, hu, eu⟩ := List.mem_map.mp hp
        subst eu
        have z : u = t := by
          have nd := KO.ex.nd
          obtain ⟨iu, hiu⟩ := List.getElem?_of_mem hu
          have h1 : (T.fns.map fun t => (He.cT K t.d.at_).2)[iu]? = some (He.cT K u.d.at_).2 := by rw [List.getElem?_map, hiu]; rfl
          have h2 : (T.fns.map fun t => (He.cT K t.d.at_).2)[i]? = some (He.cT K t.d.at_).2 := by rw [List.getElem?_map, hi]; rfl
          have e' : (He.cT K u.d.at_).2 = (He.cT K t.d.at_).2 := e
          rw [e'] at h1
          obtain ⟨l1, g1⟩ := List.getElem?_eq_some_iff.mp h1
          obtain ⟨l2, g2⟩ := List.getElem?_eq_some_iff.mp h2
          have : iu = i := (List.getElem_inj nd).mp (g1.trans g2.symm)
          subst this
          rw [hi] at hiu
          exact (Option.some.inj hiu).symm
        rw [z]
        rfl
    have body := block_ok (st_ok (passes_of (K := fun e s'' => L2N.CX pr w outer H s E e s'') (E₁ := fun e' s'' => L2N.CX pr w outer H s E e' s'') rfl) XO T.fuel) FO.core
    have eP : callP T.P (m + 1) i ds S = runF T.P (callP T.P m) ⟨t.ps.length, t.N.length, t.core⟩ ds S := by
      have e : T.P.fns[i]? = some ⟨t.ps.length, t.N.length, t.core⟩ := by
        show (T.fns.map fun t => (⟨t.ps.length, t.N.length, t.core⟩ : Fn)).toArray[i]? = _
        rw [List.getElem?_toArray, List.getElem?_map, hi]
        rfl
      show (match T.P.fns[i]? with | some fn => runF T.P (callP T.P m) fn ds | none => stuck) S = _
      rw [e]
    rw [eP] at q
    have hdl : ds.length = t.ps.length := by rw [← hds.length, hl]
    refine ⟨_, body, S, ρ, ds.map some ++ List.replicate (t.N.length - t.ps.length) none, hR, start_env hds (by rw [hl]), ?_⟩
    have q2 : Fin (T.g K) E ρ H (bd (exs T.P (callP T.P m) t.core (ds.map some ++ List.replicate (t.N.length - t.ps.length) none)) (fun x => match x with
      | .next _ => Z.ret .non
      | .ret d => Z.ret d
      | _ => stuck) S) (fun d _ ρ' H' => ∀ v, DV (T.g K).K ρ' H' v d → Q v H') := by
      have e : runF T.P (callP T.P m) ⟨t.ps.length, t.N.length, t.core⟩ ds = bd (exs T.P (callP T.P m) t.core (ds.map some ++ List.replicate (t.N.length - t.ps.length) none)) (fun x => match x with
        | .next _ => Z.ret .non
        | .ret d => Z.ret d
        | _ => stuck) := if_pos hdl
      rw [e] at q
      exact q
    refine (Fin.bd q2).imp fun x S1 ρ1 H1 ex1 r1 q3 => ?_
    cases x with
    | next env' => exact fun σ' he => Fin.ret r1 q3 _ .non
    | ret d => exact fun v hv => Fin.ret r1 q3 v hv
    | brk env' => exact False.elim q3
    | cont env' => exact False.elim q3
end
/-! ### the head's facts -/
def Txt.fa (T : Txt) : List He.Fa := (T.fns.map fun t => .glo t.d.name) ++ ((T.hears.map fun h => .glo h.x) ++ ((T.cls.map .glo) ++ ((T.gl.filterMap fun q => match q.2 with
  | .con (.int i) => some (.int q.1 i)
  | _ => none) ++ ((bltN.map .free) ++ [.free "ValueError"]))))
def Txt.dn (T : Txt) : List He.DefD := (T.fns.map (·.d)) ++ (T.init :: T.hears.map (·.d))
def Txt.tf (T : Txt) : List He.Defn := T.fns.map (·.d.at_)
section
variable {T : Txt} {K : PySem.W.Frag} {mg : Str → Option Value} {h : Heap} {w : World}
theorem fAd_glo {x : Str} : He.fAd K (x, none) = He.ga K x := rfl
theorem kok_of (O : T.Ok) (X : K.In h) (G : h.Ns mainGlobals mg) (c : He.SaysX T.fa T.dn [] T.tf T.exK w h K) : KOk T K mg := by
  have cd := c.t.d
  have fact : ∀ {f : He.Fa}, f ∈ T.fa → f.ok K = true := fun hf => cd.facts hf
  have df : ∀ {d : He.DefD}, d ∈ T.dn → DefIn K d := fun hd => cd.defs hd
  refine ⟨fun t ht => ⟨?_, df (List.mem_append_left _ (List.mem_map_of_mem ht))⟩, df (List.mem_append_right _ List.mem_cons_self), fun r hr => ⟨?_, df (List.mem_append_right _ (List.mem_cons_of_mem _ (List.mem_map_of_mem hr)))⟩, fun x hx => ?_, fun x i hx => ?_, fun x hx => ?_, ?_, exK_ok c.more⟩
  · rw [(O.fns t ht).at_, fAd_glo]
    exact He.glo_ok X G (fact (List.mem_append_left _ (List.mem_map.mpr ⟨t, ht, rfl⟩)))
  · rw [(O.hears r hr).at_, fAd_glo]
    exact He.glo_ok X G (fact (List.mem_append_right _ (List.mem_append_left _ (List.mem_map.mpr ⟨r, hr, rfl⟩))))
  · exact He.glo_ok X G (fact (List.mem_append_right _ (List.mem_append_right _ (List.mem_append_left _ (List.mem_map.mpr ⟨x, hx, rfl⟩)))))
  · exact He.int_ok X G (fact (List.mem_append_right _ (List.mem_append_right _ (List.mem_append_right _ (List.mem_append_left _ (List.mem_filterMap.mpr ⟨_, hx, rfl⟩))))))
  · exact He.free_ok X G (fact (List.mem_append_right _ (List.mem_append_right _ (List.mem_append_right _ (List.mem_append_right _ (List.mem_append_left _ (List.mem_map.mpr ⟨x, hx, rfl⟩)))))))
  · exact He.free_ok X G (fact (List.mem_append_right _ (List.mem_append_right _ (List.mem_append_right _ (List.mem_append_right _ (List.mem_append_right _ List.mem_cons_self))))))
/-- the script as data -/
def scrD (ns : List Int) : List D := ns.map .int
theorem scr_dvs {g : Gl0} {ρ : List Addr} {H : Hp} : ∀ ns : List Int, DVs g.K ρ H (ns.map V.int) (scrD ns)
  | [] => .nil
  | n :: ns => .cons (.int n) (scr_dvs ns)
/-- what is to be shown of the law in the core language -/
def LawD (P : Prog) (M li : Nat) : Prop := ∀ ns : List Int, ns.length ≤ 63 → (∀ z ∈ ns, Builtin.Int.intBits z ≤ 1048576) → ∀ (S : Sto) (d : D), (S = [.lst (scrD ns)] ∧ d = .loc 0) ∨ (S = [] ∧ d = .ro (scrD ns)) → ∃ S', callP P M li [d] S = .ok (.bl true) S'
/-- THE END: what is known of the law at the head's heap -/
theorem law_at (O : T.Ok) {l : PySem.W.OpenLaw} {M li : Nat} {t : FnT} {fa : Addr} (hl : LawD T.P M li) (hi : T.fns[li]? = some t) (hps : t.ps = [("script" : Str)]) (hfa : mg t.d.name = some (.ref fa)) (X : K.In h) (G : h.Ns mainGlobals mg) (c : He.SaysX T.fa T.dn [] T.tf T.exK w h K) :
    LamX.LawAtS l w K (L2N.CX l.prog w) (3 * M) 63 "script" mg fa h := by
  have KO := kok_of O X G c
  have hm := List.mem_of_getElem? hi
  obtain ⟨m1, fd, F⟩ := KO.fn t hm
  have FO := O.fns t hm
  have B := bnd_of FO.bnd FO.dfl F
  have efa : fa = He.fAd K t.d.at_ := by
    rw [hfa] at m1
    exact Value.ref.inj (Option.some.inj m1)
  have intf : ∀ p ∈ T.fns.map (fun t => He.cT K t.d.at_), ∃ q ∈ T.tf, p = He.cT K q := fun p hp => by
    obtain ⟨u, hu, e⟩ := List.mem_map.mp hp
    exact ⟨u.d.at_, List.mem_map_of_mem (f := fun t : FnT => t.d.at_) hu, e.symm⟩
  refine ⟨fd, T.fns.map fun t => He.cT K t.d.at_, spD (T.g K) 1 (callP T.P M li), fun p hp => ?_, fun p hp => ?_, fun p hp => ?_, fun s u => ?_, fun H a ns hn hb hH hS => ?_, fun base KX GX TB => ?_⟩
  · obtain ⟨q, hq, e⟩ := intf p hp
    rw [e]
    exact c.empty q hq
  · obtain ⟨q, hq, e⟩ := intf p hp
    rw [e]
    exact c.out q hq
  · obtain ⟨q, hq, e⟩ := intf p hp
    rw [e]
    exact PySem.W.codeHd_of_K X (c.hd q hq)
  · have e : t.d.dvs K = [] := by unfold He.DefD.dvs; rw [FO.dfl]; rfl
    rw [e] at F
    have z := F.bindsA (ps := t.ps) (fun kV doc pm an cdv ct us hl => FO.bnd kV doc pm an cdv ct us hl) s [u] (by rw [hps]; rfl)
    rw [hps] at z
    exact z
  · have tab : LamX.Tabs (T.g K).T H := fun p hp => by
      obtain ⟨u, hu, e⟩ := List.mem_map.mp hp
      subst e
      exact LamX.TabS.nil (hH (He.cT K u.d.at_) (List.mem_map.mpr ⟨u, hu, rfl⟩))
    have hz : (scrD ns).length ≤ sizeLine := by
      rw [show (scrD ns).length = ns.length from List.length_map _, sizeLine_eq]
      omega
    have fin : ∀ (S : Sto) (ρ : List Addr) (d : D), Rel (T.g K).K (T.g K).T S ρ H → DV (T.g K).K ρ H (.ref a) d → ((S = [.lst (scrD ns)] ∧ d = .loc 0) ∨ (S = [] ∧ d = .ro (scrD ns))) → spD (T.g K) 1 (callP T.P M li) [.ref a] H (fun v _ => v = .bl true) fun _ _ _ => False := fun S ρ d r dv hc => by
      obtain ⟨S', e⟩ := hl ns hn hb S d hc
      refine ⟨rfl, S, ρ, [d], r, .one dv, ?_⟩
      rw [e]
      intro ρ' H' x r' v hv
      cases hv
      rfl
    rcases hS with (h1 | ⟨o, h1⟩) | h1
    · refine fin [.lst (scrD ns)] [a] (.loc 0) ⟨rfl, by simp, fun k o hk => ?_, tab⟩ (.loc rfl) (.inl ⟨rfl, rfl⟩)
      cases k with
      | zero =>
        cases hk
        exact ⟨a, rfl, hz, _, h1, scr_dvs ns⟩
      | succ k => cases hk
    · exact fin [] [] (.ro (scrD ns)) ⟨rfl, by simp, fun k o hk => (nomatch hk), tab⟩ (.ro (.inl ⟨o, h1⟩) (scr_dvs ns)) (.inr ⟨rfl, rfl⟩)
    · exact fin [] [] (.ro (scrD ns)) ⟨rfl, by simp, fun k o hk => (nomatch hk), tab⟩ (.ro (.inr h1) (scr_dvs ns)) (.inr ⟨rfl, rfl⟩)
  · have lv := lv_ok (pr := l.prog) (w := w) (base := base) O KO (fun u hu => TB (He.cT K u.d.at_) (List.mem_map.mpr ⟨u, hu, rfl⟩)) M li t hi fd F
    have ef : (T.L K).fa li = He.fAd K t.d.at_ := fa_is li hi
    have z := lv.1
    rw [ef, ← efa, hps] at z
    exact z
theorem cx_end (pr : Program) (w : World) (H : Hp) (s : Shared) (e : Value) (s' : Shared) : L2N.CX pr w [] H s (fun _ _ _ => False) e s' → False := fun ⟨_, _, _, _, _, _, _, _, _, _, _, _, z⟩ => z
end
end Z
end
section
/-! ZTx: what is asked of a text, as questions that are counted out. -/
namespace Z
open PySem PySem.Spec PyProof.Rows L2
def rowOf (e : Str) : Expr → Option (Str × Str)
  | .Tuple es _ _ => (match es with
    | [a, b] => (match a, b with
      | .Constant cn _ _, .Call f args kws _ => (match cn, f, args, kws with
        | .str n, .Name i _, [x, y], [] => (match x, y with
          | .Name e' _, .Name c _ => if i = "isinstance" ∧ e' = e then some (n, c) else none
          | _, _ => none)
        | _, _, _, _ => none)
      | _, _ => none)
    | _ => none)
  | _ => none
theorem rowOf_ok {e : Str} {x : Expr} {r : Str × Str} (h : rowOf e x = some r) : Row e x r.1 r.2 := by
  unfold rowOf at h
  split at h
  · split at h
    · split at h
      · split at h
        · split at h
          · split at h
            · rename_i hc
              obtain ⟨rfl, rfl⟩ := hc
              cases h
              exact .mk ..
            · cases h
          · cases h
        · cases h
      · cases h
    · cases h
  · cases h
theorem rowsOf_ok {e : Str} : ∀ {xs : List Expr} {rs : List (Str × Str)}, mapO (rowOf e) xs = some rs → RowsX e xs rs
  | [], rs, h => by
    rw [mapO_nil h]
    exact .nil
  | x :: xs, rs, h => by
    obtain ⟨y, ys, h1, h2, rfl⟩ := mapO_cons h
    exact .cons (rowOf_ok h1) (rowsOf_ok h2)
def stepOf (e s : Str) : Stmt → Option (List (Str × Str))
  | .Expr c _ => (match c with
    | .Call f args kws cp => (match f, args, kws with
      | .Attribute o m ap, [x], [] => (match o with
        | .Name s' _ => if s' = s ∧ (ap.endLine == cp.line) = true then (if m = "append" then (rowOf e x).map fun r => [r] else if m = "extend" then (match x with
          | .List xs _ => mapO (rowOf e) xs
          | _ => none) else none) else none
        | _ => none)
      | _, _, _ => none)
    | _ => none)
  | _ => none
theorem stepOf_ok {e s : Str} {st : Stmt} {rs : List (Str × Str)} (h : stepOf e s st = some rs) : Step e s st rs := by
  unfold stepOf at h
  split at h
  · split at h
    · split at h
      · split at h
        · split at h
          · rename_i hc
            obtain ⟨rfl, hl⟩ := hc
            split at h
            · rename_i hm
              subst hm
              obtain ⟨r, e1, rfl⟩ := map_some h
              exact .app _ _ _ _ (rowOf_ok e1) hl
            · split at h
              · rename_i hm
                subst hm
                split at h
                · exact .ext _ _ _ _ _ (rowsOf_ok h) hl
                · cases h
              · cases h
          · cases h
        · cases h
      · cases h
    · cases h
  · cases h
/-- the end of the suite -/
def finOf (e s : Str) (N : List Str) (sc : Scope) : Stmt → Bool
  | .Return r _ => (match r with
    | some (.Tuple [.Call (.Attribute (.Constant (.str z) _ _) m ap) [.ListComp (.Name nm _) [⟨.Tuple [.Name nm' _, .Name b _] _ _, .Name s' _, [.Name b' _], 0⟩] scope _] [] cp, .Attribute (.Name e' _) wh _] _ _) =>
      decide (z = " ") && decide (m = "join") && decide (nm' = nm) && decide (s' = s) && decide (b' = b) && decide (e' = e) && decide (wh = "what") && (ap.endLine == cp.line) &&
        (match idx N nm, idx N b with
        | some i1, some i2 => blkC N sc scope [(nm, i1), (b, i2)] && decide (i1 ≠ i2)
        | _, _ => false) && decide (scope.names.lookup nm = some .local) && decide (scope.names.lookup b = some .local) && !dbg nm && !dbg b
    | _ => false)
  | _ => false
theorem finOf_ok {e s : Str} {N : List Str} {sc : Scope} {st : Stmt} (h : finOf e s N sc st = true) : Steps e s N sc [st] [] := by
  unfold finOf at h
  split at h
  · split at h
    · simp only [Bool.and_eq_true, decide_eq_true_eq, Bool.not_eq_true'] at h
      obtain ⟨⟨⟨⟨⟨⟨⟨⟨⟨⟨⟨⟨rfl, rfl⟩, rfl⟩, rfl⟩, rfl⟩, rfl⟩, rfl⟩, h8⟩, h9⟩, h10⟩, h11⟩, h12⟩, h13⟩ := h
      split at h9
      · rename_i i1 i2 _ _
        simp only [Bool.and_eq_true, decide_eq_true_eq] at h9
        exact .fin _ _ _ _ _ _ _ _ _ _ _ _ _ _ _ _ _ h8 h9.1 h9.2 h10 h11 (dbg_no h12).1 (dbg_no h12).2 (dbg_no h13).1 (dbg_no h13).2
      · cases h9
    · cases h
  · cases h
def stepsOf (e s : Str) (N : List Str) (sc : Scope) : List Stmt → Option (List (Str × Str))
  | [] => none
  | st :: r => (match r with
    | [] => if finOf e s N sc st = true then some [] else none
    | _ :: _ => (match stepOf e s st, stepsOf e s N sc r with
      | some a, some b => some (a ++ b)
      | _, _ => none))
theorem stepsOf_ok {e s : Str} {N : List Str} {sc : Scope} : ∀ {b : List Stmt} {rs : List (Str × Str)}, stepsOf e s N sc b = some rs → Steps e s N sc b rs
  | [], _, h => by cases h
  | [st], rs, h => by
    unfold stepsOf at h
    dsimp only at h
    split at h
    · cases h
      exact finOf_ok (by assumption)
    · cases h
  | st :: st2 :: r, rs, h => by
    unfold stepsOf at h
    dsimp only at h
    split at h
    · rename_i a b h1 h2
      cases h
      exact .cons (stepOf_ok h1) (stepsOf_ok h2)
    · cases h
/-- what a def that hears is made of -/
structure HParts where
  a : Str
  tl : Str
  csn : Str
  e : Str
  s : Str
  xs : List Expr
  rest : List Stmt
def hParts : List Stmt → Option HParts
  | [.Try [.Return (some (.Tuple [.Constant (.str tl) _ _, .Call (.Name a _) [] [] _] _ _)) _] [.ExceptHandler (some (.Name csn _)) (some e) (.Assign [.Name s _] (.List xs _) _ :: rest) _] [] [] _] => some ⟨a, tl, csn, e, s, xs, rest⟩
  | _ => none
theorem hParts_ok {b : List Stmt} {h : HParts} (e : hParts b = some h) : ∃ (j k1 : Nat) (q1 q2 q3 q4 q5 q6 q7 q8 q9 q10 q11 : Pos), b = heardB h.a h.tl h.csn h.e h.s h.xs h.rest j k1 q1 q2 q3 q4 q5 q6 q7 q8 q9 q10 q11 := by
  unfold hParts at e
  split at e
  · cases e
    exact ⟨_, _, _, _, _, _, _, _, _, _, _, _, _, rfl⟩
  · cases e
def scopeB (N ps : List Str) (sc : Scope) : Bool := decide (sc.kind = .function) && !sc.isCoroutine && !sc.isGenerator && decide (N.Nodup) && decide (N.take ps.length = ps) && (ps.all fun x => decide (sc.names.lookup x = some .local) || decide (sc.names.lookup x = some .cell)) && sc.names.all fun y => !decide (y.2 = .free)
theorem scopeB_ok {N ps : List Str} {sc : Scope} (h : scopeB N ps sc = true) : FnScope N ps sc := by
  unfold scopeB at h
  simp only [Bool.and_eq_true, Bool.or_eq_true, decide_eq_true_eq, Bool.not_eq_true', List.all_eq_true, decide_eq_false_iff_not] at h
  obtain ⟨⟨⟨⟨⟨⟨h1, h2⟩, h3⟩, h4⟩, h5⟩, h6⟩, h7⟩ := h
  exact ⟨h1, h2, h3, h4, h5, h6, h7⟩
/-- a def that hears, asked -/
def HrT.okB (T : Txt) (h : HrT) : Bool := decide (h.d.at_ = (h.x, none)) && decide (h.d.name = h.x) && decide (h.d.qual = h.x) && scopeB h.Ng [h.a] h.d.scope &&
  (match hParts h.d.body with
  | some p => decide (p.a = h.a) && decide (p.tl = h.hd.told) && decide (p.csn = h.csn) && decide (p.e = h.e) && decide (p.s = h.s) && decide (mapO (rowOf h.e) p.xs = some h.rs0) && decide (stepsOf h.e h.s h.Ng h.d.scope p.rest = some h.rs)
  | none => false) &&
  decide (h.Ng[0]? = some h.a) && decide (h.e ∈ h.Ng) && decide (h.s ∈ h.Ng) && decide (h.e ≠ h.s) && decide (h.d.scope.names.lookup h.e = some .local) && decide (h.d.scope.names.lookup h.s = some .local) && decide (h.d.scope.names.lookup h.a = some .local) &&
  !dbg h.a && !dbg h.e && !dbg h.s && decide (h.d.scope.names.lookup ("isinstance" : Str) = some .globalImplicit) && decide (h.d.scope.names.lookup h.csn = some .globalImplicit) && !dbg h.csn && decide (h.hd.root = T.root) && decide (T.cls[T.root]? = some h.csn) &&
  (h.cn.all fun q => decide (h.d.scope.names.lookup q.1 = some .globalImplicit) && decide (T.cls[q.2]? = some q.1) && !dbg q.1) && ((h.rs0 ++ h.rs).all fun r => (h.cn.lookup r.2).isSome) && decide (h.hd.rows = (h.rs0 ++ h.rs).map fun r => (r.1, (h.cn.lookup r.2).getD 0)) &&
  decide ((h.rs0 ++ h.rs).length ≤ 1000) && decide (((h.rs0 ++ h.rs).map (·.1.length)).sum + (h.rs0 ++ h.rs).length ≤ 16777216)
theorem HrT.okB_ok {T : Txt} {h : HrT} (hB : h.okB T = true) (hd : h.d.dfl = []) (bnd : Bnd h.d [h.a]) (hp : ∃ p, hParts h.d.body = some p ∧ h.xs = p.xs ∧ h.rest = p.rest) : h.Ok T := by
  obtain ⟨p, ep, e1, e2⟩ := hp
  unfold HrT.okB at hB
  rw [ep] at hB
  simp only [Bool.and_eq_true, decide_eq_true_eq, Bool.not_eq_true', List.all_eq_true] at hB
  obtain ⟨⟨⟨⟨⟨⟨⟨⟨⟨⟨⟨⟨⟨⟨⟨⟨⟨⟨⟨⟨⟨⟨⟨⟨b1, b2⟩, b3⟩, b4⟩, b5⟩, b6⟩, b7⟩, b8⟩, b9⟩, b10⟩, b11⟩, b12⟩, b13⟩, b14⟩, b15⟩, b16⟩, b17⟩, b18⟩, b19⟩, b20⟩, b21⟩, b22⟩, b23⟩, b24⟩, b25⟩ := hB
  obtain ⟨⟨⟨⟨⟨⟨c1, c2⟩, c3⟩, c4⟩, c5⟩, c6⟩, c7⟩ := b5
  refine ⟨b1, b2, b3, hd, bnd, scopeB_ok b4, ?_, by rw [e1]; exact rowsOf_ok c6, by rw [e2]; exact stepsOf_ok c7, b6, List.getElem?_of_mem b7, List.getElem?_of_mem b8, b9, b10, b11, .inl b12, b13, b14, b15, b16, b17, b18, b19, b20, fun q hq => ?_, b22, b23, b24, b25⟩
  · obtain ⟨j, k1, q1, q2, q3, q4, q5, q6, q7, q8, q9, q10, q11, eb⟩ := hParts_ok ep
    refine ⟨j, k1, q1, q2, q3, q4, q5, q6, q7, q8, q9, q10, q11, ?_⟩
    rw [eb, c1, c2, c3, c4, c5, e1, e2]
  · have z := b21 q hq
    exact ⟨z.1.1, z.1.2, z.2⟩
/-- the refusals' __init__ -/
def initOf : List Stmt → Bool
  | [.Expr (.Call (.Attribute (.Name ve _) ini p2) [.Name s1 _, .Name w1 _] [] p5) _, .Assign [.Attribute (.Name s2 _) w2 _] (.Name w3 _) _] => decide (ve = "ValueError") && decide (ini = "__init__") && decide (s1 = "self") && decide (w1 = "what") && decide (s2 = "self") && decide (w2 = "what") && decide (w3 = "what") && (p2.endLine == p5.line)
  | _ => false
theorem initOf_ok {b : List Stmt} (h : initOf b = true) : ∃ q1 q2 q3 q4 q5 q6 q7 q8 q9 q10 : Pos, b = initB q1 q2 q3 q4 q5 q6 q7 q8 q9 q10 ∧ (q2.endLine == q5.line) = true := by
  unfold initOf at h
  split at h
  · simp only [Bool.and_eq_true, decide_eq_true_eq] at h
    obtain ⟨⟨⟨⟨⟨⟨⟨rfl, rfl⟩, rfl⟩, rfl⟩, rfl⟩, rfl⟩, rfl⟩, h8⟩ := h
    exact ⟨_, _, _, _, _, _, _, _, _, _, rfl, h8⟩
  · cases h
/-- every one -/
def allP {α : Type} (p : α → Prop) : List α → Prop
  | [] => True
  | x :: r => p x ∧ allP p r
theorem allP_ok {α : Type} {p : α → Prop} : ∀ {l : List α}, allP p l → ∀ x ∈ l, p x
  | [], _, x, h => by cases h
  | y :: l, h, x, hx => by
    rcases List.mem_cons.mp hx with e | e
    · rw [e]; exact h.1
    · exact allP_ok h.2 x e
def FnT.okB (t : FnT) : Bool := decide (t.d.at_ = (t.d.name, none)) && scopeB t.N t.ps t.d.scope
theorem FnT.okB_ok {T : Txt} {t : FnT} (h : t.okB = true) (b : Bnd t.d t.ps) (hd : t.d.dfl = []) (c : mapO (cS T.fuel (T.cc t)) t.d.body = some t.core) : t.Ok T := by
  unfold FnT.okB at h
  rw [Bool.and_eq_true, decide_eq_true_eq] at h
  exact ⟨h.1, scopeB_ok h.2, b, hd, c⟩
def initScB (sc : Scope) : Bool := scopeB ["self", "what"] ["self", "what"] sc && decide (sc.names.lookup ("self" : Str) = some .local) && decide (sc.names.lookup ("what" : Str) = some .local) && decide (sc.names.lookup ("ValueError" : Str) = some .globalImplicit)
theorem txt_ok {T : Txt} (h1 : allP (FnT.Ok T) T.fns) (h2 : glB T = true) (h3 : T.subT.length = T.cls.length) (h4 : T.init.dfl = []) (h5 : initOf T.init.body = true) (h6 : initScB T.init.scope = true) (h7 : Bnd T.init ["self", "what"]) (h8 : allP (HrT.Ok T) T.hears) : T.Ok := by
  unfold initScB at h6
  simp only [Bool.and_eq_true, decide_eq_true_eq] at h6
  exact ⟨allP_ok h1, h2, h3, h4, initOf_ok h5, scopeB_ok h6.1.1.1, h6.1.1.2, h6.1.2, h6.2, h7, allP_ok h8⟩
end Z
end
section
/-! ZWp: reckoning in the core language. No model in sight. -/
namespace Zp
open Z
open PySem (Str PyData)
section
variable {α β γ : Type}
@[simp] theorem ret_bd (a : α) (f : α → M β) : bd (ret a) f = f a := rfl
@[simp] theorem stuck_bd (f : α → M β) : bd stuck f = stuck := rfl
@[simp] theorem thr_bd (c : Nat) (w : D) (f : α → M β) : bd (thr c w) f = thr c w := rfl
@[simp] theorem bd_bd (m : M α) (f : α → M β) (g : β → M γ) : bd (bd m f) g = bd m fun a => bd (f a) g := by
  funext S
  unfold bd
  cases m S <;> rfl
theorem bd_ret (m : M α) : bd m ret = m := by
  funext S
  unfold bd
  cases m S <;> rfl
theorem ite_bd (c : Prop) [Decidable c] (m n : M α) (f : α → M β) : bd (if c then m else n) f = if c then bd m f else bd n f := by
  split <;> rfl
theorem newT_is (l : List D) (h : l.length ≤ line) : newT l = ret (.tup l) := by
  funext S
  unfold newT
  rw [if_pos h]
  rfl
/-! ### what a meaning comes to -/
def wp' (m : M α) (Q : α → Sto → Prop) (X : Nat → D → Sto → Prop) (S : Sto) : Prop := match m S with
  | .ok a S' => Q a S'
  | .exc c w S' => X c w S'
  | .stuck => False
structure wp (m : M α) (Q : α → Sto → Prop) (X : Nat → D → Sto → Prop) (S : Sto) : Prop where
  run : wp' m Q X S
variable {m : M α} {f : α → M β} {Q Q' : α → Sto → Prop} {R : β → Sto → Prop} {X X' : Nat → D → Sto → Prop} {S S' : Sto}
theorem wp_iff : wp m Q X S ↔ wp' m Q X S := ⟨fun h => h.1, fun h => ⟨h⟩⟩
theorem wp_mono (h : wp m Q X S) (hq : ∀ a S', Q a S' → Q' a S') (hx : ∀ c w S', X c w S' → X' c w S') : wp m Q' X' S := by
  rw [wp_iff] at h ⊢
  unfold wp' at h ⊢
  split at h
  · exact hq _ _ h
  · exact hx _ _ _ h
  · exact h
theorem wp_imp (h : wp m Q X S) (hq : ∀ a S', Q a S' → Q' a S') : wp m Q' X S := wp_mono h hq fun _ _ _ z => z
@[simp] theorem wp_bd : wp (bd m f) R X S ↔ wp m (fun a S' => wp (f a) R X S') X S := by
  rw [wp_iff, wp_iff]
  unfold wp' bd
  cases m S with
  | ok a S' => exact wp_iff.symm
  | exc c w S' => exact Iff.rfl
  | stuck => exact Iff.rfl
@[simp] theorem wp_ret {a : α} : wp (ret a) Q X S ↔ Q a S := wp_iff.trans Iff.rfl
@[simp] theorem wp_stuck : wp (stuck : M α) Q X S ↔ False := wp_iff.trans Iff.rfl
@[simp] theorem wp_thr {c : Nat} {w : D} : wp (thr c w : M α) Q X S ↔ X c w S := wp_iff.trans Iff.rfl
theorem wp_ite {c : Prop} [Decidable c] {m n : M α} : wp (if c then m else n) Q X S ↔ if c then wp m Q X S else wp n Q X S := by
  split <;> exact Iff.rfl
theorem wp_newT {l : List D} {Q : D → Sto → Prop} : wp (newT l) Q X S ↔ l.length ≤ line ∧ Q (.tup l) S := by
  rw [wp_iff]
  unfold wp' newT
  split
  · rename_i a S' h
    split at h
    · rename_i hz
      cases h
      exact ⟨fun q => ⟨hz, q⟩, fun q => q.2⟩
    · cases h
  · rename_i h
    split at h <;> cases h
  · rename_i h
    split at h
    · cases h
    · rename_i hz
      exact ⟨fun q => q.elim, fun q => hz q.1⟩
theorem wp_new {l : List D} {Q : D → Sto → Prop} : wp (new l) Q X S ↔ l.length ≤ line ∧ Q (.loc S.length) (S ++ [.lst l]) := by
  rw [wp_iff]
  unfold wp' new
  split
  · rename_i a S' h
    split at h
    · rename_i hz
      cases h
      exact ⟨fun q => ⟨hz, q⟩, fun q => q.2⟩
    · cases h
  · rename_i h
    split at h <;> cases h
  · rename_i h
    split at h
    · cases h
    · rename_i hz
      exact ⟨fun q => q.elim, fun q => hz q.1⟩
theorem wp_getL {a : Nat} {Q : List D → Sto → Prop} : wp (getL a) Q X S ↔ ∃ l, S[a]? = some (.lst l) ∧ Q l S := by
  rw [wp_iff]
  unfold wp' getL
  cases h : S[a]? with
  | none => exact ⟨fun q => q.elim, fun ⟨l, e, _⟩ => nomatch e⟩
  | some o =>
    cases o with
    | lst l => exact ⟨fun q => ⟨l, rfl, q⟩, fun ⟨l', e, q⟩ => by cases e; exact q⟩
theorem wp_putL {a : Nat} {l : List D} {Q : Unit → Sto → Prop} : wp (putL a l) Q X S ↔ (∃ l0, S[a]? = some (.lst l0)) ∧ l.length ≤ line ∧ Q () (S.set a (.lst l)) := by
  rw [wp_iff]
  unfold wp' putL
  cases h : S[a]? with
  | none => exact ⟨fun q => q.elim, fun ⟨⟨l, e⟩, _⟩ => nomatch e⟩
  | some o =>
    cases o with
    | lst l0 =>
      dsimp only
      by_cases hz : l.length ≤ line
      · rw [if_pos hz]
        exact ⟨fun q => ⟨⟨l0, rfl⟩, hz, q⟩, fun q => q.2.2⟩
      · rw [if_neg hz]
        exact ⟨fun q => q.elim, fun q => hz q.2.1⟩
theorem wp_calm {X' : Nat → D → Sto → Prop} (h : wp m Q (fun _ _ _ => False) S) : wp (calm m) Q X' S := by
  rw [wp_iff] at *
  unfold wp' calm at *
  cases e : m S with
  | ok a S' => rw [e] at h; exact h
  | exc c w S' => rw [e] at h; exact h.elim
  | stuck => rw [e] at h; exact h.elim
theorem wp_ok (h : wp m Q (fun _ _ _ => False) S) : ∃ a S', m S = .ok a S' ∧ Q a S' := by
  rw [wp_iff] at h
  unfold wp' at h
  cases e : m S with
  | ok a S' => rw [e] at h; exact ⟨a, S', rfl, h⟩
  | exc c w S' => rw [e] at h; exact h.elim
  | stuck => rw [e] at h; exact h.elim
theorem wp_of_ok {a : α} (e : m S = .ok a S') (h : Q a S') : wp m Q X S := by
  rw [wp_iff]
  unfold wp'
  rw [e]
  exact h
end
/-! ### calls -/
theorem call_eq {P : Prog} {n f np ns : Nat} {body : List S} {ds : List D} (h : P.fns[f]? = some ⟨np, ns, body⟩) (hl : ds.length = np) : callP P (n + 1) f ds = bd (exs P (callP P n) body (ds.map some ++ List.replicate (ns - np) none)) fun x => match x with
    | .next _ => Z.ret .non
    | .ret d => Z.ret d
    | _ => stuck := by
  unfold callP
  rw [h]
  show runF P (callP P n) ⟨np, ns, body⟩ ds = _
  unfold runF
  exact if_pos hl
/-! ### the pieces -/
section
variable {P : Prog} {C : Nat → List D → M D} {σ : Env}
@[simp] theorem ev_k (d) : ev P C (.k d) σ = ret d := rfl
@[simp] theorem ev_v (i) : ev P C (.v i) σ = match σ[i]? with | some (some d) => ret d | _ => stuck := rfl
@[simp] theorem ev_bin (o a b) : ev P C (.bin o a b) σ = bd (ev P C a σ) fun x => bd (ev P C b σ) fun y => binop o x y := rfl
@[simp] theorem ev_neg (a) : ev P C (.neg a) σ = bd (ev P C a σ) fun x => match x with | .int i => ret (.int (-i)) | _ => stuck := rfl
@[simp] theorem ev_nt (a) : ev P C (.nt a) σ = bd (ev P C a σ) fun x => match x with | .bl b => ret (.bl (!b)) | _ => stuck := rfl
@[simp] theorem ev_an (a b) : ev P C (.an a b) σ = bd (ev P C a σ) fun x => match x with | .bl true => ev P C b σ | .bl false => ret (.bl false) | _ => stuck := rfl
@[simp] theorem ev_or (a b) : ev P C (.or a b) σ = bd (ev P C a σ) fun x => match x with | .bl true => ret (.bl true) | .bl false => ev P C b σ | _ => stuck := rfl
@[simp] theorem ev_cmp (o a b) : ev P C (.cmp o a b) σ = bd (ev P C a σ) fun x => bd (ev P C b σ) fun y => bd (cmpB o x y) fun b => ret (.bl b) := rfl
@[simp] theorem ev_ch (o o' a b c) : ev P C (.ch o o' a b c) σ = bd (ev P C a σ) fun x => bd (ev P C b σ) fun y => bd (cmpB o x y) fun z => if z = true then bd (ev P C c σ) fun u => bd (cmpB o' y u) fun b => ret (.bl b) else ret (.bl false) := rfl
@[simp] theorem ev_ite (t a b) : ev P C (.ite t a b) σ = bd (tst P C t σ) fun c => if c = true then ev P C a σ else ev P C b σ := rfl
@[simp] theorem ev_call (f as) : ev P C (.call f as) σ = bd (evs P C as σ) fun ds => C f ds := rfl
@[simp] theorem ev_p1 (p a) : ev P C (.p1 p a) σ = bd (ev P C a σ) fun x => prim1 p x := rfl
@[simp] theorem ev_p2 (p a b) : ev P C (.p2 p a b) σ = bd (ev P C a σ) fun x => bd (ev P C b σ) fun y => prim2 p x y := rfl
@[simp] theorem ev_tup (as) : ev P C (.tup as) σ = bd (evs P C as σ) fun ds => newT ds := rfl
@[simp] theorem ev_lst (as) : ev P C (.lst as) σ = bd (evs P C as σ) fun ds => new ds := rfl
@[simp] theorem ev_ix (a i) : ev P C (.ix a i) σ = bd (ev P C a σ) fun x => bd (ev P C i σ) fun k => index x k := rfl
@[simp] theorem ev_sl (a lo hi) : ev P C (.sl a lo hi) σ = bd (ev P C a σ) fun x => bd (ev P C lo σ) fun l => match l with
    | .int l => bd (ev P C hi σ) fun h => match h with
      | .int h => slice x (some l) (some h)
      | _ => stuck
    | _ => stuck := rfl
@[simp] theorem ev_slo (a lo) : ev P C (.slo a lo) σ = bd (ev P C a σ) fun x => bd (ev P C lo σ) fun l => match l with | .int l => slice x (some l) none | _ => stuck := rfl
@[simp] theorem ev_shi (a hi) : ev P C (.shi a hi) σ = bd (ev P C a σ) fun x => bd (ev P C hi σ) fun h => match h with | .int h => slice x none (some h) | _ => stuck := rfl
@[simp] theorem ev_rev (a) : ev P C (.rev a) σ = bd (ev P C a σ) fun x => match x with | .tup l => newT l.reverse | _ => stuck := rfl
@[simp] theorem ev_lc (x it e) : ev P C (.lc x it e) σ = bd (walk P C it σ) fun w => bd (calm (lcL w (fun d => bd (bindT x d (wipeE σ x.own)) fun σ' => bd (ev P C e σ') fun y => ret (some y)) 0 w.len)) fun l => new l := rfl
@[simp] theorem ev_lcif (x it t e) : ev P C (.lcif x it t e) σ = bd (walk P C it σ) fun w => bd (calm (lcL w (fun d => bd (bindT x d (wipeE σ x.own)) fun σ' => bd (tst P C t σ') fun c => if c = true then bd (ev P C e σ') fun y => ret (some y) else ret none) 0 w.len)) fun l => new l := rfl
@[simp] theorem ev_tupOf (it) : ev P C (.tupOf it) σ = bd (walk P C it σ) fun w => match w with | .fix l => newT l | .at a _ => bd (getL a) fun l => newT l := rfl
@[simp] theorem ev_lstOf (it) : ev P C (.lstOf it) σ = bd (walk P C it σ) fun w => match w with | .fix l => new l | .at a _ => bd (getL a) fun l => new l := rfl
@[simp] theorem ev_app (l e) : ev P C (.app l e) σ = bd (ev P C l σ) fun o => match o with | .loc a => bd (ev P C e σ) fun y => bd (getL a) fun xs => bd (putL a (xs ++ [y])) fun _ => ret .non | _ => stuck := rfl
@[simp] theorem ev_ext (l e) : ev P C (.ext l e) σ = bd (ev P C l σ) fun o => match o with
    | .loc a => bd (ev P C e σ) fun y => match y with
      | .loc b => bd (getL a) fun xs => bd (getL b) fun ys => bd (putL a (xs ++ ys)) fun _ => ret .non
      | _ => stuck
    | _ => stuck := rfl
@[simp] theorem ev_pop (l) : ev P C (.pop l) σ = bd (ev P C l σ) fun o => match o with
    | .loc a => bd (getL a) fun xs => match xs.getLast? with
      | some y => bd (putL a xs.dropLast) fun _ => ret y
      | none => stuck
    | _ => stuck := rfl
@[simp] theorem ev_heard (h e) : ev P C (.heard h e) σ = match P.hears[h]? with | none => stuck | some hd => hearM P hd (ev P C e σ) := rfl
@[simp] theorem ev_tupG (it t e) : ev P C (.tupG it t e) σ = bd (gsrc P C it σ) fun l => match gAll σ t e l with | some os => newT (os.filterMap id) | none => stuck := rfl
@[simp] theorem gsrc_val (e) : gsrc P C (.val e) σ = bd (ev P C e σ) fun x => match x with | .tup l => ret l | _ => stuck := rfl
@[simp] theorem gsrc_rg1 (a) : gsrc P C (.rg1 a) σ = bd (ev P C a σ) fun x => match x with | .int j => if rgok j = true then ret (ranges 0 j) else stuck | _ => stuck := rfl
@[simp] theorem tst_nt (a) : tst P C (.nt a) σ = bd (tst P C a σ) fun b => ret (!b) := rfl
@[simp] theorem tst_an (a b) : tst P C (.an a b) σ = bd (tst P C a σ) fun c => if c = true then tst P C b σ else ret false := rfl
@[simp] theorem tst_or (a b) : tst P C (.or a b) σ = bd (tst P C a σ) fun c => if c = true then ret true else tst P C b σ := rfl
@[simp] theorem tst_cmp (o a b) : tst P C (.cmp o a b) σ = bd (ev P C (.cmp o a b) σ) truth := rfl
@[simp] theorem tst_ch (o o' a b c) : tst P C (.ch o o' a b c) σ = bd (ev P C (.ch o o' a b c) σ) truth := rfl
@[simp] theorem tst_call (f as) : tst P C (.call f as) σ = bd (ev P C (.call f as) σ) truth := rfl
@[simp] theorem tst_p1 (p a) : tst P C (.p1 p a) σ = bd (ev P C (.p1 p a) σ) truth := rfl
@[simp] theorem tst_v (i) : tst P C (.v i) σ = bd (ev P C (.v i) σ) truth := rfl
@[simp] theorem evs_nil : evs P C [] σ = ret [] := rfl
@[simp] theorem evs_cons (e es) : evs P C (e :: es) σ = bd (ev P C e σ) fun x => bd (evs P C es σ) fun xs => ret (x :: xs) := rfl
@[simp] theorem walk_val (e) : walk P C (.val e) σ = bd (ev P C e σ) walkOf := rfl
@[simp] theorem walk_rg1 (a) : walk P C (.rg1 a) σ = bd (ev P C a σ) fun x => match x with | .int j => if rgok j = true then ret (.fix (ranges 0 j)) else stuck | _ => stuck := rfl
@[simp] theorem walk_rg2 (a b) : walk P C (.rg2 a b) σ = bd (ev P C a σ) fun x => bd (ev P C b σ) fun y => match x, y with | .int i, .int j => if (rgok i && rgok j) = true then ret (.fix (ranges i j)) else stuck | _, _ => stuck := rfl
@[simp] theorem walk_enum (e) : walk P C (.enum e) σ = bd (ev P C e σ) fun x => match x with | .tup l => ret (.fix (numbered l)) | _ => stuck := rfl
@[simp] theorem ex_set (i e) : ex P C (.set i e) σ = bd (ev P C e σ) fun d => Z.ret (.next (σ.set i (some d))) := rfl
@[simp] theorem ex_setT (is e) : ex P C (.setT is e) σ = bd (ev P C e σ) fun d => bd (bindT (.tp is) d σ) fun σ' => Z.ret (.next σ') := rfl
@[simp] theorem ex_par (i j a b) : ex P C (.par i j a b) σ = bd (ev P C a σ) fun x => bd (ev P C b σ) fun y => Z.ret (.next ((σ.set i (some x)).set j (some y))) := rfl
@[simp] theorem ex_put (o i e) : ex P C (.put o i e) σ = bd (ev P C e σ) fun y => bd (ev P C o σ) fun x => bd (ev P C i σ) fun k => match x, k with
    | .loc a, .int n => bd (getL a) fun l => match place l.length n with
      | some j => bd (putL a (l.set j y)) fun _ => Z.ret (.next σ)
      | none => stuck
    | _, _ => stuck := rfl
@[simp] theorem ex_expr (e) : ex P C (.expr e) σ = bd (ev P C e σ) fun _ => Z.ret (.next σ) := rfl
@[simp] theorem ex_ret (e) : ex P C (.ret e) σ = bd (ev P C e σ) fun d => Z.ret (.ret d) := rfl
@[simp] theorem ex_ifs (t a b) : ex P C (.ifs t a b) σ = bd (tst P C t σ) fun c => if c = true then exs P C a σ else exs P C b σ := rfl
@[simp] theorem ex_fors (x it b) : ex P C (.fors x it b) σ = bd (walk P C it σ) fun w => forL w (fun d σ => bd (bindT x d σ) fun σ' => exs P C b σ') 0 w.len σ := rfl
@[simp] theorem ex_whil (t b) : ex P C (.whil t b) σ = whilL (fun σ => tst P C t σ) (fun σ => exs P C b σ) σ := rfl
@[simp] theorem ex_rais (c e) : ex P C (.rais c e) σ = bd (ev P C e σ) fun d => thr c d := rfl
@[simp] theorem ex_pas : ex P C .pas σ = Z.ret (.next σ) := rfl
@[simp] theorem ex_brk : ex P C .brk σ = Z.ret (.brk σ) := rfl
@[simp] theorem ex_cont : ex P C .cont σ = Z.ret (.cont σ) := rfl
@[simp] theorem exs_nil : exs P C [] σ = Z.ret (.next σ) := rfl
@[simp] theorem exs_cons (s r) : exs P C (s :: r) σ = bd (ex P C s σ) fun f => match f with | .next σ' => exs P C r σ' | f => Z.ret f := rfl
end
/-! ### values -/
section
variable {i j : Int} {l k : List D} {x y : Str} {b c : Bool} {a : Nat} {d : D}
@[simp] theorem add_int : binop .add (.int i) (.int j) = ret (.int (i + j)) := rfl
@[simp] theorem add_ib : binop .add (.int i) (.bl b) = ret (.int (i + b2 b)) := rfl
@[simp] theorem add_tup : binop .add (.tup l) (.tup k) = newT (l ++ k) := rfl
@[simp] theorem add_loc {a b : Nat} : binop .add (.loc a) (.loc b) = bd (getL a) fun x => bd (getL b) fun y => new (x ++ y) := rfl
@[simp] theorem sub_int : binop .sub (.int i) (.int j) = ret (.int (i - j)) := rfl
theorem mul_int (h : i.natAbs.log2 + j.natAbs.log2 < 1000000) : binop .mul (.int i) (.int j) = ret (.int (i * j)) := by
  funext S
  exact if_pos h
theorem div_int (h : 0 < j ∧ j.natAbs.log2 < 9000) : binop .div (.int i) (.int j) = ret (.int (i / j)) := by
  funext S
  exact if_pos h
theorem mod_int (h : 0 < j) : binop .mod (.int i) (.int j) = ret (.int (i % j)) := by
  funext S
  exact if_pos h
theorem pow_int (h : 0 ≤ j ∧ j ≤ 1000000 ∧ i.natAbs < 2 ^ 64) : binop .pow (.int i) (.int j) = ret (.int (i ^ j.toNat)) := by
  funext S
  exact if_pos h
@[simp] theorem lt_int : cmpB .lt (.int i) (.int j) = ret (decide (i < j)) := rfl
@[simp] theorem le_int : cmpB .le (.int i) (.int j) = ret (decide (i ≤ j)) := rfl
@[simp] theorem gt_int : cmpB .gt (.int i) (.int j) = ret (decide (j < i)) := rfl
@[simp] theorem ge_int : cmpB .ge (.int i) (.int j) = ret (decide (j ≤ i)) := rfl
@[simp] theorem is_non : cmpB .is d .non = ret (isNon d) := by cases d <;> rfl
@[simp] theorem isnot_non : cmpB .isnot d .non = ret (!isNon d) := by cases d <;> rfl
theorem eqq_int : eqq (.int i) (.int j) = ret (i == j) := by
  funext S
  show (if PySem.SeqAt.shaped (.int i) && PySem.SeqAt.shaped (.int j) then R.ok (PyData.eqv (.int i) (.int j)) S else R.stuck) = _
  rfl
@[simp] theorem eq_int : cmpB .eq (.int i) (.int j) = ret (i == j) := eqq_int
@[simp] theorem ne_int : cmpB .ne (.int i) (.int j) = ret (!(i == j)) := by
  show (bd (eqq (.int i) (.int j)) fun b => ret (!b)) = _
  rw [eqq_int]
  rfl
@[simp] theorem isI : prim1 .isInt d = ret (.bl (isint d)) := by cases d <;> rfl
@[simp] theorem isB : prim1 .isBool d = ret (.bl (isbool d)) := by cases d <;> rfl
@[simp] theorem isS : prim1 .isStr d = ret (.bl (isstr d)) := by cases d <;> rfl
@[simp] theorem isT : prim1 .isTup d = ret (.bl (istup d)) := by cases d <;> rfl
@[simp] theorem isL : prim1 .isLst d = ret (.bl (islst d)) := by cases d <;> rfl
@[simp] theorem int_int : prim1 .int (.int i) = ret (.int i) := rfl
@[simp] theorem int_bl : prim1 .int (.bl b) = ret (.int (b2 b)) := rfl
@[simp] theorem len_tup : prim1 .len (.tup l) = ret (.int l.length) := rfl
@[simp] theorem len_ro : prim1 .len (.ro l) = ret (.int l.length) := rfl
@[simp] theorem len_loc : prim1 .len (.loc a) = bd (getL a) fun l => ret (.int l.length) := rfl
@[simp] theorem max_int : prim2 .max (.int i) (.int j) = ret (.int (if j > i then j else i)) := rfl
@[simp] theorem min_int : prim2 .min (.int i) (.int j) = ret (.int (if j < i then j else i)) := rfl
@[simp] theorem tr_bl : truth (.bl b) = ret b := rfl
@[simp] theorem bind_nm {i : Nat} {σ : Env} : bindT (.nm i) d σ = ret (σ.set i (some d)) := rfl
@[simp] theorem wo_tup : walkOf (.tup l) = ret (.fix l) := rfl
@[simp] theorem wo_ro : walkOf (.ro l) = ret (.fix l) := rfl
@[simp] theorem wo_loc : walkOf (.loc a) = bd (getL a) fun l => ret (.at a l.length) := rfl
@[simp] theorem ix_tup {n : Nat} : index (.tup l) (.int i) = (match (place l.length i).bind fun j => l[j]? with
    | some d => ret d
    | none => stuck) := rfl
theorem place_nat {n : Nat} {k : Nat} (h : k < n) : place n (k : Int) = some k := by
  unfold place
  rw [if_pos (by omega), if_pos (by omega)]
  simp
end
/-! ### loops over what stands -/
/-- a loop over data -/
def forD (body : D → Env → M F) : List D → Env → M F
  | [], σ => Z.ret (.next σ)
  | d :: r, σ => bd (body d σ) fun f => match f with
    | .next σ' | .cont σ' => forD body r σ'
    | .brk σ' => Z.ret (.next σ')
    | .ret d => Z.ret (.ret d)
@[simp] theorem forD_nil (body : D → Env → M F) (σ : Env) : forD body [] σ = Z.ret (.next σ) := rfl
theorem forD_cons (body : D → Env → M F) (d : D) (r : List D) (σ : Env) : forD body (d :: r) σ = bd (body d σ) fun f => match f with
    | .next σ' | .cont σ' => forD body r σ'
    | .brk σ' => Z.ret (.next σ')
    | .ret d => Z.ret (.ret d) := rfl
theorem forL_drop (body : D → Env → M F) (l : List D) : ∀ (n i : Nat) (σ : Env), i + n = l.length → forL (.fix l) body i n σ = forD body (l.drop i) σ
  | 0, i, σ, h => by
    rw [List.drop_eq_nil_of_le (by omega)]
    rfl
  | n + 1, i, σ, h => by
    have hi : i < l.length := by omega
    have e : l.drop i = l[i] :: l.drop (i + 1) := List.drop_eq_getElem_cons hi
    rw [e]
    have eg : W.get (.fix l) i = ret l[i] := by
      show (match l[i]? with | some d => ret d | none => stuck) = _
      rw [List.getElem?_eq_getElem hi]
    show bd (W.get (.fix l) i) _ = _
    rw [eg, ret_bd]
    show bd (body l[i] σ) _ = bd (body l[i] σ) _
    congr 1
    funext f
    cases f with
    | next σ' => exact forL_drop body l n (i + 1) σ' (by omega)
    | cont σ' => exact forL_drop body l n (i + 1) σ' (by omega)
    | brk σ' => rfl
    | ret d => rfl
@[simp] theorem forL_fix (body : D → Env → M F) (l : List D) (σ : Env) : forL (.fix l) body 0 (W.fix l).len σ = forD body l σ := by
  have z := forL_drop body l l.length 0 σ (by simp)
  rw [List.drop_zero] at z
  exact z
/-- a comprehension over data -/
def lcD (body : D → M (Option D)) : List D → M (List D)
  | [] => ret []
  | d :: r => bd (body d) fun o => bd (lcD body r) fun ys => ret (match o with
    | some y => y :: ys
    | none => ys)
theorem lcL_drop (body : D → M (Option D)) (l : List D) : ∀ (n i : Nat), i + n = l.length → lcL (.fix l) body i n = lcD body (l.drop i)
  | 0, i, h => by
    rw [List.drop_eq_nil_of_le (by omega)]
    rfl
  | n + 1, i, h => by
    have hi : i < l.length := by omega
    have e : l.drop i = l[i] :: l.drop (i + 1) := List.drop_eq_getElem_cons hi
    rw [e]
    have eg : W.get (.fix l) i = ret l[i] := by
      show (match l[i]? with | some d => ret d | none => stuck) = _
      rw [List.getElem?_eq_getElem hi]
    show bd (W.get (.fix l) i) _ = _
    rw [eg, ret_bd, lcL_drop body l n (i + 1) (by omega)]
    rfl
@[simp] theorem lcL_fix (body : D → M (Option D)) (l : List D) : lcL (.fix l) body 0 (W.fix l).len = lcD body l := by
  have z := lcL_drop body l l.length 0 (by simp)
  rw [List.drop_zero] at z
  exact z
/-- a comprehension whose turns tell one thing each, nothing else -/
theorem lcD_ret {body : D → M (Option D)} {f : D → Option D} : ∀ {l : List D}, (∀ d ∈ l, body d = ret (f d)) → lcD body l = ret (l.filterMap f)
  | [], _ => rfl
  | d :: r, h => by
    unfold lcD
    rw [h d List.mem_cons_self, ret_bd, lcD_ret fun e he => h e (List.mem_cons_of_mem _ he), ret_bd, List.filterMap_cons]
    cases f d <;> rfl
@[simp] theorem calm_ret {α : Type} (a : α) : calm (ret a) = ret a := rfl
/-- a loop over data, by what stays true -/
theorem forD_wp {body : D → Env → M F} {Q : F → Sto → Prop} {X : Nat → D → Sto → Prop} (I : List D → Env → Sto → Prop) : ∀ {l : List D} {σ : Env} {S : Sto}, I l σ S →
    (∀ d r σ S, I (d :: r) σ S → wp (body d σ) (fun f S' => match f with
      | .next σ' | .cont σ' => I r σ' S'
      | .brk σ' => Q (.next σ') S'
      | .ret d => Q (.ret d) S') X S) → (∀ σ S, I [] σ S → Q (.next σ) S) → wp (forD body l σ) Q X S
  | [], σ, S, h, _, hn => wp_ret.mpr (hn σ S h)
  | d :: r, σ, S, h, hs, hn => by
    show wp (bd (body d σ) _) Q X S
    rw [wp_bd]
    refine wp_imp (hs d r σ S h) fun f S' q => ?_
    cases f with
    | next σ' => exact forD_wp I q hs hn
    | cont σ' => exact forD_wp I q hs hn
    | brk σ' => exact wp_ret.mpr q
    | ret d => exact wp_ret.mpr q
/-! ### while -/
theorem whilN_more {t : Env → M Bool} {b : Env → M F} : ∀ {n k : Nat} {σ : Env} {S : Sto}, whilN t b n σ S ≠ .stuck → whilN t b (n + k) σ S = whilN t b n σ S
  | 0, k, σ, S, h => (h rfl).elim
  | n + 1, k, σ, S, h => by
    have e : n + 1 + k = (n + k) + 1 := by omega
    rw [e]
    have u : ∀ j, whilN t b (j + 1) σ S = bd (t σ) (fun c => if c = true then bd (b σ) fun f => match f with
      | .next σ' | .cont σ' => whilN t b j σ'
      | .brk σ' => Z.ret (.next σ')
      | .ret d => Z.ret (.ret d)
      else Z.ret (.next σ)) S := fun _ => rfl
    rw [u] at h
    rw [u, u]
    unfold bd at h ⊢
    cases q : t σ S with
    | ok c S1 =>
      rw [q] at h
      dsimp only at h ⊢
      cases c with
      | false => rfl
      | true =>
        rw [if_pos rfl] at h
        rw [if_pos rfl, if_pos rfl]
        cases q2 : b σ S1 with
        | ok f S2 =>
          rw [q2] at h
          cases f with
          | next σ' => exact whilN_more h
          | cont σ' => exact whilN_more h
          | brk σ' => rfl
          | ret d => rfl
        | exc c w S2 => rfl
        | stuck => rfl
    | exc c w S1 => rfl
    | stuck => rfl
/-- a while that ends -/
theorem whilL_wp {t : Env → M Bool} {b : Env → M F} {Q : F → Sto → Prop} {X : Nat → D → Sto → Prop} {n : Nat} {σ : Env} {S : Sto} (h : wp (whilN t b n σ) Q X S) : wp (whilL t b σ) Q X S := by
  have hn : whilN t b n σ S ≠ .stuck := fun z => by
    rw [wp_iff] at h
    unfold wp' at h
    rw [z] at h
    exact h
  have ex : ∃ n, whilN t b n σ S ≠ .stuck := ⟨n, hn⟩
  have e : whilL t b σ S = whilN t b n σ S := by
    unfold whilL
    rw [dif_pos ex]
    have hc := Classical.choose_spec ex
    rcases Nat.le_total (Classical.choose ex) n with le | le
    · obtain ⟨k, hk⟩ := Nat.le.dest le
      rw [← hk, whilN_more hc]
    · obtain ⟨k, hk⟩ := Nat.le.dest le
      have z := whilN_more (k := k) hn
      rw [hk] at z
      exact z
  rw [wp_iff] at h ⊢
  unfold wp' at h ⊢
  rw [e]
  exact h
/-- by what stays true, and a number that falls -/
theorem whil_wp {t : Env → M Bool} {b : Env → M F} {Q : F → Sto → Prop} {X : Nat → D → Sto → Prop} (I : Nat → Env → Sto → Prop) {k : Nat} {σ : Env} {S : Sto} (h : I k σ S)
    (hs : ∀ k σ S, I k σ S → wp (t σ) (fun c S1 => if c = true then wp (b σ) (fun f S' => match f with
      | .next σ' | .cont σ' => ∃ k', k' < k ∧ I k' σ' S'
      | .brk σ' => Q (.next σ') S'
      | .ret d => Q (.ret d) S') X S1 else Q (.next σ) S1) X S) : wp (whilL t b σ) Q X S := by
  have key : ∀ (k : Nat) (σ : Env) (S : Sto), I k σ S → wp (whilN t b (k + 1) σ) Q X S := by
    intro k
    induction k using Nat.strongRecOn with
    | ind k ih =>
      intro σ S h
      show wp (bd (t σ) _) Q X S
      rw [wp_bd]
      refine wp_imp (hs k σ S h) fun c S1 q => ?_
      cases c with
      | false => exact wp_ret.mpr q
      | true =>
        rw [if_pos rfl] at q ⊢
        rw [wp_bd]
        refine wp_imp q fun f S2 q2 => ?_
        have go : ∀ {σ' : Env}, (∃ k', k' < k ∧ I k' σ' S2) → wp (whilN t b k σ') Q X S2 := fun {σ'} ⟨k', hk, hi⟩ => by
          have z := ih k' hk σ' S2 hi
          obtain ⟨j, hj⟩ := Nat.le.dest (Nat.succ_le_of_lt hk)
          have hn : whilN t b (k' + 1) σ' S2 ≠ .stuck := fun y => by
            rw [wp_iff] at z
            unfold wp' at z
            rw [y] at z
            exact z
          have e := whilN_more (k := j) hn
          have hj' : k' + 1 + j = k := hj
          rw [hj'] at e
          rw [wp_iff] at z ⊢
          unfold wp' at z ⊢
          rw [e]
          exact z
        cases f with
        | next σ' => exact go q2
        | cont σ' => exact go q2
        | brk σ' => exact wp_ret.mpr q2
        | ret d => exact wp_ret.mpr q2
  exact whilL_wp (key k σ S h)
end Zp
end
section
/-! ZLib: defs that many laws share. -/
namespace Zp
open Z
open PySem (Str PyData)
section
variable {P : Prog} {n f w c m k : Nat} {d : D} {lo hi : Int}
/-- a whole number within bounds -/
def isIn (d : D) (lo hi : Int) : Bool := match d with
  | .int i => decide (lo ≤ i) && decide (i ≤ hi)
  | _ => false
def isW : D → Bool
  | .int _ => true
  | _ => false
def cWhole : List S := [.ret (.an (.p1 .isInt (.v 0)) (.an (.nt (.p1 .isBool (.v 0))) (.ch .le .le (.v 1) (.v 0) (.v 2))))]
theorem whole_eq (h : P.fns[f]? = some ⟨3, 3, cWhole⟩) : callP P (n + 1) f [d, .int lo, .int hi] = ret (.bl (isIn d lo hi)) := by
  rw [call_eq h rfl]
  cases d <;> simp [cWhole, prim1, isint, isbool, isIn, cmpB]
  rename_i i
  by_cases h1 : lo ≤ i <;> simp [h1]
def cIsWhole : List S := [.ret (.an (.p1 .isInt (.v 0)) (.nt (.p1 .isBool (.v 0))))]
theorem isWhole_eq (h : P.fns[f]? = some ⟨1, 1, cIsWhole⟩) : callP P (n + 1) f [d] = ret (.bl (isW d)) := by
  rw [call_eq h rfl]
  cases d <;> simp [cIsWhole, prim1, isint, isbool, isW]
def cIsIn (w : Nat) : List S := [.ret (.an (.call w [(.v 0)]) (.ch .le .le (.v 1) (.v 0) (.v 2)))]
theorem isIn_eq (h : P.fns[f]? = some ⟨3, 3, cIsIn w⟩) (hw : P.fns[w]? = some ⟨1, 1, cIsWhole⟩) : callP P (n + 2) f [d, .int lo, .int hi] = ret (.bl (isIn d lo hi)) := by
  rw [call_eq h rfl]
  cases d <;> simp [cIsIn, isWhole_eq hw, isW, isIn, cmpB]
  rename_i i
  by_cases h1 : lo ≤ i <;> simp [h1]
def cMany (w c : Nat) : List S := [.ifs (.nt (.call w [(.v 0), (.v 1), (.v 2)])) [.rais c (.v 0)] []]
theorem many_eq (h : P.fns[f]? = some ⟨3, 3, cMany w c⟩) (hw : P.fns[w]? = some ⟨3, 3, cWhole⟩) : callP P (n + 2) f [d, .int lo, .int hi] = if isIn d lo hi = true then ret .non else thr c d := by
  rw [call_eq h rfl]
  simp [cMany, whole_eq hw, truth]
  cases isIn d lo hi <;> simp
def cLine (m z : Nat) : List S := [.expr (.call m [(.v 0), (.k (.int 1)), (.k (.int z))])]
theorem line_eq {z : Nat} (h : P.fns[f]? = some ⟨1, 1, cLine m z⟩) (hm : P.fns[m]? = some ⟨3, 3, cMany w c⟩) (hw : P.fns[w]? = some ⟨3, 3, cWhole⟩) : callP P (n + 3) f [d] = if isIn d 1 z = true then ret .non else thr c d := by
  rw [call_eq h rfl]
  simp [cLine, many_eq hm hw]
  cases isIn d 1 z <;> simp
/-- the number of a whole number -/
def iv : D → Int
  | .int i => i
  | _ => 0
/-- whole numbers that rise, between low and high -/
def lotB : List D → Int → Int → Bool
  | [], _, _ => true
  | d :: r, lo, hi => isIn d lo hi && lotB r (iv d + 1) hi
def lotV (d : D) (lo hi : Int) : Bool := match d with
  | .tup l => lotB l lo hi
  | _ => false
def cLotB (w : Nat) : List S := [.ifs (.nt (.call w [(.v 4), (.v 3), (.v 2)])) [.ret (.k (.bl false))] [], .set 3 (.bin .add (.v 4) (.k (.int 1)))]
def cLot (w : Nat) : List S := [.ifs (.nt (.p1 .isTup (.v 0))) [.ret (.k (.bl false))] [], .set 3 (.v 1), .fors (.nm 4) (.val (.v 0)) (cLotB w), .ret (.k (.bl true))]
theorem isIn_iv {d : D} {lo hi : Int} (h : isIn d lo hi = true) : d = .int (iv d) := by
  cases d <;> first | rfl | cases h
theorem lot_step (hw : P.fns[w]? = some ⟨3, 3, cWhole⟩) {a b x : Option D} {least : Int} : exs P (callP P (n + 1)) (cLotB w) [a, b, some (.int hi), some (.int least), some d] = if isIn d least hi = true then ret (.next [a, b, some (.int hi), some (.int (iv d + 1)), some d]) else ret (.ret (.bl false)) := by
  simp [cLotB, whole_eq hw]
  cases h : isIn d least hi with
  | false => simp
  | true =>
    rw [isIn_iv h]
    simp [iv]
theorem lot_loop (hw : P.fns[w]? = some ⟨3, 3, cWhole⟩) : ∀ (l : List D) (least : Int) (x a b : Option D), ∃ σ', forD (fun d σ => exs P (callP P (n + 1)) (cLotB w) (σ.set 4 (some d))) l [a, b, some (.int hi), some (.int least), x] = if lotB l least hi = true then ret (.next σ') else ret (.ret (.bl false))
  | [], least, x, a, b => ⟨_, rfl⟩
  | d :: r, least, x, a, b => by
    obtain ⟨σ', e⟩ := lot_loop hw r (iv d + 1) (some d) a b
    refine ⟨σ', ?_⟩
    rw [forD_cons]
    show bd (exs P (callP P (n + 1)) (cLotB w) [a, b, some (.int hi), some (.int least), some d]) _ = _
    rw [lot_step (x := x) hw]
    unfold lotB
    cases isIn d least hi with
    | false => simp
    | true =>
      simp only [if_pos, ret_bd, Bool.true_and]
      exact e
theorem lot_eq (h : P.fns[f]? = some ⟨3, 5, cLot w⟩) (hw : P.fns[w]? = some ⟨3, 3, cWhole⟩) : callP P (n + 2) f [d, .int lo, .int hi] = ret (.bl (lotV d lo hi)) := by
  rw [call_eq h rfl]
  cases d with
  | tup l =>
    obtain ⟨σ', e⟩ := lot_loop (n := n) (hi := hi) hw l lo none (some (.tup l)) (some (.int lo))
    simp [cLot, istup, lotV, e]
    cases lotB l lo hi <;> simp
  | _ => simp [cLot, istup, lotV]
end
end Zp
end
section
/-! ZFr: lists that stand, trees, what a call leaves alone. -/
namespace Zp
open Z
open PySem (Str PyData)
/-- lists that nothing alters any more -/
abbrev Hz := Nat → Option (List D)
def Agr (H : Hz) (S : Sto) : Prop := ∀ a l, H a = some l → S[a]? = some (.lst l)
def Hz.le (H H' : Hz) : Prop := ∀ a l, H a = some l → H' a = some l
def Hz.put (H : Hz) (b : Nat) (l : List D) : Hz := fun a => if a = b then some l else H a
def hz0 : Hz := fun _ => none
def Ext (S S' : Sto) : Prop := ∃ T, S' = S ++ T
/-- all but one list stands as it stood -/
def Frj (j : Nat) (S S' : Sto) : Prop := S.length ≤ S'.length ∧ ∀ a, a < S.length → a ≠ j → S'[a]? = S[a]?
theorem Hz.le_refl (H : Hz) : H.le H := fun _ _ z => z
theorem Hz.le_trans {H H' H'' : Hz} (h : H.le H') (g : H'.le H'') : H.le H'' := fun a l z => g a l (h a l z)
theorem Agr.lt {H : Hz} {S : Sto} (h : Agr H S) {a : Nat} {l : List D} (z : H a = some l) : a < S.length := by
  have := h a l z
  exact (List.getElem?_eq_some_iff.mp this).1
theorem Agr.none {H : Hz} {S : Sto} (h : Agr H S) {a : Nat} (z : S.length ≤ a) : H a = none := by
  cases e : H a with
  | none => rfl
  | some l => exact absurd (h.lt e) (by omega)
theorem Hz.le_put {H : Hz} {b : Nat} {l : List D} (h : H b = none) : H.le (H.put b l) := fun a k z => by
  unfold Hz.put
  by_cases e : a = b
  · rw [e, h] at z
    cases z
  · rw [if_neg e]
    exact z
theorem Hz.put_self {H : Hz} {b : Nat} {l : List D} : H.put b l b = some l := if_pos rfl
theorem Agr.put {H : Hz} {S : Sto} (h : Agr H S) {b : Nat} {l : List D} (z : S[b]? = some (.lst l)) : Agr (H.put b l) S := fun a k e => by
  unfold Hz.put at e
  by_cases q : a = b
  · rw [if_pos q] at e
    cases e
    rw [q]
    exact z
  · rw [if_neg q] at e
    exact h a k e
theorem Agr.hz0 (S : Sto) : Agr hz0 S := fun _ _ z => nomatch z
theorem Ext.refl (S : Sto) : Ext S S := ⟨[], (List.append_nil S).symm⟩
theorem Ext.trans {S S' S'' : Sto} (h : Ext S S') (g : Ext S' S'') : Ext S S'' := by
  obtain ⟨T, rfl⟩ := h
  obtain ⟨U, rfl⟩ := g
  exact ⟨T ++ U, List.append_assoc ..⟩
theorem Ext.app (S T : Sto) : Ext S (S ++ T) := ⟨T, rfl⟩
theorem Ext.get {S S' : Sto} (h : Ext S S') {a : Nat} {o : O} (z : S[a]? = some o) : S'[a]? = some o := by
  obtain ⟨T, rfl⟩ := h
  rw [List.getElem?_append_left (List.getElem?_eq_some_iff.mp z).1]
  exact z
theorem Ext.agr {S S' : Sto} (h : Ext S S') {H : Hz} (g : Agr H S) : Agr H S' := fun a l z => h.get (g a l z)
theorem Ext.len {S S' : Sto} (h : Ext S S') : S.length ≤ S'.length := by
  obtain ⟨T, rfl⟩ := h
  simp
theorem Ext.frj {S S' : Sto} (h : Ext S S') (j : Nat) : Frj j S S' := ⟨h.len, fun a z _ => by
  obtain ⟨T, rfl⟩ := h
  rw [List.getElem?_append_left z]⟩
/-- a fresh list may change -/
theorem Ext.set {S S' : Sto} (h : Ext S S') {b : Nat} {o : O} (hb : S.length ≤ b) : Ext S (S'.set b o) := by
  obtain ⟨T, rfl⟩ := h
  refine ⟨T.set (b - S.length) o, ?_⟩
  rw [List.set_append_right _ _ hb]
theorem Frj.refl (j : Nat) (S : Sto) : Frj j S S := ⟨Nat.le_refl _, fun _ _ _ => rfl⟩
theorem Frj.trans {j : Nat} {S S' S'' : Sto} (h : Frj j S S') (g : Frj j S' S'') : Frj j S S'' :=
  ⟨Nat.le_trans h.1 g.1, fun a z n => (g.2 a (Nat.lt_of_lt_of_le z h.1) n).trans (h.2 a z n)⟩
theorem Frj.get {j : Nat} {S S' : Sto} (h : Frj j S S') {a : Nat} {o : O} (n : a ≠ j) (z : S[a]? = some o) : S'[a]? = some o :=
  (h.2 a (List.getElem?_eq_some_iff.mp z).1 n).trans z
theorem Frj.agr {j : Nat} {S S' : Sto} (h : Frj j S S') {H : Hz} (hj : H j = none) (g : Agr H S) : Agr H S' := fun a l z => h.get (fun e => by rw [e, hj] at z; cases z) (g a l z)
theorem Frj.set {j : Nat} {S S' : Sto} (h : Frj j S S') {b : Nat} {o : O} (hb : b = j ∨ S.length ≤ b) : Frj j S (S'.set b o) :=
  ⟨by rw [List.length_set]; exact h.1, fun a z n => by
    rw [List.getElem?_set_ne (by omega)]
    exact h.2 a z n⟩
theorem get_last (S : Sto) (o : O) : (S ++ [o])[S.length]? = some o := by simp
theorem get_set {S : Sto} {a : Nat} {o p : O} (h : S[a]? = some p) : (S.set a o)[a]? = some o := by
  have := (List.getElem?_eq_some_iff.mp h).1
  simp [this]
theorem get_set_ne {S : Sto} {a b : Nat} {o : O} (h : b ≠ a) : (S.set b o)[a]? = S[a]? := List.getElem?_set_ne h
/-! ### trees -/
/-- what has no parts -/
def fl : D → Bool
  | .non | .bl _ | .int _ => true
  | .str s => PyData.strOk s
  | _ => false
/-- lists of data that are alike, and their size -/
inductive EqL (H : Hz) : Nat → List D → List D → Prop
  | nil : EqL H 0 [] []
  | leaf {n : Nat} {l k : List D} {d : D} : fl d = true → EqL H n l k → EqL H (n + 1) (d :: l) (d :: k)
  | tup {m n : Nat} {xs ys l k : List D} : EqL H m xs ys → EqL H n l k → EqL H (m + n + 1) (.tup xs :: l) (.tup ys :: k)
  | lst {m n a b : Nat} {xs ys l k : List D} : H a = some xs → H b = some ys → EqL H m xs ys → EqL H n l k → EqL H (m + n + 1) (.loc a :: l) (.loc b :: k)
theorem EqL.mono {H H' : Hz} (h : H.le H') {n : Nat} {l k : List D} (e : EqL H n l k) : EqL H' n l k := by
  induction e with
  | nil => exact .nil
  | leaf f _ ih => exact .leaf f ih
  | tup _ _ ih1 ih2 => exact .tup ih1 ih2
  | lst ha hb _ _ ih1 ih2 => exact .lst (h _ _ ha) (h _ _ hb) ih1 ih2
theorem EqL.len {H : Hz} {n : Nat} {l k : List D} (e : EqL H n l k) : l.length = k.length ∧ l.length ≤ n := by
  induction e with
  | nil => exact ⟨rfl, Nat.le_refl _⟩
  | leaf f _ ih => simp; omega
  | tup _ _ ih1 ih2 => simp; omega
  | lst ha hb _ _ ih1 ih2 => simp; omega
theorem EqL.cons {H : Hz} {m n : Nat} {d e : D} {l k : List D} (h : EqL H m [d] [e]) (g : EqL H n l k) : EqL H (m + n) (d :: l) (e :: k) := by
  cases h with
  | leaf f r => cases r; exact (by omega : n + 1 = 0 + 1 + n) ▸ EqL.leaf f g
  | tup x r => cases r; rename_i m _ _; exact (by omega : m + n + 1 = m + 0 + 1 + n) ▸ EqL.tup x g
  | lst ha hb x r => cases r; rename_i m _ _ _ _; exact (by omega : m + n + 1 = m + 0 + 1 + n) ▸ EqL.lst ha hb x g
/-- data of k storeys, no storey of more than c items -/
def Lv (H : Hz) (c : Nat) : Nat → D → Prop
  | 0, d => fl d = true
  | k + 1, d => fl d = true ∨ (∃ l, d = .tup l ∧ l.length ≤ c ∧ ∀ x ∈ l, Lv H c k x) ∨ ∃ a l, d = .loc a ∧ H a = some l ∧ l.length ≤ c ∧ ∀ x ∈ l, Lv H c k x
theorem Lv.flat {H : Hz} {c k : Nat} {d : D} (h : fl d = true) : Lv H c k d := by
  cases k with
  | zero => exact h
  | succ k => exact .inl h
theorem Lv.tup {H : Hz} {c k : Nat} {l : List D} (h : l.length ≤ c) (g : ∀ x ∈ l, Lv H c k x) : Lv H c (k + 1) (.tup l) := .inr (.inl ⟨l, rfl, h, g⟩)
theorem Lv.lst {H : Hz} {c k a : Nat} {l : List D} (ha : H a = some l) (h : l.length ≤ c) (g : ∀ x ∈ l, Lv H c k x) : Lv H c (k + 1) (.loc a) := .inr (.inr ⟨a, l, rfl, ha, h, g⟩)
theorem Lv.mono {H H' : Hz} (hh : H.le H') {c c' : Nat} (hc : c ≤ c') : ∀ {k k' : Nat} {d : D}, k ≤ k' → Lv H c k d → Lv H' c' k' d
  | 0, k', d, _, h => Lv.flat h
  | k + 1, 0, d, hk, h => absurd hk (by omega)
  | k + 1, k' + 1, d, hk, h => by
    rcases h with h | ⟨l, rfl, hl, g⟩ | ⟨a, l, rfl, ha, hl, g⟩
    · exact .inl h
    · exact Lv.tup (by omega) fun x hx => Lv.mono hh hc (by omega) (g x hx)
    · exact Lv.lst (hh _ _ ha) (by omega) fun x hx => Lv.mono hh hc (by omega) (g x hx)
/-- the most parts of such data -/
def lvN (c : Nat) : Nat → Nat
  | 0 => 1
  | k + 1 => c * lvN c k + 1
theorem lvN_pos (c k : Nat) : 1 ≤ lvN c k := by
  cases k <;> simp [lvN]
theorem EqL.all {H : Hz} {b : Nat} : ∀ {l : List D}, (∀ x ∈ l, ∃ n, n ≤ b ∧ EqL H n [x] [x]) → ∃ n, n ≤ l.length * b ∧ EqL H n l l
  | [], _ => ⟨0, Nat.zero_le _, .nil⟩
  | d :: r, h => by
    obtain ⟨n, hn, e⟩ := h d List.mem_cons_self
    obtain ⟨m, hm, f⟩ := EqL.all fun x hx => h x (List.mem_cons_of_mem _ hx)
    refine ⟨n + m, ?_, e.cons f⟩
    rw [List.length_cons, Nat.succ_mul]
    omega
theorem Lv.eql {H : Hz} {c : Nat} : ∀ {k : Nat} {d : D}, Lv H c k d → ∃ n, n ≤ lvN c k ∧ EqL H n [d] [d]
  | 0, d, h => ⟨1, Nat.le_refl _, .leaf h .nil⟩
  | k + 1, d, h => by
    rcases h with h | ⟨l, rfl, hl, g⟩ | ⟨a, l, rfl, ha, hl, g⟩
    · exact ⟨1, lvN_pos _ _, .leaf h .nil⟩
    · obtain ⟨n, hn, e⟩ := EqL.all fun x hx => Lv.eql (g x hx)
      have : l.length * lvN c k ≤ c * lvN c k := Nat.mul_le_mul_right _ hl
      exact ⟨n + 0 + 1, by unfold lvN; omega, .tup e .nil⟩
    · obtain ⟨n, hn, e⟩ := EqL.all fun x hx => Lv.eql (g x hx)
      have : l.length * lvN c k ≤ c * lvN c k := Nat.mul_le_mul_right _ hl
      exact ⟨n + 0 + 1, by unfold lvN; omega, .lst ha ha e .nil⟩
/-! ### loops over a list that stands -/
theorem forL_at_wp {body : D → Env → M F} {Q : F → Sto → Prop} {X : Nat → D → Sto → Prop} {a : Nat} {l : List D} (I : List D → Env → Sto → Prop)
    (hl : ∀ r σ S, I r σ S → S[a]? = some (.lst l))
    (hs : ∀ d r σ S, d ∈ l → I (d :: r) σ S → wp (body d σ) (fun f S' => match f with
      | .next σ' | .cont σ' => I r σ' S'
      | .brk σ' => Q (.next σ') S'
      | .ret d => Q (.ret d) S') X S) (hn : ∀ σ S, I [] σ S → Q (.next σ) S) {σ : Env} {S : Sto} (h : I l σ S) : wp (forL (.at a l.length) body 0 (W.at a l.length).len σ) Q X S := by
  have key : ∀ (n i : Nat) (σ : Env) (S : Sto), i + n = l.length → I (l.drop i) σ S → wp (forL (.at a l.length) body i n σ) Q X S := by
    intro n
    induction n with
    | zero =>
      intro i σ S hi h
      have e := hl _ _ _ h
      rw [List.drop_eq_nil_of_le (by omega)] at h
      show wp (bd (W.fin (.at a l.length)) fun _ => Z.ret (.next σ)) Q X S
      rw [wp_bd]
      show wp (bd (getL a) fun k => if k.length = l.length then ret () else stuck) _ X S
      rw [wp_bd, wp_getL]
      refine ⟨l, e, ?_⟩
      rw [if_pos rfl, wp_ret, wp_ret]
      exact hn _ _ h
    | succ n ih =>
      intro i σ S hi h
      have e := hl _ _ _ h
      have hi' : i < l.length := by omega
      rw [List.drop_eq_getElem_cons hi'] at h
      show wp (bd (W.get (.at a l.length) i) _) Q X S
      rw [wp_bd]
      show wp (bd (getL a) fun k => if k.length = l.length then (match k[i]? with | some d => ret d | none => stuck) else stuck) _ X S
      rw [wp_bd, wp_getL]
      refine ⟨l, e, ?_⟩
      rw [if_pos rfl, List.getElem?_eq_getElem hi', wp_ret, wp_bd]
      refine wp_imp (hs l[i] (l.drop (i + 1)) σ S (List.getElem_mem hi') h) fun f S' q => ?_
      cases f with
      | next σ' => exact ih (i + 1) σ' S' (by omega) q
      | cont σ' => exact ih (i + 1) σ' S' (by omega) q
      | brk σ' => exact wp_ret.mpr q
      | ret d => exact wp_ret.mpr q
  exact key l.length 0 σ S (by simp) (by rw [List.drop_zero]; exact h)
/-- a comprehension over data, by what stays true -/
theorem lcD_wp {body : D → M (Option D)} {Q : List D → Sto → Prop} {X : Nat → D → Sto → Prop} (I : List D → List D → Sto → Prop)
    (hs : ∀ d r k S, I k (d :: r) S → wp (body d) (fun o S' => I (match o with | some y => k ++ [y] | none => k) r S') X S) (hn : ∀ k S, I k [] S → Q k S) : ∀ {l k : List D} {S : Sto}, I k l S → wp (lcD body l) (fun ys S' => Q (k ++ ys) S') X S
  | [], k, S, h => by
    show wp (ret []) _ X S
    rw [wp_ret, List.append_nil]
    exact hn k S h
  | d :: r, k, S, h => by
    show wp (bd (body d) _) _ X S
    rw [wp_bd]
    refine wp_imp (hs d r k S h) fun o S' q => ?_
    rw [wp_bd]
    refine wp_imp (lcD_wp I hs hn q) fun ys S'' z => ?_
    rw [wp_ret]
    cases o with
    | none => exact z
    | some y =>
      dsimp only at z ⊢
      rw [List.append_assoc] at z
      exact z
/-- over a list of the store that stands -/
theorem lcL_at_wp {body : D → M (Option D)} {Q : List D → Sto → Prop} {X : Nat → D → Sto → Prop} {a : Nat} {l : List D} (I : List D → List D → Sto → Prop)
    (hl : ∀ k r S, I k r S → S[a]? = some (.lst l))
    (hs : ∀ d r k S, d ∈ l → I k (d :: r) S → wp (body d) (fun o S' => I (match o with | some y => k ++ [y] | none => k) r S') X S) (hn : ∀ k S, I k [] S → Q k S) {S : Sto} (h : I [] l S) : wp (lcL (.at a l.length) body 0 (W.at a l.length).len) Q X S := by
  have key : ∀ (n i : Nat) (k : List D) (S : Sto), i + n = l.length → I k (l.drop i) S → wp (lcL (.at a l.length) body i n) (fun ys S' => Q (k ++ ys) S') X S := by
    intro n
    induction n with
    | zero =>
      intro i k S hi h
      have e := hl _ _ _ h
      rw [List.drop_eq_nil_of_le (by omega)] at h
      show wp (bd (W.fin (.at a l.length)) fun _ => ret []) _ X S
      rw [wp_bd]
      show wp (bd (getL a) fun k => if k.length = l.length then ret () else stuck) _ X S
      rw [wp_bd, wp_getL]
      refine ⟨l, e, ?_⟩
      rw [if_pos rfl, wp_ret, wp_ret, List.append_nil]
      exact hn _ _ h
    | succ n ih =>
      intro i k S hi h
      have e := hl _ _ _ h
      have hi' : i < l.length := by omega
      rw [List.drop_eq_getElem_cons hi'] at h
      show wp (bd (W.get (.at a l.length) i) _) _ X S
      rw [wp_bd]
      show wp (bd (getL a) fun k => if k.length = l.length then (match k[i]? with | some d => ret d | none => stuck) else stuck) _ X S
      rw [wp_bd, wp_getL]
      refine ⟨l, e, ?_⟩
      rw [if_pos rfl, List.getElem?_eq_getElem hi', wp_ret, wp_bd]
      refine wp_imp (hs l[i] (l.drop (i + 1)) k S (List.getElem_mem hi') h) fun o S' q => ?_
      rw [wp_bd]
      refine wp_imp (ih (i + 1) _ S' (by omega) q) fun ys S'' z => ?_
      rw [wp_ret]
      cases o with
      | none => exact z
      | some y =>
        dsimp only at z ⊢
        rw [List.append_assoc] at z
        exact z
  have z := key l.length 0 [] S (by simp) (by rw [List.drop_zero]; exact h)
  exact z
/-- the jar: its three numbers, K draws at most -/
def Jar (j K : Nat) (S : Sto) : Prop := ∃ g s k : Nat, S[j]? = some (.lst [.int g, .int s, .int k]) ∧ g < 10 ^ 120 ∧ s < 2147483647 ∧ k ≤ K
theorem Jar.more {j K K' : Nat} {S : Sto} (h : Jar j K S) (hk : K ≤ K') : Jar j K' S := by
  obtain ⟨g, s, k, a, b, c, d⟩ := h
  exact ⟨g, s, k, a, b, c, by omega⟩
theorem Jar.ext {j K : Nat} {S S' : Sto} (h : Jar j K S) (e : Ext S S') : Jar j K S' := by
  obtain ⟨g, s, k, a, b, c, d⟩ := h
  exact ⟨g, s, k, e.get a, b, c, d⟩
end Zp
namespace Zp
open Z
theorem forD_mem_wp {body : D → Env → M F} {Q : F → Sto → Prop} {X : Nat → D → Sto → Prop} (I : List D → Env → Sto → Prop) {l : List D} {σ : Env} {S : Sto} (h : I l σ S)
    (hs : ∀ d r σ S, d ∈ l → I (d :: r) σ S → wp (body d σ) (fun f S' => match f with
      | .next σ' | .cont σ' => I r σ' S'
      | .brk σ' => Q (.next σ') S'
      | .ret d => Q (.ret d) S') X S) (hn : ∀ σ S, I [] σ S → Q (.next σ) S) : wp (forD body l σ) Q X S := by
  refine forD_wp (fun r σ S => (∀ x ∈ r, x ∈ l) ∧ I r σ S) ⟨fun x hx => hx, h⟩ (fun d r σ S hi => ?_) fun σ S hi => hn σ S hi.2
  refine wp_imp (hs d r σ S (hi.1 d List.mem_cons_self) hi.2) fun f S' q => ?_
  have hr : ∀ x ∈ r, x ∈ l := fun x hx => hi.1 x (List.mem_cons_of_mem _ hx)
  cases f with
  | next σ' => exact ⟨hr, q⟩
  | cont σ' => exact ⟨hr, q⟩
  | brk σ' => exact q
  | ret d => exact q
theorem mem_ranges {lo hi : Int} {d : D} (h : d ∈ ranges lo hi) : ∃ i : Nat, d = .int (lo + (i : Int)) ∧ lo + (i : Int) < hi := by
  unfold ranges at h
  rw [List.mem_map] at h
  obtain ⟨i, hi, rfl⟩ := h
  rw [List.mem_range] at hi
  exact ⟨i, rfl, by omega⟩
/-- a list that a law may read, wherever it lies -/
def Rd (S : Sto) (d : D) (l : List D) : Prop := d = .ro l ∨ d = .tup l ∨ ∃ a, d = .loc a ∧ S[a]? = some (.lst l)
theorem Rd.items {S : Sto} {d : D} {l : List D} (h : Rd S d l) : items d S = .ok l S := by
  rcases h with rfl | rfl | ⟨a, rfl, h⟩
  · rfl
  · rfl
  · show getL a S = _
    unfold getL
    rw [h]
theorem Rd.len {S : Sto} {d : D} {l : List D} (h : Rd S d l) : prim1 .len d S = .ok (.int l.length) S := by
  rcases h with rfl | rfl | ⟨a, rfl, h⟩
  · rfl
  · rfl
  · show bd (getL a) _ S = _
    unfold bd getL
    rw [h]
    rfl
theorem Rd.index {S : Sto} {d : D} {l : List D} (h : Rd S d l) {i : Nat} {x : D} (hx : l[i]? = some x) : index d (.int i) S = .ok x S := by
  unfold Z.index bd
  dsimp only
  rw [h.items]
  dsimp only
  rw [place_nat (List.getElem?_eq_some_iff.mp hx).1]
  show (match l[i]? with | some d => ret d | none => stuck) S = _
  rw [hx]
  rfl
end Zp
end
section
/-! ZJar: the pool, the draws. -/
namespace Zp
open Z
open PySem (Str PyData)
theorem log2_lt' {n k : Nat} (h : n < 2 ^ k) (hk : 0 < k) : n.log2 < k := by
  by_cases e : n = 0
  · subst e
    simpa using hk
  · exact (Nat.log2_lt e).mpr h
theorem mul_small {i j : Int} (h : i.natAbs < 2 ^ 1000) (h' : j.natAbs < 2 ^ 1000) : binop .mul (.int i) (.int j) = ret (.int (i * j)) :=
  mul_int (by have := log2_lt' h (by omega); have := log2_lt' h' (by omega); omega)
@[simp] theorem ix_loc {a : Nat} {i : Int} : index (.loc a) (.int i) = bd (getL a) fun l => (match (place l.length i).bind fun j => l[j]? with
    | some d => ret d
    | none => stuck) := rfl
@[simp] theorem place0 {n : Nat} : place (n + 1) 0 = some 0 := place_nat (n := n + 1) (k := 0) (by omega)
@[simp] theorem place1 {n : Nat} : place (n + 1 + 1) 1 = some 1 := place_nat (n := n + 2) (k := 1) (by omega)
@[simp] theorem place2 {n : Nat} : place (n + 1 + 1 + 1) 2 = some 2 := place_nat (n := n + 3) (k := 2) (by omega)
section
variable {P : Prog} {n f j K : Nat} {S : Sto} {X : Nat → D → Sto → Prop}
def cTake : List Z.S := [.ifs (.cmp .gt (.ix (.v 0) (.k (.int 0))) (.k (.int 0))) [.set 2 (.bin .mod (.p1 .int (.ix (.v 0) (.k (.int 0)))) (.v 1)), .put (.v 0) (.k (.int 0)) (.bin .div (.ix (.v 0) (.k (.int 0))) (.v 1)), .ret (.v 2)] [], .put (.v 0) (.k (.int 2)) (.bin .add (.ix (.v 0) (.k (.int 2))) (.k (.int 1))), .put (.v 0) (.k (.int 1)) (.bin .mod (.p1 .int (.bin .add (.bin .add (.bin .mul (.ix (.v 0) (.k (.int 1))) (.k (.int 39373))) (.bin .mul (.k (.int 7919)) (.ix (.v 0) (.k (.int 2))))) (.k (.int 7)))) (.k (.int 2147483647))), .ret (.bin .mod (.p1 .int (.bin .div (.bin .mod (.p1 .int (.bin .mul (.ix (.v 0) (.k (.int 1))) (.ix (.v 0) (.k (.int 1))))) (.k (.int 2147483629))) (.k (.int 32)))) (.v 1))]
theorem take_wp (h : P.fns[f]? = some ⟨2, 3, cTake⟩) {m : Int} (hm : 0 < m) (hm' : m < 2 ^ 64) (hJ : Jar j K S) (hK : K < 2 ^ 64) : wp (callP P (n + 1) f [.loc j, .int m]) (fun r S' => (∃ v : Nat, r = .int v ∧ (v : Int) < m) ∧ Frj j S S' ∧ Jar j (K + 1) S') X S := by
  obtain ⟨g, s, k, hS, hg, hs, hk⟩ := hJ
  have hj : j < S.length := (List.getElem?_eq_some_iff.mp hS).1
  obtain ⟨m, rfl⟩ : ∃ m' : Nat, m = (m' : Int) := ⟨m.toNat, by omega⟩
  have hm0 : 0 < m := by omega
  have hm1 : m < 2 ^ 64 := by omega
  rw [call_eq h rfl]
  have d1 : ∀ i : Int, binop .mod (.int i) (.int (m : Int)) = ret (.int (i % m)) := fun i => mod_int hm
  have d2 : ∀ i : Int, binop .div (.int i) (.int (m : Int)) = ret (.int (i / m)) := fun i => div_int ⟨hm, by
    have := log2_lt' (n := m) (k := 64) hm1 (by omega)
    rw [Int.natAbs_natCast]
    omega⟩
  have d3 : ∀ i : Int, binop .mod (.int i) (.int 2147483647) = ret (.int (i % 2147483647)) := fun i => mod_int (by omega)
  have d4 : ∀ i : Int, binop .mod (.int i) (.int 2147483629) = ret (.int (i % 2147483629)) := fun i => mod_int (by omega)
  have d5 : ∀ i : Int, binop .div (.int i) (.int 32) = ret (.int (i / 32)) := fun i => div_int ⟨by omega, by decide⟩
  by_cases hz : 0 < g
  · have hz' : (0 : Int) < (g : Int) := by omega
    simp [cTake, wp_getL, wp_putL, hS, hz, hz', d1, d2, line]
    refine ⟨⟨g % m, rfl, Nat.mod_lt _ hm0⟩, (Frj.refl j S).set (.inl rfl), g / m, s, k, ?_, Nat.lt_of_le_of_lt (Nat.div_le_self ..) hg, hs, by omega⟩
    simp [hj]
  · obtain rfl : g = 0 := by omega
    have e1 : binop .mul (.int (s : Int)) (.int 39373) = ret (.int ((s : Int) * 39373)) := mul_small (by omega) (by omega)
    have e2 : binop .mul (.int 7919) (.int ((k : Int) + 1)) = ret (.int (7919 * ((k : Int) + 1))) := mul_small (by omega) (by omega)
    let s' : Nat := (s * 39373 + 7919 * (k + 1) + 7) % 2147483647
    have hs' : s' < 2147483647 := Nat.mod_lt _ (by omega)
    have es : ((s : Int) * 39373 + 7919 * ((k : Int) + 1) + 7) % 2147483647 = (s' : Int) := by omega
    have e3 : binop .mul (.int (s' : Int)) (.int (s' : Int)) = ret (.int ((s' : Int) * s')) := mul_small (by omega) (by omega)
    have hset : ∀ o, (S.set j o)[j]? = some o := fun o => get_set hS
    simp [cTake, wp_getL, wp_putL, hS, hset, d1, d3, d4, d5, line, e1, e2, es, e3]
    refine ⟨?_, ((Frj.refl j S).set (.inl rfl)), 0, s', k + 1, ?_, by omega, hs', by omega⟩
    · refine ⟨((s' * s') % 2147483629 / 32) % m, by simp, Nat.mod_lt _ hm0⟩
    · simp [hj]
def cPoolB : List Z.S := [.set 4 (.p1 .int (.p2 .max (.ix (.v 0) (.v 3)) (.bin .sub (.neg (.k (.int 1))) (.ix (.v 0) (.v 3))))), .set 2 (.bin .mod (.p1 .int (.bin .add (.bin .add (.bin .mul (.v 2) (.k (.int 48271))) (.bin .mod (.v 4) (.k (.int 2147483629)))) (.k (.int 11)))) (.k (.int 2147483647))), .set 1 (.ite (.an (.cmp .ge (.v 4) (.bin .pow (.k (.int 10)) (.k (.int 12)))) (.cmp .lt (.v 1) (.bin .pow (.k (.int 10)) (.k (.int 60))))) (.p1 .int (.bin .add (.bin .mul (.v 1) (.bin .pow (.k (.int 10)) (.k (.int 60)))) (.bin .mod (.v 4) (.bin .pow (.k (.int 10)) (.k (.int 60)))))) (.v 1))]
def cPool : List Z.S := [.setT [1, 2] (.tup [(.k (.int 0)), (.k (.int 7))]), .fors (.nm 3) (.rg1 (.p1 .len (.v 0))) cPoolB, .ret (.lst [(.v 1), (.v 2), (.k (.int 0))])]
theorem pool_step {C : Nat → List D → M D} {d : D} {l : List D} {i : Nat} {v : Int} (hd : Rd S d l) (hv : l[i]? = some (.int v)) {g s : Nat} (hg : g < 10 ^ 120) (hs : s < 2147483647) {x y : Option D} : wp (exs P C cPoolB [some d, some (.int g), some (.int s), some (.int i), y]) (fun f S' => S' = S ∧ ∃ g' s' : Nat, ∃ x y, f = .next [some d, some (.int g'), some (.int s'), x, y] ∧ g' < 10 ^ 120 ∧ s' < 2147483647) X S := by
  have hix : ∀ (Q : D → Sto → Prop) X, wp (index d (.int i)) Q X S ↔ Q (.int v) S := fun Q X => by
    rw [wp_iff]
    unfold wp'
    rw [hd.index hv]
  obtain ⟨c, hc⟩ : ∃ c : Nat, (if -1 - v > v then -1 - v else v) = (c : Int) := ⟨(if -1 - v > v then -1 - v else v).toNat, by split <;> omega⟩
  have d3 : ∀ i : Int, binop .mod (.int i) (.int 2147483647) = ret (.int (i % 2147483647)) := fun i => mod_int (by omega)
  have d4 : ∀ i : Int, binop .mod (.int i) (.int 2147483629) = ret (.int (i % 2147483629)) := fun i => mod_int (by omega)
  have p1 : binop .pow (.int 10) (.int 12) = ret (.int 1000000000000) := pow_int (by decide)
  have p2 : binop .pow (.int 10) (.int 60) = ret (.int 1000000000000000000000000000000000000000000000000000000000000) := pow_int (by decide)
  have d5 : ∀ i : Int, binop .mod (.int i) (.int 1000000000000000000000000000000000000000000000000000000000000) = ret (.int (i % 1000000000000000000000000000000000000000000000000000000000000)) := fun i => mod_int (by omega)
  have e1 : binop .mul (.int (s : Int)) (.int 48271) = ret (.int ((s : Int) * 48271)) := mul_small (by omega) (by omega)
  have e2 : (g : Int) < 1000000000000000000000000000000000000000000000000000000000000 → binop .mul (.int (g : Int)) (.int 1000000000000000000000000000000000000000000000000000000000000) = ret (.int ((g : Int) * 1000000000000000000000000000000000000000000000000000000000000)) := fun h => mul_small (by omega) (by omega)
  let s' : Nat := (s * 48271 + c % 2147483629 + 11) % 2147483647
  have hs' : s' < 2147483647 := Nat.mod_lt _ (by omega)
  have es : ((s : Int) * 48271 + (c : Int) % 2147483629 + 11) % 2147483647 = (s' : Int) := by omega
  simp only [cPoolB, exs_cons, exs_nil, ex_set, ev_p1, ev_p2, ev_ix, ev_v, ev_bin, ev_neg, ev_k, ret_bd, bd_bd, wp_bd, hix, List.getElem?_cons_zero, List.getElem?_cons_succ, sub_int, max_int, int_int, hc, List.set_cons_zero, List.set_cons_succ, e1, d4, d3, add_int, es, wp_ret, ev_ite, tst_an, tst_cmp, p1, p2, ge_int, lt_int, tr_bl, ev_cmp]
  by_cases q1 : (1000000000000 : Int) ≤ c
  · by_cases q2 : (g : Int) < 1000000000000000000000000000000000000000000000000000000000000
    · simp [q1, q2, e2 q2, d5]
      refine ⟨g * 1000000000000000000000000000000000000000000000000000000000000 + c % 1000000000000000000000000000000000000000000000000000000000000, s', ⟨by simp, rfl⟩, by omega, hs'⟩
    · simp [q1, q2]
      exact ⟨g, s', ⟨rfl, rfl⟩, hg, hs'⟩
  · simp [q1]
    exact ⟨g, s', ⟨rfl, rfl⟩, hg, hs'⟩
theorem pool_wp (h : P.fns[f]? = some ⟨1, 5, cPool⟩) {d : D} {l : List D} (hd : Rd S d l) (hl : l.length ≤ 63) (hi : ∀ x ∈ l, ∃ v, x = .int v) : wp (callP P (n + 1) f [d]) (fun r S' => r = .loc S.length ∧ Ext S S' ∧ Jar S.length 0 S') X S := by
  rw [call_eq h rfl]
  have hlen : ∀ (Q : D → Sto → Prop) X, wp (prim1 .len d) Q X S ↔ Q (.int l.length) S := fun Q X => by
    rw [wp_iff]
    unfold wp'
    rw [hd.len]
  have rg : rgok (l.length : Int) = true := by
    unfold rgok
    simp
    omega
  simp only [cPool, exs_cons, exs_nil, ex_setT, ev_tup, evs_cons, evs_nil, ev_k, ret_bd, bd_bd, wp_bd, wp_newT, List.length_cons, List.length_nil, List.map_cons, List.map_nil, List.cons_append, List.nil_append, List.replicate]
  refine ⟨by decide, ?_⟩
  simp only [bindT, setAll, List.set_cons_zero, List.set_cons_succ, wp_ret, wp_bd, ret_bd, ex_fors, walk_rg1, ev_p1, ev_v, List.getElem?_cons_zero, hlen, rg, if_true, forL_fix, bd_bd]
  refine wp_imp (forD_mem_wp (fun r σ S' => S' = S ∧ ∃ g s : Nat, ∃ x y, σ = [some d, some (.int g), some (.int s), x, y] ∧ g < 10 ^ 120 ∧ s < 2147483647) (Q := fun f S' => S' = S ∧ ∃ g s : Nat, ∃ x y, f = .next [some d, some (.int g), some (.int s), x, y] ∧ g < 10 ^ 120 ∧ s < 2147483647) ?_ ?_ ?_) ?_
  · exact ⟨rfl, 0, 7, none, none, rfl, by decide, by decide⟩
  · rintro e r σ S' he ⟨rfl, g, s, x, y, rfl, hg, hs⟩
    obtain ⟨i, rfl, hi'⟩ := mem_ranges he
    rw [Int.zero_add] at hi' ⊢
    have hlt : i < l.length := by omega
    obtain ⟨v, hv⟩ := hi l[i] (List.getElem_mem hlt)
    refine wp_imp (pool_step (x := x) (y := y) hd (by rw [List.getElem?_eq_getElem hlt, hv]) hg hs) ?_
    rintro f S'' ⟨rfl, g', s', x', y', rfl, hg', hs'⟩
    exact ⟨rfl, g', s', x', y', rfl, hg', hs'⟩
  · rintro σ S' ⟨rfl, g, s, x, y, rfl, hg, hs⟩
    exact ⟨rfl, g, s, x, y, rfl, hg, hs⟩
  · rintro f S' ⟨rfl, g, s, x, y, rfl, hg, hs⟩
    simp [wp_new, line]
    exact ⟨Ext.app _ _, g, s, 0, by simp, hg, hs, by omega⟩
end
end Zp
end
section
/-! ZSame: what is alike is told to be the same. -/
namespace Zp
open Z
open PySem (Str PyData)
@[simp] theorem eq_bl {a b : Bool} : cmpB .eq (.bl a) (.bl b) = ret (a == b) := by
  show eqq (.bl a) (.bl b) = _
  funext S
  show (if PySem.SeqAt.shaped (.bool a) && PySem.SeqAt.shaped (.bool b) then R.ok (PyData.eqv (.bool a) (.bool b)) S else R.stuck) = _
  cases a <;> cases b <;> rfl
theorem eq_str {a b : Str} (ha : PyData.strOk a = true) (hb : PyData.strOk b = true) : cmpB .eq (.str a) (.str b) = ret (a == b) := by
  show eqq (.str a) (.str b) = _
  funext S
  show (if PySem.SeqAt.shaped (.str a) && PySem.SeqAt.shaped (.str b) then R.ok (PyData.eqv (.str a) (.str b)) S else R.stuck) = _
  have sh : ∀ {s : Str}, PyData.strOk s = true → PySem.SeqAt.shaped (.str s) = true := fun {s} h => by
    unfold PySem.SeqAt.shaped
    rw [PyData.canLay0.eq_4, h]
    rfl
  rw [sh ha, sh hb, PyData.eqv]
  rfl
theorem deep_loc {S : Sto} {a : Nat} {l : List D} {p : List PyData} (h : S[a]? = some (.lst l)) (hp : D.pys l = some p) : deep (.loc a) S = .ok (.list p) S := by
  show bd (getL a) (fun l => match D.pys l with
    | some p => ret (PyData.list p)
    | none => stuck) S = _
  unfold bd getL
  rw [h]
  dsimp only
  rw [hp]
  rfl
def pairL (xs ys : List D) : List D := List.zipWith (fun x y => D.tup [x, y]) xs ys
/-- pairs that are alike, the last put in the first told -/
inductive Td (H : Hz) : Nat → List D → Prop
  | nil : Td H 0 []
  | snoc {n k : Nat} {d e : D} {ps : List D} : EqL H n [d] [e] → Td H k ps → Td H (n + k) (ps ++ [.tup [d, e]])
theorem EqL.pos {H : Hz} {n : Nat} {d e : D} {l k : List D} (h : EqL H n (d :: l) (e :: k)) : 1 ≤ n := by
  cases h <;> omega
theorem Td.len {H : Hz} {n : Nat} {ps : List D} (h : Td H n ps) : ps.length ≤ n := by
  induction h with
  | nil => exact Nat.le_refl _
  | snoc e _ ih => have := e.pos; simp; omega
theorem EqL.split {H : Hz} {n : Nat} {d e : D} {l k : List D} (h : EqL H n (d :: l) (e :: k)) : ∃ a b, n = a + b ∧ EqL H a [d] [e] ∧ EqL H b l k := by
  cases h with
  | leaf f r => rename_i n; exact ⟨1, n, by omega, .leaf f .nil, r⟩
  | tup x r => rename_i m n _ _; exact ⟨m + 0 + 1, n, by omega, .tup x .nil, r⟩
  | lst ha hb x r => rename_i m n _ _ _ _; exact ⟨m + 0 + 1, n, by omega, .lst ha hb x .nil, r⟩
theorem Td.ext {H : Hz} : ∀ {xs ys : List D} {m k : Nat} {ps : List D}, Td H k ps → EqL H m xs ys → Td H (m + k) (ps ++ pairL xs ys)
  | [], ys, m, k, ps, h, e => by
    cases e
    rw [Nat.zero_add]
    show Td H k (ps ++ [])
    rw [List.append_nil]
    exact h
  | d :: l, [], m, k, ps, h, e => nomatch e
  | d :: l, e' :: k', m, k, ps, h, e => by
    obtain ⟨a, b, rfl, e1, e2⟩ := e.split
    have z := Td.ext (Td.snoc e1 h) e2
    rw [List.append_assoc] at z
    rw [show a + b + k = b + (a + k) by omega]
    exact z
theorem lcD_at {body : D → M (Option D)} {f : D → Option D} {S : Sto} : ∀ {l : List D}, (∀ d ∈ l, body d S = .ok (f d) S) → lcD body l S = .ok (l.filterMap f) S
  | [], _ => rfl
  | d :: r, h => by
    show bd (body d) _ S = _
    unfold bd
    rw [h d List.mem_cons_self]
    dsimp only
    rw [lcD_at fun e he => h e (List.mem_cons_of_mem _ he), List.filterMap_cons]
    cases f d <;> rfl
theorem pair_ranges {xs ys : List D} (h : xs.length = ys.length) : (ranges 0 (ys.length : Int)).filterMap (fun d => match d with | .int i => some (D.tup [xs.getD i.toNat .non, ys.getD i.toNat .non]) | _ => none) = pairL xs ys := by
  unfold ranges
  rw [List.filterMap_map]
  have : ((fun d => match d with | D.int i => some (D.tup [xs.getD i.toNat .non, ys.getD i.toNat .non]) | _ => none) ∘ fun (i : Nat) => D.int (0 + (i : Int))) = fun i => some (D.tup [xs.getD i .non, ys.getD i .non]) := by
    funext i
    simp
  rw [this]
  rw [show (fun i : Nat => some (D.tup [xs.getD i .non, ys.getD i .non])) = some ∘ fun i => D.tup [xs.getD i .non, ys.getD i .non] from rfl, List.filterMap_eq_map]
  apply List.ext_getElem
  · simp [pairL, h]
  · intro i h1 h2
    have hi : i < ys.length := by simpa using h1
    have hi' : i < xs.length := by omega
    simp [pairL, List.getElem?_eq_getElem hi, List.getElem?_eq_getElem hi']
def cPair : E := .lc (.nm 6) (.rg1 (.p1 .len (.v 4))) (.tup [(.ix (.v 3) (.v 6)), (.ix (.v 4) (.v 6))])
def cSameB (w : Nat) (cp : E) : List Z.S := [.setT [3, 4] (.pop (.v 2)), .ifs (.cmp .is (.v 4) (.k .non)) [.set 5 (.cmp .is (.v 3) (.k .non))] [.ifs (.p1 .isBool (.v 4)) [.set 5 (.an (.p1 .isBool (.v 3)) (.cmp .eq (.v 3) (.v 4)))] [.ifs (.p1 .isInt (.v 4)) [.set 5 (.an (.call w [(.v 3)]) (.cmp .eq (.v 3) (.v 4)))] [.ifs (.p1 .isStr (.v 4)) [.set 5 (.an (.p1 .isStr (.v 3)) (.cmp .eq (.v 3) (.v 4)))] [.set 5 (.ite (.p1 .isTup (.v 4)) (.p1 .isTup (.v 3)) (.p1 .isLst (.v 3))), .set 5 (.an (.v 5) (.cmp .eq (.p1 .len (.v 3)) (.p1 .len (.v 4)))), .expr (.ext (.v 2) (.ite (.v 5) cp (.lst [])))]]]], .ifs (.nt (.v 5)) [.ret (.k (.bl false))] []]
def cSame (w : Nat) (cp : E) : List Z.S := [.set 2 (.lst [(.tup [(.v 0), (.v 1)])]), .whil (.cmp .ne (.v 2) (.lst [])) (cSameB w cp), .ret (.k (.bl true))]
section
variable {P : Prog} {n f w : Nat} {S : Sto} {X : Nat → D → Sto → Prop}
theorem pair_wp {C : Nat → List D → M D} {a b c e g : Option D} {x y : D} {xs ys : List D} (hx : Rd S x xs) (hy : Rd S y ys) (h : xs.length = ys.length) (hl : ys.length ≤ line) {Q : D → Sto → Prop} (q : Q (.loc S.length) (S ++ [.lst (pairL xs ys)])) : wp (ev P C cPair [a, b, c, some x, some y, e, g]) Q X S := by
  have hlen : ∀ (Q : D → Sto → Prop) X, wp (prim1 .len y) Q X S ↔ Q (.int ys.length) S := fun Q X => by
    rw [wp_iff]
    unfold wp'
    rw [hy.len]
  have rg : rgok (ys.length : Int) = true := by
    unfold rgok
    unfold line at hl
    simp
    omega
  simp only [cPair, ev_lc, walk_rg1, ev_p1, ev_v, List.getElem?_cons_zero, List.getElem?_cons_succ, ret_bd, bd_bd, wp_bd, hlen, rg, if_true, T.own, wipeE, List.set_cons_zero, List.set_cons_succ, bind_nm, lcL_fix, wp_ret]
  refine wp_calm (wp_of_ok (lcD_at (f := fun d => match d with | .int i => some (D.tup [xs.getD i.toNat .non, ys.getD i.toNat .non]) | _ => none) fun d hd => ?_) ?_)
  · obtain ⟨i, rfl, hi⟩ := mem_ranges hd
    have hi1 : i < ys.length := by omega
    have hi2 : i < xs.length := by omega
    rw [Int.zero_add]
    have e1 : xs[i]? = some (xs.getD i .non) := by simp [List.getElem?_eq_getElem hi2]
    have e2 : ys[i]? = some (ys.getD i .non) := by simp [List.getElem?_eq_getElem hi1]
    have i1 := hx.index e1
    have i2 := hy.index e2
    simp only [ev_tup, evs_cons, evs_nil, ev_ix, ev_v, List.getElem?_cons_zero, List.getElem?_cons_succ, ret_bd, bd_bd]
    unfold bd
    rw [i1]
    dsimp only
    rw [i2]
    rfl
  · rw [pair_ranges h, wp_new]
    refine ⟨?_, q⟩
    unfold pairL
    rw [List.length_zipWith]
    omega

def envS (h o : D) (t : Nat) (x y z u : Option D) : Env := [some h, some o, some (.loc t), x, y, z, u]
theorem empty_ne {t : Nat} {ps : List D} (hS : S[t]? = some (.lst ps)) {C : Nat → List D → M D} {h o : D} {x y z u : Option D} {Q : Bool → Sto → Prop} (q : Q (!ps.isEmpty) (S ++ [.lst []])) : wp (tst P C (.cmp .ne (.v 2) (.lst [])) (envS h o t x y z u)) Q X S := by
  have hlt := (List.getElem?_eq_some_iff.mp hS).1
  have g1 : (S ++ [O.lst []])[t]? = some (.lst ps) := by rw [List.getElem?_append_left hlt]; exact hS
  have g2 : (S ++ [O.lst []])[S.length]? = some (.lst []) := by simp
  simp only [envS, tst_cmp, ev_cmp, ev_v, List.getElem?_cons_zero, List.getElem?_cons_succ, ret_bd, bd_bd, wp_bd, ev_lst, evs_nil, wp_new]
  refine ⟨by decide, ?_⟩
  have e : eqq (.loc t) (.loc S.length) (S ++ [.lst []]) = .ok ps.isEmpty (S ++ [.lst []]) := by
    show bd (getL t) (fun x => bd (getL S.length) fun y => if x.length ≠ y.length then ret false else eqd (.loc t) (.loc S.length)) (S ++ [.lst []]) = _
    unfold bd getL
    rw [g1]
    dsimp only
    rw [g2]
    dsimp only
    cases ps with
    | cons p r => rfl
    | nil =>
      show bd (deep (.loc t)) (fun p => bd (deep (.loc S.length)) fun q => fun S => if PySem.SeqAt.shaped p && PySem.SeqAt.shaped q then R.ok (PyData.eqv p q) S else R.stuck) (S ++ [.lst []]) = _
      have e1 := deep_loc (p := []) g1 rfl
      have e2 := deep_loc (p := []) g2 rfl
      unfold bd
      rw [e1]
      dsimp only
      rw [e2]
      rfl
  show wp (bd (eqq (.loc t) (.loc S.length)) fun b => ret (!b)) _ X _
  rw [wp_bd]
  refine wp_of_ok e ?_
  simp only [wp_ret, tr_bl, ret_bd]
  exact q

theorem fl_cases {d : D} (h : fl d = true) : d = .non ∨ (∃ b, d = .bl b) ∨ (∃ i, d = .int i) ∨ ∃ s, d = .str s ∧ PyData.strOk s = true := by
  cases d <;> simp_all [fl]
/-- what the comprehension of pairs tells -/
def PairOk (P : Prog) (cp : E) : Prop := ∀ (C : Nat → List D → M D) (S : Sto) (X : Nat → D → Sto → Prop) (a b c e g : Option D) (x y : D) (xs ys : List D), Rd S x xs → Rd S y ys → xs.length = ys.length → ys.length ≤ line → wp (ev P C cp [a, b, c, some x, some y, e, g]) (fun r S' => r = .loc S.length ∧ S' = S ++ [.lst (pairL xs ys)]) X S
theorem pair_ok : PairOk P cPair := fun C S X a b c e g x y xs ys hx hy h hl => pair_wp hx hy h hl ⟨rfl, rfl⟩
/-- one turn: what is popped is alike, so the turn goes on, with what is in it put in -/
theorem same_turn {cp : E} (hcp : PairOk P cp) {H : Hz} {t m k : Nat} {d e : D} {ps : List D} (hw : P.fns[w]? = some ⟨1, 1, cIsWhole⟩) (hA : Agr H S) (ht : H t = none) (hS : S[t]? = some (.lst (ps ++ [.tup [d, e]]))) (he : EqL H m [d] [e]) (hp : Td H k ps) (hk : m + k ≤ line) {h o : D} {x y z u : Option D} {S0 : Sto} (hE : Ext S0 S) (hl : S0.length ≤ t) :
    wp (exs P (callP P (n + 1)) (cSameB w cp) (envS h o t x y z u)) (fun f S' => ∃ x y z u k' ps', f = .next (envS h o t x y z u) ∧ k' < m + k ∧ Td H k' ps' ∧ S'[t]? = some (.lst ps') ∧ Ext S0 S' ∧ Agr H S') X S := by
  have hm := he.pos
  have hpl := hp.len
  have A1 : Agr H (S.set t (.lst ps)) := fun a l q => by
    rw [get_set_ne (fun q' => by rw [← q', ht] at q; cases q)]
    exact hA a l q
  have E1 : Ext S0 (S.set t (.lst ps)) := hE.set hl
  have G1 : (S.set t (.lst ps))[t]? = some (.lst ps) := get_set hS
  have pl : ps.length ≤ line := by omega
  have start : ∀ {Q : F → Sto → Prop}, wp (exs P (callP P (n + 1)) (cSameB w cp).tail [some h, some o, some (.loc t), some d, some e, z, u]) Q X (S.set t (.lst ps)) → wp (exs P (callP P (n + 1)) (cSameB w cp) (envS h o t x y z u)) Q X S := fun {Q} q => by
    unfold cSameB at q ⊢
    rw [exs_cons, wp_bd]
    simp only [envS, ex_setT, ev_pop, ev_v, List.getElem?_cons_zero, List.getElem?_cons_succ, ret_bd, bd_bd, wp_bd, wp_getL]
    refine ⟨_, hS, ?_⟩
    simp only [List.getLast?_append, List.getLast?_singleton, Option.some_or, List.dropLast_concat, wp_bd, wp_putL]
    refine ⟨⟨_, hS⟩, pl, ?_⟩
    simp only [wp_ret, bindT, setAll, List.set_cons_zero, List.set_cons_succ, ret_bd, wp_bd]
    exact q
  refine start ?_
  cases he with
  | leaf hf r =>
    rename_i m
    have fin : ∀ (u z), ∃ x y z' u' k' ps', F.next [some h, some o, some (.loc t), some d, some d, z, u] = .next (envS h o t x y z' u') ∧ k' < m + 1 + k ∧ Td H k' ps' ∧ (S.set t (.lst ps))[t]? = some (.lst ps') ∧ Ext S0 (S.set t (.lst ps)) ∧ Agr H (S.set t (.lst ps)) := fun u z => ⟨some d, some d, z, u, k, ps, rfl, by omega, hp, G1, E1, A1⟩
    rcases fl_cases hf with rfl | ⟨b, rfl⟩ | ⟨i, rfl⟩ | ⟨s, rfl, hs⟩
    · simp only [cSameB, List.tail_cons, exs_cons, exs_nil, ex_ifs, ex_set, tst_cmp, ev_cmp, ev_v, ev_k, List.getElem?_cons_zero, List.getElem?_cons_succ, ret_bd, bd_bd, is_non, isNon, if_true, tr_bl, List.set_cons_zero, List.set_cons_succ, tst_nt, tst_v, Bool.not_true, Bool.false_eq_true, if_false, wp_ret]
      exact fin _ _
    · simp only [cSameB, List.tail_cons, exs_cons, exs_nil, ex_ifs, ex_set, tst_cmp, ev_cmp, ev_v, ev_k, List.getElem?_cons_zero, List.getElem?_cons_succ, ret_bd, bd_bd, is_non, isNon, if_true, tr_bl, List.set_cons_zero, List.set_cons_succ, tst_nt, tst_v, Bool.not_true, Bool.false_eq_true, if_false, wp_ret, tst_p1, ev_p1, isB, isbool, ev_an, eq_bl, beq_self_eq_true]
      exact fin _ _
    · simp only [cSameB, List.tail_cons, exs_cons, exs_nil, ex_ifs, ex_set, tst_cmp, ev_cmp, ev_v, ev_k, List.getElem?_cons_zero, List.getElem?_cons_succ, ret_bd, bd_bd, is_non, isNon, if_true, tr_bl, List.set_cons_zero, List.set_cons_succ, tst_nt, tst_v, Bool.not_true, Bool.false_eq_true, if_false, wp_ret, tst_p1, ev_p1, isB, isbool, isI, isint, ev_an, ev_call, evs_cons, evs_nil, isWhole_eq hw, isW, eq_int, beq_self_eq_true]
      exact fin _ _
    · simp only [cSameB, List.tail_cons, exs_cons, exs_nil, ex_ifs, ex_set, tst_cmp, ev_cmp, ev_v, ev_k, List.getElem?_cons_zero, List.getElem?_cons_succ, ret_bd, bd_bd, is_non, isNon, if_true, tr_bl, List.set_cons_zero, List.set_cons_succ, tst_nt, tst_v, Bool.not_true, Bool.false_eq_true, if_false, wp_ret, tst_p1, ev_p1, isB, isbool, isI, isint, isS, isstr, ev_an, eq_str hs hs, beq_self_eq_true]
      exact fin _ _
  | tup hxy r =>
    rename_i m' n' xs ys
    cases r
    have hx := hxy.len
    have q1 : ((xs.length : Int) == (ys.length : Int)) = true := by simp [hx.1]
    simp only [cSameB, List.tail_cons, exs_cons, exs_nil, ex_ifs, ex_set, ex_expr, tst_cmp, ev_cmp, ev_v, ev_k, List.getElem?_cons_zero, List.getElem?_cons_succ, ret_bd, bd_bd, is_non, isNon, if_true, tr_bl, List.set_cons_zero, List.set_cons_succ, tst_nt, tst_v, Bool.not_true, Bool.false_eq_true, if_false, wp_ret, tst_p1, ev_p1, isB, isbool, isI, isint, isS, isstr, isT, istup, ev_an, ev_ite, len_tup, eq_int, q1, ev_ext, wp_bd]
    have rx : Rd (S.set t (.lst ps)) (.tup xs) xs := .inr (.inl rfl)
    have ry : Rd (S.set t (.lst ps)) (.tup ys) ys := .inr (.inl rfl)
    have hle : ys.length ≤ line := by omega
    refine wp_imp (hcp _ _ _ _ _ _ _ _ _ _ _ _ rx ry hx.1 hle) ?_
    rintro _ _ ⟨rfl, rfl⟩
    simp only [wp_bd, wp_getL]
    have g1 := (Ext.app (S.set t (.lst ps)) [.lst (pairL xs ys)]).get G1
    refine ⟨ps, g1, pairL xs ys, get_last _ _, ?_⟩
    simp only [wp_putL]
    have hT := hp.ext hxy
    refine ⟨⟨_, g1⟩, by have := hT.len; omega, ?_⟩
    simp only [wp_ret, List.getElem?_cons_zero, List.getElem?_cons_succ, ret_bd, tr_bl, Bool.not_true, Bool.false_eq_true, if_false]
    refine ⟨_, _, _, _, m' + k, _, rfl, by omega, hT, get_set g1, (E1.trans (Ext.app _ _)).set hl, fun a l q => ?_⟩
    rw [get_set_ne (fun q' => by rw [← q', ht] at q; cases q)]
    exact (Ext.app _ _).get (A1 a l q)
  | lst ha hb hxy r =>
    rename_i m' n' a b xs ys
    cases r
    have hx := hxy.len
    have q1 : ((xs.length : Int) == (ys.length : Int)) = true := by simp [hx.1]
    have ga := A1 _ _ ha
    have gb := A1 _ _ hb
    simp only [cSameB, List.tail_cons, exs_cons, exs_nil, ex_ifs, ex_set, ex_expr, tst_cmp, ev_cmp, ev_v, ev_k, List.getElem?_cons_zero, List.getElem?_cons_succ, ret_bd, bd_bd, is_non, isNon, if_true, tr_bl, List.set_cons_zero, List.set_cons_succ, tst_nt, tst_v, Bool.not_true, Bool.false_eq_true, if_false, wp_ret, tst_p1, ev_p1, isB, isbool, isI, isint, isS, isstr, isT, istup, isL, islst, ev_an, ev_ite, len_loc, wp_bd, wp_getL]
    refine ⟨xs, ga, ys, gb, ?_⟩
    simp only [eq_int, q1, ret_bd, wp_ret, wp_bd, ev_ext, ev_ite, ev_v, List.getElem?_cons_zero, List.getElem?_cons_succ, tst_v, tr_bl, if_true]
    have rx : Rd (S.set t (.lst ps)) (.loc a) xs := .inr (.inr ⟨a, rfl, ga⟩)
    have ry : Rd (S.set t (.lst ps)) (.loc b) ys := .inr (.inr ⟨b, rfl, gb⟩)
    have hle : ys.length ≤ line := by omega
    refine wp_imp (hcp _ _ _ _ _ _ _ _ _ _ _ _ rx ry hx.1 hle) ?_
    rintro _ _ ⟨rfl, rfl⟩
    simp only [wp_bd, wp_getL]
    have g1 := (Ext.app (S.set t (.lst ps)) [.lst (pairL xs ys)]).get G1
    refine ⟨ps, g1, pairL xs ys, get_last _ _, ?_⟩
    simp only [wp_putL]
    have hT := hp.ext hxy
    refine ⟨⟨_, g1⟩, by have := hT.len; omega, ?_⟩
    simp only [wp_ret, List.getElem?_cons_zero, List.getElem?_cons_succ, ret_bd, tr_bl, Bool.not_true, Bool.false_eq_true, if_false]
    refine ⟨_, _, _, _, m' + k, _, rfl, by omega, hT, get_set g1, (E1.trans (Ext.app _ _)).set hl, fun a l q => ?_⟩
    rw [get_set_ne (fun q' => by rw [← q', ht] at q; cases q)]
    exact (Ext.app _ _).get (A1 a l q)
/-- what is alike is told to be the same -/
theorem same_wp (hf : P.fns[f]? = some ⟨2, 7, cSame w cPair⟩) (hw : P.fns[w]? = some ⟨1, 1, cIsWhole⟩) {H : Hz} (hA : Agr H S) {m : Nat} {h o : D} (he : EqL H m [h] [o]) (hm : m ≤ line) : wp (callP P (n + 2) f [h, o]) (fun r S' => r = .bl true ∧ Ext S S') X S := by
  rw [call_eq hf rfl]
  simp only [cSame, exs_cons, exs_nil, ex_set, ex_whil, ev_lst, ev_tup, evs_cons, evs_nil, ev_v, List.map_cons, List.map_nil, List.cons_append, List.nil_append, List.replicate, List.getElem?_cons_zero, List.getElem?_cons_succ, ret_bd, bd_bd, wp_bd, wp_newT, wp_new]
  refine ⟨by simp [line], ?_⟩
  refine ⟨by simp [line], ?_⟩
  simp only [wp_ret, List.set_cons_zero, List.set_cons_succ, wp_bd]
  refine wp_imp (whil_wp (Q := fun f S' => (∃ σ, f = .next σ) ∧ Ext S S') (fun k σ S' => ∃ x y z u, ∃ ps, σ = envS h o S.length x y z u ∧ Td H k ps ∧ k ≤ line ∧ S'[S.length]? = some (.lst ps) ∧ Ext S S' ∧ Agr H S') (k := m + 0) ?_ ?_) ?_
  · exact ⟨_, _, _, _, _, rfl, Td.snoc he .nil, by omega, get_last _ _, Ext.app _ _, (Ext.app _ _).agr hA⟩
  · rintro k σ S' ⟨x, y, z, u, ps, rfl, hT, hk, hS, hE, hA'⟩
    refine empty_ne hS ?_
    cases hT with
    | nil => exact ⟨⟨_, rfl⟩, hE.trans (Ext.app _ _)⟩
    | snoc e1 hT' =>
      rename_i a b d e ps
      have : (!(ps ++ [D.tup [d, e]]).isEmpty) = true := by simp
      rw [this, if_pos rfl]
      refine wp_imp (same_turn pair_ok hw ((Ext.app _ _).agr hA') (hA.none (Nat.le_refl _)) ((Ext.app _ _).get hS) e1 hT' hk (hE.trans (Ext.app _ _)) (Nat.le_refl _)) ?_
      rintro f S'' ⟨x, y, z, u, k', ps', rfl, hk', hT'', hS'', hE'', hA''⟩
      exact ⟨k', hk', x, y, z, u, ps', rfl, hT'', by omega, hS'', hE'', hA''⟩
  · rintro f S' ⟨⟨σ, rfl⟩, hE⟩
    simp only [ex_ret, ev_k, ret_bd, wp_ret]
    exact ⟨trivial, hE⟩
end
end Zp
end
section
/-! ZStand: standings. -/
namespace Zp
open Z
open PySem (Str PyData)
theorem ranges_eq (n : Nat) : ranges 0 (n : Int) = (List.range' 0 n).map fun (i : Nat) => D.int (i : Int) := by
  unfold ranges
  rw [List.range_eq_range']
  simp
/-- the first place out of order -/
def fltS : List D → Nat → Int → Int → Option Nat
  | [], _, _, _ => none
  | d :: r, i, least, hi => if isIn d least hi = true then fltS r (i + 1) (iv d + 1) hi else some i
theorem lotB_flt : ∀ (l : List D) (i : Nat) (least hi : Int), lotB l least hi = (fltS l i least hi).isNone
  | [], _, _, _ => rfl
  | d :: r, i, least, hi => by
    unfold lotB fltS
    rw [lotB_flt r (i + 1)]
    cases isIn d least hi <;> simp
section
variable {P : Prog} {n f t w c m z j K : Nat} {S : Sto} {X : Nat → D → Sto → Prop} {d : D} {N : Int}
def cOne (t : Nat) : List Z.S := [.ret (.ix (.v 1) (.call t [(.v 0), (.p1 .len (.v 1))]))]
theorem one_wp (h : P.fns[f]? = some ⟨2, 2, cOne t⟩) (ht : P.fns[t]? = some ⟨2, 3, cTake⟩) {a : Nat} {l : List D} (ha : S[a]? = some (.lst l)) (hne : 0 < l.length) (hl : l.length ≤ 1000) (haj : a ≠ j) (hJ : Jar j K S) (hK : K < 2 ^ 64) : wp (callP P (n + 2) f [.loc j, .loc a]) (fun r S' => r ∈ l ∧ Frj j S S' ∧ Jar j (K + 1) S') X S := by
  rw [call_eq h rfl]
  simp only [cOne, exs_cons, ex_ret, ev_ix, ev_v, ev_call, evs_cons, evs_nil, ev_p1, List.map_cons, List.map_nil, List.cons_append, List.nil_append, List.replicate, Nat.sub_self, List.getElem?_cons_zero, List.getElem?_cons_succ, ret_bd, bd_bd, len_loc, wp_bd, wp_getL]
  refine ⟨l, ha, ?_⟩
  refine wp_imp (take_wp ht (by omega) (by omega) hJ hK) ?_
  rintro _ S' ⟨⟨v, rfl, hv⟩, hF, hJ'⟩
  simp only [ix_loc, wp_bd, wp_getL]
  have hv' : v < l.length := by omega
  refine ⟨l, hF.get haj ha, ?_⟩
  rw [place_nat hv']
  simp only [Option.bind_some, List.getElem?_eq_getElem hv', wp_ret]
  exact ⟨List.getElem_mem hv', hF, hJ'⟩
/-! ### asked standings -/
def cAskSB (w c : Nat) : List Z.S := [.ifs (.nt (.call w [(.v 4), (.v 2), (.bin .sub (.v 0) (.k (.int 1)))])) [.rais c (.v 3)] [], .set 2 (.bin .add (.v 4) (.k (.int 1)))]
def cAskS (ln w c : Nat) : List Z.S := [.expr (.call ln [(.v 0)]), .ifs (.nt (.p1 .isTup (.v 1))) [.rais c (.neg (.k (.int 1)))] [], .set 2 (.k (.int 0)), .fors (.tp [3, 4]) (.enum (.v 1)) (cAskSB w c), .ret (.tupOf (.val (.v 1)))]
theorem askS_step (hw : P.fns[w]? = some ⟨3, 3, cWhole⟩) {b : Option D} {i : Nat} {least : Int} : exs P (callP P (n + 1)) (cAskSB w c) [some (.int N), b, some (.int least), some (.int i), some d] = if isIn d least (N - 1) = true then ret (.next [some (.int N), b, some (.int (iv d + 1)), some (.int i), some d]) else thr c (.int i) := by
  simp only [cAskSB, exs_cons, exs_nil, ex_ifs, ex_rais, ex_set, tst_nt, tst_call, ev_call, evs_cons, evs_nil, ev_bin, ev_v, ev_k, List.getElem?_cons_zero, List.getElem?_cons_succ, ret_bd, bd_bd, sub_int, whole_eq hw, tr_bl, List.set_cons_zero, List.set_cons_succ]
  cases h : isIn d least (N - 1) with
  | false => simp
  | true =>
    obtain ⟨v, rfl⟩ : ∃ v, d = .int v := ⟨_, isIn_iv h⟩
    simp [iv]
theorem askS_loop (n : Nat) (hw : P.fns[w]? = some ⟨3, 3, cWhole⟩) : ∀ (l : List D) (i : Nat) (least : Int) (b x y : Option D), ∃ σ', σ'[1]? = some b ∧ forD (fun d σ => bd (bindT (.tp [3, 4]) d σ) fun σ' => exs P (callP P (n + 1)) (cAskSB w c) σ') ((l.zipIdx i).map fun p => D.tup [D.int (p.2 : Int), p.1]) [some (.int N), b, some (.int least), x, y] = match fltS l i least (N - 1) with
    | none => ret (.next σ')
    | some i => thr c (.int i)
  | [], i, least, b, x, y => ⟨_, rfl, rfl⟩
  | d :: r, i, least, b, x, y => by
    obtain ⟨σ', e1, e⟩ := askS_loop n hw r (i + 1) (iv d + 1) b (some (.int i)) (some d)
    refine ⟨σ', e1, ?_⟩
    rw [List.zipIdx_cons, List.map_cons, forD_cons]
    show bd (exs P (callP P (n + 1)) (cAskSB w c) [some (.int N), b, some (.int least), some (.int i), some d]) _ = _
    rw [askS_step hw]
    unfold fltS
    cases h : isIn d least (N - 1) with
    | false => simp
    | true =>
      simp only [if_true, ret_bd]
      exact e
/-- what is made of it -/
def madeS (N : Int) (c : Nat) : D → M D
  | .tup l => match fltS l 0 0 (N - 1) with
    | none => ret (.tup l)
    | some i => thr c (.int i)
  | _ => thr c (.int (-1))
theorem askS_eq {bm mf lf : Nat} (h : P.fns[f]? = some ⟨2, 5, cAskS lf w c⟩) (hl : P.fns[lf]? = some ⟨1, 1, cLine mf z⟩) (hm : P.fns[mf]? = some ⟨3, 3, cMany w bm⟩) (hw : P.fns[w]? = some ⟨3, 3, cWhole⟩) (hN : isIn (.int N) 1 z = true) (hd : ∀ l, d = .tup l → l.length ≤ line) : callP P (n + 4) f [.int N, d] = madeS N c d := by
  rw [call_eq h rfl]
  simp only [cAskS, exs_cons, exs_nil, ex_expr, ex_ifs, ex_set, ex_rais, ex_fors, ex_ret, ev_call, evs_cons, evs_nil, ev_v, ev_k, ev_neg, tst_nt, tst_p1, ev_p1, isT, tr_bl, List.map_cons, List.map_nil, List.cons_append, List.nil_append, List.replicate, List.getElem?_cons_zero, List.getElem?_cons_succ, ret_bd, bd_bd, line_eq hl hm hw, hN, if_true, walk_enum, List.set_cons_zero, List.set_cons_succ]
  cases d with
  | tup l =>
    obtain ⟨σ', e1, e⟩ := askS_loop (N := N) (c := c) (n + 2) hw l 0 0 (some (.tup l)) none none
    simp only [istup, Bool.not_true, Bool.false_eq_true, if_false, ret_bd, bd_bd, List.set_cons_zero, List.set_cons_succ, List.getElem?_cons_zero, List.getElem?_cons_succ, forL_fix, numbered, e, madeS]
    cases fltS l 0 0 (N - 1) with
    | none =>
      simp only [ret_bd, bd_bd, ev_tupOf, walk_val, ev_v, e1, wo_tup, newT_is l (hd l rfl)]
    | some i => simp only [thr_bd]
  | _ => simp [istup, madeS]
/-! ### the law's own fault of a standing -/
def cFltSB (ii : Nat) : List Z.S := [.ifs (.or (.nt (.call ii [(.ix (.v 1) (.v 2)), (.k (.int 0)), (.bin .sub (.v 0) (.k (.int 1)))])) (.an (.cmp .gt (.v 2) (.k (.int 0))) (.cmp .le (.ix (.v 1) (.v 2)) (.ix (.v 1) (.bin .sub (.v 2) (.k (.int 1))))))) [.ret (.v 2)] []]
def cFltS (ii : Nat) : List Z.S := [.ifs (.nt (.p1 .isTup (.v 1))) [.ret (.neg (.k (.int 1)))] [], .fors (.nm 2) (.rg1 (.p1 .len (.v 1))) (cFltSB ii), .ret (.k .non)]
theorem ix_tup_at {l : List D} {k : Nat} {x : D} (h : l[k]? = some x) : index (.tup l) (.int (k : Int)) = ret x := by
  have hk := (List.getElem?_eq_some_iff.mp h).1
  rw [ix_tup (n := 0), place_nat hk]
  simp [h]
/-- what stood one place before -/
def Prv (l : List D) (k : Nat) (least : Int) : Prop := (k = 0 ∧ least = 0) ∨ ∃ k' p, k = k' + 1 ∧ l[k']? = some (.int p) ∧ least = p + 1 ∧ 0 ≤ p
theorem fltS_step {ii wi : Nat} (hi : P.fns[ii]? = some ⟨3, 3, cIsIn wi⟩) (hwi : P.fns[wi]? = some ⟨1, 1, cIsWhole⟩) {l : List D} {k : Nat} {least : Int} (hp : Prv l k least) (hd : l[k]? = some d) : exs P (callP P (n + 2)) (cFltSB ii) [some (.int N), some (.tup l), some (.int k)] = if isIn d least (N - 1) = true then ret (.next [some (.int N), some (.tup l), some (.int k)]) else ret (.ret (.int k)) := by
  simp only [cFltSB, exs_cons, exs_nil, ex_ifs, ex_ret, tst_or, tst_an, tst_nt, tst_call, tst_cmp, ev_call, evs_cons, evs_nil, ev_ix, ev_bin, ev_cmp, ev_v, ev_k, List.getElem?_cons_zero, List.getElem?_cons_succ, ret_bd, bd_bd, sub_int, isIn_eq hi hwi, tr_bl, ix_tup_at hd, gt_int]
  have key : isIn d least (N - 1) = (isIn d 0 (N - 1) && decide (least ≤ iv d)) ∨ least = 0 := by
    rcases hp with ⟨rfl, rfl⟩ | ⟨k', p, rfl, hk', rfl, hp⟩
    · exact .inr rfl
    · refine .inl ?_
      cases d <;> try rfl
      rename_i v
      simp only [isIn, iv]
      by_cases q : p + 1 ≤ v
      · have : (0 : Int) ≤ v := by omega
        simp [q, this]
      · simp [q]
  cases h0 : isIn d 0 (N - 1) with
  | false =>
    have : isIn d least (N - 1) = false := by
      rcases key with e | e
      · rw [e, h0]
        rfl
      · rw [e, h0]
    simp [this]
  | true =>
    obtain ⟨v, rfl⟩ : ∃ v, d = .int v := ⟨_, isIn_iv h0⟩
    rcases hp with ⟨rfl, rfl⟩ | ⟨k', p, rfl, hk', rfl, hp⟩
    · simp [h0]
    · have e1 : ((k' + 1 : Nat) : Int) - 1 = (k' : Int) := by omega
      have e2 : (0 : Int) < ((k' + 1 : Nat) : Int) := by omega
      have e3 : isIn (.int v) (p + 1) (N - 1) = decide (p + 1 ≤ v) := by
        rcases key with e | e
        · rw [e, h0]
          rfl
        · omega
      rw [e1, e3]
      simp only [e2, decide_true, Bool.not_true, Bool.false_eq_true, if_false, if_true, ret_bd, bd_bd, ix_tup_at hk', le_int, tr_bl]
      by_cases q : v ≤ p
      · have : ¬ (p + 1 ≤ v) := by omega
        simp [q, this]
      · have : p + 1 ≤ v := by omega
        simp [q, this]
theorem fltS_loop (n : Nat) {ii wi : Nat} (hi : P.fns[ii]? = some ⟨3, 3, cIsIn wi⟩) (hwi : P.fns[wi]? = some ⟨1, 1, cIsWhole⟩) {l : List D} : ∀ (r : List D) (k : Nat) (least : Int) (x : Option D), Prv l k least → l.drop k = r → ∃ σ', forD (fun d σ => exs P (callP P (n + 2)) (cFltSB ii) (σ.set 2 (some d))) ((List.range' k r.length).map fun (i : Nat) => D.int (i : Int)) [some (.int N), some (.tup l), x] = match fltS r k least (N - 1) with
    | none => ret (.next σ')
    | some i => ret (.ret (.int i))
  | [], k, least, x, hp, hr => ⟨_, rfl⟩
  | d :: r, k, least, x, hp, hr => by
    have hk : l[k]? = some d := by
      have := congrArg (·[0]?) hr
      simpa using this
    have hr' : l.drop (k + 1) = r := by
      rw [← List.tail_drop, hr]
      rfl
    rw [List.length_cons, List.range'_succ, List.map_cons]
    unfold fltS
    cases h : isIn d least (N - 1) with
    | false =>
      refine ⟨[], ?_⟩
      rw [forD_cons]
      show bd (exs P (callP P (n + 2)) (cFltSB ii) [some (.int N), some (.tup l), some (.int k)]) _ = _
      rw [fltS_step hi hwi hp hk, h]
      simp
    | true =>
      obtain ⟨v, rfl⟩ : ∃ v, d = .int v := ⟨_, isIn_iv h⟩
      have hp' : Prv l (k + 1) (v + 1) := .inr ⟨k, v, rfl, hk, rfl, by
        have : least ≤ v := by
          unfold isIn at h
          simp at h
          exact h.1
        rcases hp with ⟨_, rfl⟩ | ⟨k', p, _, _, rfl, hp⟩ <;> omega⟩
      obtain ⟨σ', e⟩ := fltS_loop n hi hwi r (k + 1) (v + 1) (some (.int k)) hp' hr'
      refine ⟨σ', ?_⟩
      rw [forD_cons]
      show bd (exs P (callP P (n + 2)) (cFltSB ii) [some (.int N), some (.tup l), some (.int k)]) _ = _
      rw [fltS_step hi hwi hp hk, h]
      simp only [if_true, ret_bd]
      exact e
/-- the fault, as the law tells it -/
def fltSD (N : Int) : D → D
  | .tup l => match fltS l 0 0 (N - 1) with
    | none => .non
    | some i => .int i
  | _ => .int (-1)
theorem fltS_eq {ii wi : Nat} (h : P.fns[f]? = some ⟨2, 3, cFltS ii⟩) (hi : P.fns[ii]? = some ⟨3, 3, cIsIn wi⟩) (hwi : P.fns[wi]? = some ⟨1, 1, cIsWhole⟩) (hd : ∀ l, d = .tup l → l.length ≤ line) : callP P (n + 3) f [.int N, d] = ret (fltSD N d) := by
  rw [call_eq h rfl]
  simp -implicitDefEqProofs only [cFltS, exs_cons, exs_nil, ex_ifs, ex_fors, ex_ret, ev_v, ev_k, ev_neg, tst_nt, tst_p1, ev_p1, isT, tr_bl, List.map_cons, List.map_nil, List.cons_append, List.nil_append, List.replicate, List.getElem?_cons_zero, List.getElem?_cons_succ, ret_bd, bd_bd, walk_rg1, List.set_cons_zero, List.set_cons_succ]
  cases d with
  | tup l =>
    have rg : rgok (l.length : Int) = true := by
      have := hd l rfl
      unfold line at this
      unfold rgok
      simp
      omega
    obtain ⟨σ', e⟩ := fltS_loop (N := N) n hi hwi (l := l) l 0 0 none (.inl ⟨rfl, rfl⟩) rfl
    simp -implicitDefEqProofs only [istup, Bool.not_true, Bool.false_eq_true, if_false, ret_bd, bd_bd, List.getElem?_cons_zero, List.getElem?_cons_succ, len_tup, rg, if_true, forL_fix, bind_nm, ranges_eq, e, fltSD]
    cases fltS l 0 0 (N - 1) <;> simp
  | _ => simp [istup, fltSD]
end
end Zp
end
section
/-! ZStb: standings told. -/
namespace Zp
open Z
open PySem (Str PyData)
section
variable {P : Prog} {n f t w c m z j K : Nat} {S : Sto} {X : Nat → D → Sto → Prop} {d e : D} {N : Int}
def cPass (a : Nat) : List Z.S := [.ret (.call a [(.v 0), (.v 1)])]
theorem pass_eq {a : Nat} (h : P.fns[f]? = some ⟨2, 2, cPass a⟩) : callP P (n + 1) f [d, e] = callP P n a [d, e] := by
  rw [call_eq h rfl]
  simp only [cPass, exs_cons, ex_ret, ev_call, evs_cons, evs_nil, ev_v, List.map_cons, List.map_nil, List.cons_append, List.nil_append, List.replicate, Nat.sub_self, List.getElem?_cons_zero, List.getElem?_cons_succ, ret_bd, bd_bd]
  exact bd_ret _
def cIsS (ln lt : Nat) : List Z.S := [.expr (.call ln [(.v 0)]), .ret (.call lt [(.v 1), (.k (.int 0)), (.bin .sub (.v 0) (.k (.int 1)))])]
theorem isS_eq {lf mf bm lt : Nat} (h : P.fns[f]? = some ⟨2, 2, cIsS lf lt⟩) (hl : P.fns[lf]? = some ⟨1, 1, cLine mf z⟩) (hm : P.fns[mf]? = some ⟨3, 3, cMany w bm⟩) (hw : P.fns[w]? = some ⟨3, 3, cWhole⟩) (hlt : P.fns[lt]? = some ⟨3, 5, cLot w⟩) (hN : isIn (.int N) 1 z = true) : callP P (n + 4) f [.int N, d] = ret (.bl (lotV d 0 (N - 1))) := by
  rw [call_eq h rfl]
  simp only [cIsS, exs_cons, exs_nil, ex_expr, ex_ret, ev_call, evs_cons, evs_nil, ev_v, ev_k, ev_bin, List.map_cons, List.map_nil, List.cons_append, List.nil_append, List.replicate, Nat.sub_self, List.getElem?_cons_zero, List.getElem?_cons_succ, ret_bd, bd_bd, line_eq hl hm hw, hN, if_true, sub_int, lot_eq (n := n + 1) hlt hw]
/-- at a number of zones that is none -/
theorem isS_odd {lf mf bm lt : Nat} (h : P.fns[f]? = some ⟨2, 2, cIsS lf lt⟩) (hl : P.fns[lf]? = some ⟨1, 1, cLine mf z⟩) (hm : P.fns[mf]? = some ⟨3, 3, cMany w bm⟩) (hw : P.fns[w]? = some ⟨3, 3, cWhole⟩) (hN : isIn e 1 z = false) : callP P (n + 4) f [e, d] = thr bm e := by
  rw [call_eq h rfl]
  simp only [cIsS, exs_cons, exs_nil, ex_expr, ex_ret, ev_call, evs_cons, evs_nil, ev_v, ev_k, ev_bin, List.map_cons, List.map_nil, List.cons_append, List.nil_append, List.replicate, Nat.sub_self, List.getElem?_cons_zero, List.getElem?_cons_succ, ret_bd, bd_bd, line_eq hl hm hw, hN, Bool.false_eq_true, if_false, thr_bd]
theorem askS_odd {lf mf bm : Nat} (h : P.fns[f]? = some ⟨2, 5, cAskS lf w c⟩) (hl : P.fns[lf]? = some ⟨1, 1, cLine mf z⟩) (hm : P.fns[mf]? = some ⟨3, 3, cMany w bm⟩) (hw : P.fns[w]? = some ⟨3, 3, cWhole⟩) (hN : isIn e 1 z = false) : callP P (n + 4) f [e, d] = thr bm e := by
  rw [call_eq h rfl]
  simp only [cAskS, exs_cons, ex_expr, ev_call, evs_cons, evs_nil, ev_v, List.map_cons, List.map_nil, List.cons_append, List.nil_append, List.replicate, List.getElem?_cons_zero, List.getElem?_cons_succ, ret_bd, bd_bd, line_eq hl hm hw, hN, Bool.false_eq_true, if_false, thr_bd]
/-- what is heard of a meaning that tells a datum -/
theorem hear_ret (hd : Heard) (d : D) : hearM P hd (ret d) = ret (D.tup [.str hd.told, d]) := rfl
theorem hear_thr (hd : Heard) {c : Nat} {d : D} (h : P.sub c hd.root = true) : hearM P hd (thr c d) = ret (D.tup [.str (joined P hd c), d]) := by
  funext S
  show (if P.sub c hd.root = true then R.ok (D.tup [.str (joined P hd c), d]) S else R.stuck) = _
  rw [if_pos h]
  rfl
theorem lotV_flt (N : Int) (d : D) : lotV d 0 (N - 1) = (match fltSD N d with | .non => true | _ => false) := by
  cases d <;> try rfl
  rename_i l
  show lotB l 0 (N - 1) = _
  rw [lotB_flt l 0]
  unfold fltSD
  dsimp only
  generalize fltS l 0 0 (N - 1) = o
  cases o <;> rfl
theorem madeS_flt (N : Int) (c : Nat) (d : D) : madeS N c d = (match fltSD N d with | .non => ret d | w => thr c w) := by
  cases d <;> try rfl
  rename_i l
  unfold madeS fltSD
  dsimp only
  generalize fltS l 0 0 (N - 1) = o
  cases o <;> rfl
theorem fltSD_cases (N : Int) (d : D) : fltSD N d = .non ∨ ∃ i, fltSD N d = .int i := by
  cases d <;> try exact .inr ⟨_, rfl⟩
  rename_i l
  unfold fltSD
  dsimp only
  generalize fltS l 0 0 (N - 1) = o
  cases o
  · exact .inl rfl
  · exact .inr ⟨_, rfl⟩
end
end Zp
end
section
/-! ZStc: what the law says of standings. -/
namespace Zp
open Z
open PySem (Str PyData)
section
variable {P : Prog} {n f w c j K : Nat} {S : Sto} {X : Nat → D → Sto → Prop} {d e : D} {N : Int}
theorem EqL.tup1 {H : Hz} {m : Nat} {xs ys : List D} (h : EqL H m xs ys) : EqL H (m + 1) [.tup xs] [.tup ys] := EqL.tup h .nil
theorem EqL.lst1 {H : Hz} {m a b : Nat} {xs ys : List D} (ha : H a = some xs) (hb : H b = some ys) (h : EqL H m xs ys) : EqL H (m + 1) [.loc a] [.loc b] := EqL.lst ha hb h .nil
def cStR (fl mk is sm hr : Nat) (told name : Str) : List Z.S := [.set 2 (.call fl [(.v 0), (.v 1)]), .set 3 (.lst [(.heard hr (.call mk [(.v 0), (.v 1)]))]), .expr (.app (.v 3) (.heard hr (.call is [(.v 0), (.v 1)]))), .set 4 (.ite (.cmp .is (.v 2) (.k .non)) (.tup [(.k (.str told)), (.v 1)]) (.tup [(.k (.str name)), (.v 2)])), .ret (.call sm [(.v 3), (.lst [(.v 4), (.tup [(.k (.str told)), (.cmp .is (.v 2) (.k .non))])])])]
theorem stR_wp {fl mk is sm hr : Nat} {told name : Str} (h : P.fns[f]? = some ⟨2, 5, cStR fl mk is sm hr told name⟩) (hf : callP P (n + 2) fl [.int N, d] = ret (fltSD N d)) (hmk : callP P (n + 2) mk [.int N, d] = madeS N c d) (his : callP P (n + 2) is [.int N, d] = ret (.bl (lotV d 0 (N - 1)))) (hsm : P.fns[sm]? = some ⟨2, 7, cSame w cPair⟩) (hw : P.fns[w]? = some ⟨1, 1, cIsWhole⟩)
    {hd : Heard} (hh : P.hears[hr]? = some hd) (ht : hd.told = told) (hj : joined P hd c = name) (hs : P.sub c hd.root = true) (ot : PyData.strOk told = true) (on : PyData.strOk name = true) {H : Hz} (hA : Agr H S) {m : Nat} (he : EqL H m [d] [d]) (hm : m + 20 ≤ line) : wp (callP P (n + 3) f [.int N, d]) (fun r S' => r = .bl true ∧ Ext S S') X S := by
  rw [call_eq h rfl]
  let o := fltSD N d
  let x : D := .tup (match fltSD N d with | .non => [.str told, d] | w => [.str name, w])
  have ex1 : hearM P hd (madeS N c d) = ret x := by
    rw [madeS_flt]
    show _ = ret (D.tup (match fltSD N d with | .non => [.str told, d] | w => [.str name, w]))
    cases fltSD N d <;> first | (rw [hear_ret, ht]) | (rw [hear_thr hd hs, hj])
  let b : Bool := isNon (fltSD N d)
  have ex2 : lotV d 0 (N - 1) = b := by
    rw [lotV_flt]
    show _ = isNon (fltSD N d)
    cases fltSD N d <;> rfl
  have ex3 : ∀ C σ1, ev P C (.ite (.cmp .is (.v 2) (.k .non)) (.tup [(.k (.str told)), (.v 1)]) (.tup [(.k (.str name)), (.v 2)])) [some (.int N), some d, some (fltSD N d), σ1, none] = ret x := fun C σ1 => by
    show _ = ret (D.tup (match fltSD N d with | .non => [.str told, d] | w => [.str name, w]))
    simp only [ev_ite, tst_cmp, ev_cmp, ev_v, ev_k, ev_tup, evs_cons, evs_nil, List.getElem?_cons_zero, List.getElem?_cons_succ, ret_bd, bd_bd, is_non, tr_bl]
    rw [newT_is _ (by simp [line]), newT_is _ (by simp [line])]
    rcases fltSD_cases N d with q | ⟨i, q⟩ <;> rw [q] <;> simp [isNon]
  have hx : ∃ k, k ≤ m + 3 ∧ EqL H k [x] [x] := by
    show ∃ k, k ≤ m + 3 ∧ EqL H k [D.tup (match fltSD N d with | .non => [.str told, d] | w => [.str name, w])] [D.tup (match fltSD N d with | .non => [.str told, d] | w => [.str name, w])]
    rcases fltSD_cases N d with q | ⟨i, q⟩ <;> rw [q]
    · exact ⟨_, by omega, .tup (.leaf ot he) .nil⟩
    · exact ⟨2 + 0 + 1, by omega, .tup (.leaf on (.leaf rfl .nil)) .nil⟩
  obtain ⟨k, hk, hx⟩ := hx
  have eb : isNon (fltSD N d) = b := rfl
  generalize x = x at *
  generalize b = b at *
  let y : D := .tup [.str told, .bl b]
  have hy : EqL H 3 [y] [y] := by
    have q : EqL H 2 [.str told, .bl b] [.str told, .bl b] := EqL.leaf (d := .str told) ot (EqL.leaf (d := .bl b) rfl .nil)
    exact q.tup1
  have ey : hearM P hd (ret (.bl b)) = ret y := by rw [hear_ret, ht]
  have ety : newT [.str told, .bl b] = ret y := newT_is _ (by simp [line])
  generalize y = y at *
  simp -implicitDefEqProofs only [cStR, exs_cons, exs_nil, ex_set, ex_expr, ex_ret, ev_call, evs_cons, evs_nil, ev_lst, ev_heard, hh, ev_v, List.map_cons, List.map_nil, List.cons_append, List.nil_append, List.replicate, List.getElem?_cons_zero, List.getElem?_cons_succ, ret_bd, bd_bd, hf, hmk, ex1, List.set_cons_zero, List.set_cons_succ, wp_bd, wp_new]
  refine ⟨by simp [line], ?_⟩
  simp -implicitDefEqProofs only [wp_ret, ev_app, ev_v, ev_heard, hh, ev_call, evs_cons, evs_nil, List.getElem?_cons_zero, List.getElem?_cons_succ, ret_bd, bd_bd, his, ex2, ey, wp_bd, wp_getL]
  refine ⟨[x], get_last _ _, ?_⟩
  simp -implicitDefEqProofs only [wp_putL]
  refine ⟨⟨[x], get_last _ _⟩, by simp [line], ?_⟩
  simp -implicitDefEqProofs only [wp_ret, List.set_cons_zero, List.set_cons_succ, ex3, ret_bd, bd_bd, ev_v, ev_k, ev_lst, ev_tup, ev_cmp, evs_cons, evs_nil, is_non, eb, ety, List.getElem?_cons_zero, List.getElem?_cons_succ, wp_bd, wp_new]
  refine ⟨by simp [line], ?_⟩
  have E1 : Ext S ((S ++ [O.lst [x]]).set S.length (.lst ([x] ++ [y])) ++ [.lst [x, y]]) := ((Ext.app S [O.lst [x]]).set (Nat.le_refl _)).trans (Ext.app _ _)
  generalize hS1 : (S ++ [O.lst [x]]).set S.length (.lst ([x] ++ [y])) = S1 at *
  have g1 : S1[S.length]? = some (.lst [x, y]) := by
    rw [← hS1]
    exact get_set (get_last _ _)
  have A1 := E1.agr hA
  have A2 := A1.put (b := S.length) ((Ext.app S1 [.lst [x, y]]).get g1)
  have A3 := A2.put (b := S1.length) (get_last S1 (.lst [x, y]))
  have n1 : H S.length = none := hA.none (Nat.le_refl _)
  have hlt : S.length < S1.length := (List.getElem?_eq_some_iff.mp g1).1
  have n2 : (H.put S.length [x, y]) S1.length = none := by
    unfold Hz.put
    rw [if_neg (by omega)]
    exact hA.none (by omega)
  have le := Hz.le_trans (Hz.le_put (l := [x, y]) n1) (Hz.le_put (l := [x, y]) n2)
  have exy : EqL ((H.put S.length [x, y]).put S1.length [x, y]) (k + 3) [x, y] [x, y] := (hx.mono le).cons (hy.mono le)
  have big := EqL.lst1 (a := S.length) (b := S1.length) (by
    unfold Hz.put
    rw [if_neg (by omega), if_pos rfl]) Hz.put_self exy
  refine wp_imp (same_wp hsm hw A3 big (by omega)) ?_
  rintro r S' ⟨rfl, hE⟩
  exact ⟨rfl, E1.trans hE⟩
end
end Zp
end
section
/-! ZHdr: heads. -/
namespace Zp
open Z
open PySem (Str PyData)
def fltH : List D → Nat → Int → Int → Option Nat
  | [], _, _, _ => none
  | d :: r, i, lo, hi => if isIn d lo hi = true then fltH r (i + 1) (iv d) (iv d + 1) else some i
section
variable {P : Prog} {n f t w c m z j K : Nat} {S : Sto} {X : Nat → D → Sto → Prop} {d : D} {N : Int}
def cAskHB (w c : Nat) : List Z.S := [.ifs (.nt (.call w [(.v 5), (.v 2), (.v 3)])) [.rais c (.v 4)] [], .par 2 3 (.v 5) (.bin .add (.v 5) (.k (.int 1)))]
def cAskH (ln w c : Nat) : List Z.S := [.expr (.call ln [(.v 0)]), .ifs (.or (.nt (.p1 .isTup (.v 1))) (.cmp .ne (.p1 .len (.v 1)) (.bin .add (.v 0) (.k (.int 1))))) [.rais c (.neg (.k (.int 1)))] [], .setT [2, 3] (.tup [(.k (.int 0)), (.k (.int 0))]), .fors (.tp [4, 5]) (.enum (.v 1)) (cAskHB w c), .ret (.tupOf (.val (.v 1)))]
theorem askH_step (hw : P.fns[w]? = some ⟨3, 3, cWhole⟩) {a b : Option D} {i : Nat} {lo hi : Int} : exs P (callP P (n + 1)) (cAskHB w c) [a, b, some (.int lo), some (.int hi), some (.int i), some d] = if isIn d lo hi = true then ret (.next [a, b, some (.int (iv d)), some (.int (iv d + 1)), some (.int i), some d]) else thr c (.int i) := by
  simp only [cAskHB, exs_cons, exs_nil, ex_ifs, ex_rais, ex_par, tst_nt, tst_call, ev_call, evs_cons, evs_nil, ev_bin, ev_v, ev_k, List.getElem?_cons_zero, List.getElem?_cons_succ, ret_bd, bd_bd, whole_eq hw, tr_bl, List.set_cons_zero, List.set_cons_succ]
  cases h : isIn d lo hi with
  | false => simp
  | true =>
    obtain ⟨v, rfl⟩ : ∃ v, d = .int v := ⟨_, isIn_iv h⟩
    simp [iv]
theorem askH_loop (n : Nat) (hw : P.fns[w]? = some ⟨3, 3, cWhole⟩) : ∀ (l : List D) (i : Nat) (lo hi : Int) (a b x y : Option D), ∃ σ', σ'[1]? = some b ∧ forD (fun d σ => bd (bindT (.tp [4, 5]) d σ) fun σ' => exs P (callP P (n + 1)) (cAskHB w c) σ') ((l.zipIdx i).map fun p => D.tup [D.int (p.2 : Int), p.1]) [a, b, some (.int lo), some (.int hi), x, y] = match fltH l i lo hi with
    | none => ret (.next σ')
    | some i => thr c (.int i)
  | [], i, lo, hi, a, b, x, y => ⟨_, rfl, rfl⟩
  | d :: r, i, lo, hi, a, b, x, y => by
    obtain ⟨σ', e1, e⟩ := askH_loop n hw r (i + 1) (iv d) (iv d + 1) a b (some (.int i)) (some d)
    refine ⟨σ', e1, ?_⟩
    rw [List.zipIdx_cons, List.map_cons, forD_cons]
    show bd (exs P (callP P (n + 1)) (cAskHB w c) [a, b, some (.int lo), some (.int hi), some (.int i), some d]) _ = _
    rw [askH_step hw]
    unfold fltH
    cases h : isIn d lo hi with
    | false => simp
    | true =>
      simp only [if_true, ret_bd]
      exact e
/-- the fault of a row of heads -/
def fltHD (N : Int) : D → D
  | .tup l => if (l.length : Int) = N + 1 then (match fltH l 0 0 0 with
    | none => .non
    | some i => .int i) else .int (-1)
  | _ => .int (-1)
def madeH (N : Int) (c : Nat) (d : D) : M D := match fltHD N d with
  | .non => ret d
  | w => thr c w
theorem askH_eq {bm mf lf : Nat} (h : P.fns[f]? = some ⟨2, 6, cAskH lf w c⟩) (hl : P.fns[lf]? = some ⟨1, 1, cLine mf z⟩) (hm : P.fns[mf]? = some ⟨3, 3, cMany w bm⟩) (hw : P.fns[w]? = some ⟨3, 3, cWhole⟩) (hN : isIn (.int N) 1 z = true) (hd : ∀ l, d = .tup l → l.length ≤ line) : callP P (n + 4) f [.int N, d] = madeH N c d := by
  rw [call_eq h rfl]
  simp -implicitDefEqProofs only [cAskH, exs_cons, exs_nil, ex_expr, ex_ifs, ex_rais, ex_ret, ex_setT, ex_fors, ev_call, ev_tup, evs_cons, evs_nil, ev_v, ev_k, ev_neg, ev_bin, ev_cmp, tst_or, tst_nt, tst_p1, tst_cmp, ev_p1, isT, tr_bl, List.map_cons, List.map_nil, List.cons_append, List.nil_append, List.replicate, List.getElem?_cons_zero, List.getElem?_cons_succ, ret_bd, bd_bd, line_eq hl hm hw, hN, if_true, walk_enum]
  cases d with
  | tup l =>
    obtain ⟨σ', e1, e⟩ := askH_loop (c := c) (n + 2) hw l 0 0 0 (some (.int N)) (some (.tup l)) none none
    unfold madeH fltHD
    dsimp only
    by_cases q : (l.length : Int) = N + 1
    · rw [if_pos q]
      have q' : ((l.length : Int) == N + 1) = true := by simp [q]
      have nt : newT [.int 0, .int 0] = ret (.tup [.int 0, .int 0]) := newT_is _ (by simp [line])
      simp -implicitDefEqProofs only [istup, Bool.not_true, Bool.false_eq_true, if_false, ret_bd, bd_bd, len_tup, add_int, ne_int, q', tr_bl, nt, bindT, setAll, List.set_cons_zero, List.set_cons_succ, List.getElem?_cons_zero, List.getElem?_cons_succ]
      have e2 := forL_fix (fun d σ => bd (bindT (.tp [4, 5]) d σ) fun σ' => exs P (callP P (n + 3)) (cAskHB w c) σ') (numbered l) [some (.int N), some (.tup l), some (.int 0), some (.int 0), none, none]
      unfold bindT at e2 e
      rw [e2]
      unfold numbered
      rw [e]
      cases fltH l 0 0 0 with
      | none =>
        simp -implicitDefEqProofs only [ret_bd, bd_bd, ev_tupOf, walk_val, ev_v, e1, wo_tup, newT_is l (hd l rfl)]
      | some i => simp only [thr_bd]
    · rw [if_neg q]
      have q' : ((l.length : Int) == N + 1) = false := by simp [q]
      simp -implicitDefEqProofs only [istup, Bool.not_true, Bool.not_false, Bool.false_eq_true, if_false, if_true, ret_bd, bd_bd, len_tup, add_int, ne_int, q', tr_bl, thr_bd, List.getElem?_cons_zero, List.getElem?_cons_succ]
  | _ => simp [istup, madeH, fltHD]
theorem askH_odd {lf mf bm : Nat} {e : D} (h : P.fns[f]? = some ⟨2, 6, cAskH lf w c⟩) (hl : P.fns[lf]? = some ⟨1, 1, cLine mf z⟩) (hm : P.fns[mf]? = some ⟨3, 3, cMany w bm⟩) (hw : P.fns[w]? = some ⟨3, 3, cWhole⟩) (hN : isIn e 1 z = false) : callP P (n + 4) f [e, d] = thr bm e := by
  rw [call_eq h rfl]
  simp only [cAskH, exs_cons, ex_expr, ev_call, evs_cons, evs_nil, ev_v, List.map_cons, List.map_nil, List.cons_append, List.nil_append, List.replicate, List.getElem?_cons_zero, List.getElem?_cons_succ, ret_bd, bd_bd, line_eq hl hm hw, hN, Bool.false_eq_true, if_false, thr_bd]
/-! ### the law's own fault of a row of heads -/
def cFltHB (ii : Nat) : List Z.S := [.set 3 (.ite (.cmp .gt (.v 2) (.k (.int 0))) (.ix (.v 1) (.bin .sub (.v 2) (.k (.int 1)))) (.k (.int 0))), .ifs (.nt (.call ii [(.ix (.v 1) (.v 2)), (.v 3), (.bin .add (.v 3) (.p1 .int (.cmp .gt (.v 2) (.k (.int 0)))))])) [.ret (.v 2)] []]
def cFltH (ii : Nat) : List Z.S := [.ifs (.or (.nt (.p1 .isTup (.v 1))) (.cmp .ne (.p1 .len (.v 1)) (.bin .add (.v 0) (.k (.int 1))))) [.ret (.neg (.k (.int 1)))] [], .fors (.nm 2) (.rg1 (.bin .add (.v 0) (.k (.int 1)))) (cFltHB ii), .ret (.k .non)]
def PrvH (l : List D) (k : Nat) (lo hi : Int) : Prop := (k = 0 ∧ lo = 0 ∧ hi = 0) ∨ ∃ k' p, k = k' + 1 ∧ l[k']? = some (.int p) ∧ lo = p ∧ hi = p + 1
theorem fltH_step {ii wi : Nat} (hi' : P.fns[ii]? = some ⟨3, 3, cIsIn wi⟩) (hwi : P.fns[wi]? = some ⟨1, 1, cIsWhole⟩) {l : List D} {k : Nat} {lo hi : Int} {a x : Option D} (hp : PrvH l k lo hi) (hd : l[k]? = some d) : exs P (callP P (n + 2)) (cFltHB ii) [a, some (.tup l), some (.int k), x] = if isIn d lo hi = true then ret (.next [a, some (.tup l), some (.int k), some (.int lo)]) else ret (.ret (.int k)) := by
  have e0 : ∀ C, ev P C (.ite (.cmp .gt (.v 2) (.k (.int 0))) (.ix (.v 1) (.bin .sub (.v 2) (.k (.int 1)))) (.k (.int 0))) [a, some (.tup l), some (.int k), x] = ret (.int lo) := fun C => by
    simp only [ev_ite, tst_cmp, ev_cmp, ev_ix, ev_bin, ev_v, ev_k, List.getElem?_cons_zero, List.getElem?_cons_succ, ret_bd, bd_bd, gt_int, tr_bl, sub_int]
    rcases hp with ⟨rfl, rfl, rfl⟩ | ⟨k', p, rfl, hk', rfl, rfl⟩
    · simp
    · have e1 : ((k' + 1 : Nat) : Int) - 1 = (k' : Int) := by omega
      have e2 : (0 : Int) < ((k' + 1 : Nat) : Int) := by omega
      rw [e1, ix_tup_at hk', decide_eq_true e2, if_pos rfl]
  have e3 : lo + b2 (decide ((0 : Int) < (k : Int))) = hi := by
    rcases hp with ⟨rfl, rfl, rfl⟩ | ⟨k', p, rfl, hk', rfl, rfl⟩
    · rfl
    · have e2 : (0 : Int) < ((k' + 1 : Nat) : Int) := by omega
      rw [decide_eq_true e2]
      rfl
  simp only [cFltHB, exs_cons, exs_nil, ex_set, e0, ex_ifs, ex_ret, tst_nt, tst_call, ev_call, evs_cons, evs_nil, ev_ix, ev_bin, ev_cmp, ev_p1, ev_v, ev_k, List.getElem?_cons_zero, List.getElem?_cons_succ, List.set_cons_zero, List.set_cons_succ, ret_bd, bd_bd, gt_int, int_bl, add_int, e3, ix_tup_at hd, isIn_eq hi' hwi, tr_bl]
  cases isIn d lo hi <;> simp
theorem fltH_loop (n : Nat) {ii wi : Nat} (hi' : P.fns[ii]? = some ⟨3, 3, cIsIn wi⟩) (hwi : P.fns[wi]? = some ⟨1, 1, cIsWhole⟩) {l : List D} {a : Option D} : ∀ (r : List D) (k : Nat) (lo hi : Int) (x y : Option D), PrvH l k lo hi → l.drop k = r → ∃ σ', forD (fun d σ => exs P (callP P (n + 2)) (cFltHB ii) (σ.set 2 (some d))) ((List.range' k r.length).map fun (i : Nat) => D.int (i : Int)) [a, some (.tup l), x, y] = match fltH r k lo hi with
    | none => ret (.next σ')
    | some i => ret (.ret (.int i))
  | [], k, lo, hi, x, y, hp, hr => ⟨_, rfl⟩
  | d :: r, k, lo, hi, x, y, hp, hr => by
    have hk : l[k]? = some d := by
      have := congrArg (·[0]?) hr
      simpa using this
    have hr' : l.drop (k + 1) = r := by
      rw [← List.tail_drop, hr]
      rfl
    rw [List.length_cons, List.range'_succ, List.map_cons]
    unfold fltH
    cases h : isIn d lo hi with
    | false =>
      refine ⟨[], ?_⟩
      rw [forD_cons]
      show bd (exs P (callP P (n + 2)) (cFltHB ii) [a, some (.tup l), some (.int k), y]) _ = _
      rw [fltH_step hi' hwi hp hk, h]
      simp
    | true =>
      obtain ⟨v, rfl⟩ : ∃ v, d = .int v := ⟨_, isIn_iv h⟩
      obtain ⟨σ', e⟩ := fltH_loop n hi' hwi r (k + 1) v (v + 1) (some (.int k)) (some (.int lo)) (.inr ⟨k, v, rfl, hk, rfl, rfl⟩) hr'
      refine ⟨σ', ?_⟩
      rw [forD_cons]
      show bd (exs P (callP P (n + 2)) (cFltHB ii) [a, some (.tup l), some (.int k), y]) _ = _
      rw [fltH_step hi' hwi hp hk, h]
      simp only [if_true, ret_bd]
      exact e
theorem fltH_eq {ii wi : Nat} (h : P.fns[f]? = some ⟨2, 4, cFltH ii⟩) (hi : P.fns[ii]? = some ⟨3, 3, cIsIn wi⟩) (hwi : P.fns[wi]? = some ⟨1, 1, cIsWhole⟩) (hd : ∀ l, d = .tup l → l.length ≤ line) : callP P (n + 3) f [.int N, d] = ret (fltHD N d) := by
  rw [call_eq h rfl]
  simp -implicitDefEqProofs only [cFltH, exs_cons, exs_nil, ex_ifs, ex_fors, ex_ret, ev_v, ev_k, ev_neg, ev_bin, ev_cmp, tst_or, tst_cmp, tst_nt, tst_p1, ev_p1, isT, tr_bl, List.map_cons, List.map_nil, List.cons_append, List.nil_append, List.replicate, List.getElem?_cons_zero, List.getElem?_cons_succ, ret_bd, bd_bd, walk_rg1, List.set_cons_zero, List.set_cons_succ]
  cases d with
  | tup l =>
    unfold fltHD
    dsimp only
    by_cases q : (l.length : Int) = N + 1
    · rw [if_pos q]
      have q' : ((l.length : Int) == N + 1) = true := by simp [q]
      have rg : rgok (N + 1) = true := by
        rw [← q]
        have := hd l rfl
        unfold line at this
        unfold rgok
        simp
        omega
      obtain ⟨σ', e⟩ := fltH_loop n hi hwi (l := l) (a := some (.int N)) l 0 0 0 none none (.inl ⟨rfl, rfl, rfl⟩) rfl
      have er : ranges 0 (N + 1) = (List.range' 0 l.length).map fun (i : Nat) => D.int (i : Int) := by
        rw [← q, ranges_eq]
      simp -implicitDefEqProofs only [istup, Bool.not_true, Bool.false_eq_true, if_false, ret_bd, bd_bd, List.getElem?_cons_zero, List.getElem?_cons_succ, len_tup, add_int, ne_int, q', tr_bl, rg, if_true, forL_fix, bind_nm, er, e]
      cases fltH l 0 0 0 <;> simp -implicitDefEqProofs only [ret_bd]
    · rw [if_neg q]
      have q' : ((l.length : Int) == N + 1) = false := by simp [q]
      simp -implicitDefEqProofs only [istup, Bool.not_true, Bool.not_false, Bool.false_eq_true, if_false, if_true, ret_bd, bd_bd, len_tup, add_int, ne_int, q', tr_bl, List.getElem?_cons_zero, List.getElem?_cons_succ]
  | _ => simp [istup, fltHD]
end
end Zp
end
section
/-! ZHds: what the law says of heads. -/
namespace Zp
open Z
open PySem (Str PyData)
section
variable {P : Prog} {n f w c j K : Nat} {S : Sto} {X : Nat → D → Sto → Prop} {d e : D} {N : Int}
theorem fltHD_cases (N : Int) (d : D) : fltHD N d = .non ∨ ∃ i, fltHD N d = .int i := by
  cases d <;> try exact .inr ⟨_, rfl⟩
  rename_i l
  unfold fltHD
  dsimp only
  split
  · generalize fltH l 0 0 0 = o
    cases o
    · exact .inl rfl
    · exact .inr ⟨_, rfl⟩
  · exact .inr ⟨_, rfl⟩
def cHdR (fl mk sm hr : Nat) (told name : Str) : List Z.S := [.set 2 (.call fl [(.v 0), (.v 1)]), .set 3 (.ite (.cmp .is (.v 2) (.k .non)) (.tup [(.k (.str told)), (.v 1)]) (.tup [(.k (.str name)), (.v 2)])), .ret (.call sm [(.heard hr (.call mk [(.v 0), (.v 1)])), (.v 3)])]
theorem hdR_wp {fl mk sm hr : Nat} {told name : Str} (h : P.fns[f]? = some ⟨2, 4, cHdR fl mk sm hr told name⟩) (hf : callP P (n + 2) fl [.int N, d] = ret (fltHD N d)) (hmk : callP P (n + 2) mk [.int N, d] = madeH N c d) (hsm : P.fns[sm]? = some ⟨2, 7, cSame w cPair⟩) (hw : P.fns[w]? = some ⟨1, 1, cIsWhole⟩)
    {hd : Heard} (hh : P.hears[hr]? = some hd) (ht : hd.told = told) (hj : joined P hd c = name) (hs : P.sub c hd.root = true) (ot : PyData.strOk told = true) (on : PyData.strOk name = true) {H : Hz} (hA : Agr H S) {m : Nat} (he : EqL H m [d] [d]) (hm : m + 20 ≤ line) : wp (callP P (n + 3) f [.int N, d]) (fun r S' => r = .bl true ∧ Ext S S') X S := by
  rw [call_eq h rfl]
  let x : D := .tup (match fltHD N d with | .non => [.str told, d] | w => [.str name, w])
  have ex1 : hearM P hd (madeH N c d) = ret x := by
    unfold madeH
    show _ = ret (D.tup (match fltHD N d with | .non => [.str told, d] | w => [.str name, w]))
    cases fltHD N d <;> first | (rw [hear_ret, ht]) | (rw [hear_thr hd hs, hj])
  have ex3 : ∀ C, ev P C (.ite (.cmp .is (.v 2) (.k .non)) (.tup [(.k (.str told)), (.v 1)]) (.tup [(.k (.str name)), (.v 2)])) [some (.int N), some d, some (fltHD N d), none] = ret x := fun C => by
    show _ = ret (D.tup (match fltHD N d with | .non => [.str told, d] | w => [.str name, w]))
    simp only [ev_ite, tst_cmp, ev_cmp, ev_v, ev_k, ev_tup, evs_cons, evs_nil, List.getElem?_cons_zero, List.getElem?_cons_succ, ret_bd, bd_bd, is_non, tr_bl]
    rw [newT_is _ (by simp [line]), newT_is _ (by simp [line])]
    rcases fltHD_cases N d with q | ⟨i, q⟩ <;> rw [q] <;> simp [isNon]
  have hx : ∃ k, k ≤ m + 3 ∧ EqL H k [x] [x] := by
    show ∃ k, k ≤ m + 3 ∧ EqL H k [D.tup (match fltHD N d with | .non => [.str told, d] | w => [.str name, w])] [D.tup (match fltHD N d with | .non => [.str told, d] | w => [.str name, w])]
    rcases fltHD_cases N d with q | ⟨i, q⟩ <;> rw [q]
    · exact ⟨_, by omega, .tup (.leaf ot he) .nil⟩
    · exact ⟨2 + 0 + 1, by omega, .tup (.leaf on (.leaf rfl .nil)) .nil⟩
  obtain ⟨k, hk, hx⟩ := hx
  generalize x = x at *
  simp -implicitDefEqProofs only [cHdR, exs_cons, exs_nil, ex_set, ex_ret, ev_call, evs_cons, evs_nil, ev_heard, hh, ev_v, List.map_cons, List.map_nil, List.cons_append, List.nil_append, List.replicate, List.getElem?_cons_zero, List.getElem?_cons_succ, ret_bd, bd_bd, hf, hmk, ex1, ex3, List.set_cons_zero, List.set_cons_succ, wp_bd]
  refine wp_imp (same_wp hsm hw hA hx (by omega)) ?_
  rintro r S' ⟨rfl, hE⟩
  exact ⟨rfl, hE⟩
end
end Zp
end
section
/-! ZMny: numbers of zones that are none. -/
namespace Zp
open Z
open PySem (Str PyData)
section
variable {P : Prog} {n f w c j K : Nat} {S : Sto} {X : Nat → D → Sto → Prop} {d e : D} {N : Int}
def cZn (o : Nat) (ls : List E) : List Z.S := [.ret (.call o [(.v 0), (.lst ls)])]
theorem zn_wp {o t : Nat} {ls : List E} {l : List D} (h : P.fns[f]? = some ⟨1, 1, cZn o ls⟩) (ho : P.fns[o]? = some ⟨2, 2, cOne t⟩) (ht : P.fns[t]? = some ⟨2, 3, cTake⟩) (hls : ∀ C σ, evs P C ls σ = ret l) (hne : 0 < l.length) (hl : l.length ≤ 1000) (hJ : Jar j K S) (hK : K < 2 ^ 64) : wp (callP P (n + 3) f [.loc j]) (fun r S' => r ∈ l ∧ Frj j S S' ∧ Jar j (K + 1) S') X S := by
  rw [call_eq h rfl]
  have hj : j < S.length := by
    obtain ⟨_, _, _, hS, _⟩ := hJ
    exact (List.getElem?_eq_some_iff.mp hS).1
  simp only [cZn, exs_cons, ex_ret, ev_call, evs_cons, evs_nil, ev_v, ev_lst, hls, List.map_cons, List.map_nil, List.cons_append, List.nil_append, List.replicate, Nat.sub_self, List.getElem?_cons_zero, List.getElem?_cons_succ, ret_bd, bd_bd, wp_bd, wp_new]
  refine ⟨by unfold line; omega, ?_⟩
  refine wp_imp (one_wp ho ht (get_last S (.lst l)) hne hl (by omega) (hJ.ext (Ext.app _ _)) hK) ?_
  rintro r S' ⟨hr, hF, hJ'⟩
  simp only [wp_ret]
  exact ⟨hr, ((Ext.app S [.lst l]).frj j).trans hF, hJ'⟩
/-- data that are whole numbers -/
def Ints (l : List D) : Prop := ∀ x ∈ l, ∃ i : Int, x = .int i
def cHdsI : E := .p1 .len (.lcif (.nm 3) (.val (.v 1)) (.cmp .lt (.v 3) (.v 2)) (.v 3))
def cHds : List Z.S := [.ret (.tupOf (.val (.lc (.nm 2) (.rg1 (.bin .add (.v 0) (.k (.int 1)))) cHdsI)))]
theorem hdsI_wp {C : Nat → List D → M D} {l : List D} (hl : Ints l) (hn : l.length ≤ line) {a y : Option D} {i : Int} : wp (ev P C cHdsI [a, some (.tup l), some (.int i), y]) (fun r S' => (∃ v : Int, r = .int v) ∧ Ext S S') X S := by
  have e : ∀ d ∈ l, (bd (bindT (.nm 3) d (wipeE [a, some (.tup l), some (.int i), y] (T.nm 3).own)) fun σ' => bd (tst P C (.cmp .lt (.v 3) (.v 2)) σ') fun c => if c = true then bd (ev P C (.v 3) σ') fun y => ret (some y) else ret none) = ret (match d with | .int v => if v < i then some (.int v) else none | _ => none) := by
    intro d hd
    obtain ⟨v, rfl⟩ := hl d hd
    simp only [T.own, wipeE, List.set_cons_zero, List.set_cons_succ, bind_nm, ret_bd, bd_bd, tst_cmp, ev_cmp, ev_v, List.getElem?_cons_zero, List.getElem?_cons_succ, lt_int, tr_bl]
    by_cases q : v < i <;> simp [q]
  simp only [cHdsI, ev_p1, ev_lcif, walk_val, ev_v, List.getElem?_cons_zero, List.getElem?_cons_succ, ret_bd, bd_bd, wo_tup, lcL_fix, wp_bd]
  refine wp_calm (wp_of_ok (congrFun (lcD_ret e) S) ?_)
  rw [wp_new]
  refine ⟨Nat.le_trans (List.length_filterMap_le _ _) hn, ?_⟩
  simp only [len_loc, wp_bd, wp_getL]
  refine ⟨_, get_last _ _, ?_⟩
  simp only [wp_ret]
  exact ⟨⟨_, rfl⟩, Ext.app _ _⟩
def cHdsP (ce : E) : List Z.S := [.ret (.tupOf (.val (.lc (.nm 2) (.rg1 (.bin .add (.v 0) (.k (.int 1)))) ce)))]
theorem hds_wp (h : P.fns[f]? = some ⟨2, 4, cHds⟩) {l : List D} (hl : Ints l) (hn : l.length ≤ line) (hN : 0 ≤ N) (hN' : N ≤ 100) : wp (callP P (n + 1) f [.int N, .tup l]) (fun r S' => (∃ k, r = .tup k ∧ Ints k ∧ (k.length : Int) = N + 1) ∧ Ext S S') X S := by
  rw [call_eq h rfl]
  have hi : ∀ (C : Nat → List D → M D) (X : Nat → D → Sto → Prop) (S : Sto) (a y : Option D) (i : Int), wp (ev P C cHdsI [a, some (.tup l), some (.int i), y]) (fun r S' => (∃ v : Int, r = .int v) ∧ Ext S S') X S := fun C X S a y i => hdsI_wp hl hn
  have rg : rgok (N + 1) = true := by
    unfold rgok
    simp
    omega
  have hlen : (ranges 0 (N + 1)).length = (N + 1).toNat := by simp [ranges]
  show wp (bd (exs P (callP P n) (cHdsP cHdsI) _) _) _ X S
  generalize cHdsI = ce at *
  simp -implicitDefEqProofs only [cHdsP, exs_cons, ex_ret, ev_tupOf, walk_val, ev_lc, walk_rg1, ev_bin, ev_v, ev_k, List.map_cons, List.map_nil, List.cons_append, List.nil_append, List.replicate, List.getElem?_cons_zero, List.getElem?_cons_succ, ret_bd, bd_bd, add_int, rg, if_true, wp_bd, lcL_fix]
  refine wp_calm (wp_imp (lcD_wp (k := []) (fun k r S' => Ext S S' ∧ Ints k ∧ k.length + r.length = (N + 1).toNat ∧ Ints r) (Q := fun k S' => Ext S S' ∧ Ints k ∧ k.length = (N + 1).toNat) ?_ ?_ ?_) ?_)
  · rintro d r k S' ⟨hE, hk, hs, hr⟩
    obtain ⟨i, rfl⟩ := hr _ List.mem_cons_self
    simp -implicitDefEqProofs only [T.own, wipeE, List.set_cons_zero, List.set_cons_succ, bind_nm, ret_bd, bd_bd, wp_bd]
    refine wp_imp (hi _ _ _ _ _ _) ?_
    rintro r' S'' ⟨⟨v, rfl⟩, hE'⟩
    rw [wp_ret]
    refine ⟨hE.trans hE', fun x hx => ?_, by simp at hs ⊢; omega, fun x hx => hr x (List.mem_cons_of_mem _ hx)⟩
    rcases List.mem_append.mp hx with q | q
    · exact hk x q
    · exact ⟨v, by simpa using q⟩
  · rintro k S' ⟨hE, hk, hs, _⟩
    exact ⟨hE, hk, by simpa using hs⟩
  · exact ⟨Ext.refl _, fun _ h => (nomatch h), by simp [hlen], fun x hx => by
      obtain ⟨i, q, _⟩ := mem_ranges hx
      exact ⟨_, q⟩⟩
  · rintro k S' ⟨hE, hk, hs⟩
    rw [List.nil_append] at *
    have hz : k.length ≤ line := by unfold line; omega
    rw [wp_new]
    refine ⟨hz, ?_⟩
    simp -implicitDefEqProofs only [wo_loc, wp_bd, wp_getL]
    refine ⟨k, get_last _ _, ?_⟩
    simp -implicitDefEqProofs only [wp_ret, wp_bd, wp_getL, newT_is k hz]
    refine ⟨k, get_last _ _, ?_⟩
    simp -implicitDefEqProofs only [wp_ret, wp_bd, newT_is k hz]
    exact ⟨⟨k, rfl, hk, by omega⟩, hE.trans (Ext.app _ _)⟩
end
end Zp
end
section
/-! ZDrw: what the law draws. -/
namespace Zp
open Z
open PySem (Str PyData)
theorem Ints.cut {l : List D} (h : Ints l) (a b : Option Int) : Ints (cut l a b) := fun x hx => h x (List.mem_of_mem_drop (List.mem_of_mem_take hx))
theorem cut_len {l : List D} {a b : Option Int} : (cut l a b).length ≤ l.length := by
  unfold cut
  rw [List.length_take, List.length_drop]
  omega
theorem ints_ranges (lo hi : Int) : Ints (ranges lo hi) := fun x hx => by
  obtain ⟨i, q, _⟩ := mem_ranges hx
  exact ⟨_, q⟩
theorem ranges_len (lo hi : Int) : (ranges lo hi).length = (hi - lo).toNat := by simp [ranges]
section
variable {P : Prog} {n f w c j K : Nat} {S : Sto} {X : Nat → D → Sto → Prop} {d e : D} {N : Int}
/-- a comprehension that leaves one number out -/
def cZsNe : E := .lcif (.nm 5) (.val (.v 3)) (.cmp .ne (.v 5) (.v 4)) (.v 5)
theorem zsNe_wp {C : Nat → List D → M D} {l : List D} {a : Nat} (ha : S[a]? = some (.lst l)) (hl : Ints l) (hn : l.length ≤ line) {x y z u : Option D} {m : Int} : wp (ev P C cZsNe [x, y, z, some (.loc a), some (.int m), u]) (fun r S' => ∃ k, r = .loc S.length ∧ S' = S ++ [.lst k] ∧ k.Sublist l) X S := by
  simp -implicitDefEqProofs only [cZsNe, ev_lcif, walk_val, ev_v, List.getElem?_cons_zero, List.getElem?_cons_succ, ret_bd, bd_bd, wo_loc, wp_bd, wp_getL]
  refine ⟨l, ha, ?_⟩
  refine wp_calm (lcL_at_wp (fun k r S' => S' = S ∧ (k ++ r).Sublist l) ?_ ?_ ?_ ?_)
  · rintro k r S' ⟨rfl, _⟩
    exact ha
  · rintro d r k S' hd ⟨rfl, hs⟩
    obtain ⟨v, rfl⟩ := hl d hd
    simp -implicitDefEqProofs only [T.own, wipeE, List.set_cons_zero, List.set_cons_succ, bind_nm, ret_bd, bd_bd, tst_cmp, ev_cmp, ev_v, List.getElem?_cons_zero, List.getElem?_cons_succ, ne_int, tr_bl]
    by_cases q : v = m
    · simp [q]
      exact (List.Sublist.append_left (List.sublist_cons_self _ _) k).trans hs
    · simp [q]
      exact hs
  · rintro k S' ⟨rfl, hs⟩
    rw [wp_new]
    rw [List.append_nil] at hs
    exact ⟨Nat.le_trans hs.length_le hn, k, rfl, rfl, hs⟩
  · exact ⟨rfl, List.Sublist.refl _⟩
/-- a comprehension that draws for each -/
def cZsDr (t : Nat) : E := .lcif (.nm 5) (.val (.v 3)) (.cmp .eq (.call t [(.v 0), (.bin .sub (.k (.int 6)) (.v 2))]) (.k (.int 0))) (.v 5)
theorem zsDr_wp {t : Nat} (ht : P.fns[t]? = some ⟨2, 3, cTake⟩) {l : List D} {a : Nat} (ha : S[a]? = some (.lst l)) (haj : a ≠ j) (hl : Ints l) (hn : l.length ≤ 1000) (hJ : Jar j K S) (hK : K + 1000 < 2 ^ 64) {y z u : Option D} {m : Int} (hm : m < 6) (hm' : 0 ≤ m) : wp (ev P (callP P (n + 1)) (cZsDr t) [some (.loc j), y, some (.int m), some (.loc a), z, u]) (fun r S' => (∃ k, r = .loc (S'.length - 1) ∧ S'[S'.length - 1]? = some (.lst k) ∧ S.length < S'.length ∧ k.Sublist l) ∧ Frj j S S' ∧ Jar j (K + l.length) S') X S := by
  simp -implicitDefEqProofs only [cZsDr, ev_lcif, walk_val, ev_v, List.getElem?_cons_zero, List.getElem?_cons_succ, ret_bd, bd_bd, wo_loc, wp_bd, wp_getL]
  refine ⟨l, ha, ?_⟩
  refine wp_calm (lcL_at_wp (fun k r S' => Frj j S S' ∧ (∃ K', K' + r.length = K + l.length ∧ Jar j K' S') ∧ (k ++ r).Sublist l) ?_ ?_ ?_ ?_)
  · rintro k r S' ⟨hF, _⟩
    exact hF.get haj ha
  · rintro d r k S' hd ⟨hF, ⟨K', hK', hJ'⟩, hs⟩
    obtain ⟨v, rfl⟩ := hl d hd
    simp only [List.length_cons] at hK'
    simp -implicitDefEqProofs only [T.own, wipeE, List.set_cons_zero, List.set_cons_succ, bind_nm, ret_bd, bd_bd, tst_cmp, ev_cmp, ev_v, ev_k, ev_call, evs_cons, evs_nil, ev_bin, sub_int, List.getElem?_cons_zero, List.getElem?_cons_succ, wp_bd]
    refine wp_imp (take_wp ht (by omega) (by omega) hJ' (by omega)) ?_
    rintro _ S'' ⟨⟨i, rfl, hi⟩, hF', hJ''⟩
    simp -implicitDefEqProofs only [eq_int, wp_ret, tr_bl, ret_bd]
    have hF2 := hF.trans hF'
    by_cases q : ((i : Int) == 0) = true
    · rw [if_pos q, wp_ret]
      refine ⟨hF2, ⟨K' + 1, by omega, hJ''⟩, ?_⟩
      dsimp only
      rw [List.append_assoc]
      exact hs
    · rw [if_neg q, wp_ret]
      exact ⟨hF2, ⟨K' + 1, by omega, hJ''⟩, (List.Sublist.append_left (List.sublist_cons_self _ _) k).trans hs⟩
  · rintro k S' ⟨hF, ⟨K', hK', hJ'⟩, hs⟩
    rw [wp_new]
    rw [List.append_nil] at hs
    simp at hK'
    refine ⟨by have := hs.length_le; unfold line; omega, ⟨k, by simp, by simp, by have := hF.1; simp; omega, hs⟩, hF.trans ((Ext.app _ _).frj j), ?_⟩
    exact (hJ'.more (by omega)).ext (Ext.app _ _)
  · exact ⟨Frj.refl _ _, ⟨K, rfl, hJ⟩, List.Sublist.refl _⟩
end
end Zp
end
section
/-! ZDrx: a drawn standing. -/
namespace Zp
open Z
open PySem (Str PyData)
section
variable {P : Prog} {n f w c j K : Nat} {S : Sto} {X : Nat → D → Sto → Prop} {d e : D} {N : Int}
def cZsC (ne : E) : E := .ite (.cmp .eq (.v 2) (.k (.int 0))) (.slo (.v 3) (.v 4)) (.ite (.cmp .eq (.v 2) (.k (.int 1))) (.shi (.v 3) (.v 4)) ne)
def cZs (t : Nat) (ne dr : E) : List Z.S := [.setT [2, 3] (.tup [(.call t [(.v 0), (.k (.int 6))]), (.lstOf (.rg1 (.v 1)))]), .ifs (.cmp .lt (.v 2) (.k (.int 3))) [.set 4 (.call t [(.v 0), (.bin .add (.v 1) (.k (.int 1)))]), .ret (.tupOf (.val (cZsC ne)))] [], .ret (.tupOf (.val dr))]
/-- a tuple of a list that stands -/
theorem tupOf_wp {C : Nat → List D → M D} {e : E} {σ : Env} {Q : D → Sto → Prop} (h : wp (ev P C e σ) (fun r S' => ∃ a k, r = .loc a ∧ S'[a]? = some (.lst k) ∧ k.length ≤ line ∧ Q (.tup k) S') X S) : wp (ev P C (.tupOf (.val e)) σ) Q X S := by
  rw [ev_tupOf, walk_val, bd_bd, wp_bd]
  refine wp_imp h ?_
  rintro _ S' ⟨a, k, rfl, ha, hk, q⟩
  rw [wo_loc, bd_bd, wp_bd, wp_getL]
  refine ⟨k, ha, ?_⟩
  rw [ret_bd]
  show wp (bd (getL a) fun l => newT l) Q X S'
  rw [wp_bd, wp_getL]
  refine ⟨k, ha, ?_⟩
  rw [wp_newT]
  exact ⟨hk, q⟩
theorem sl_loc {a : Nat} {l : List D} {lo hi : Option Int} {Q : D → Sto → Prop} (ha : S[a]? = some (.lst l)) (hl : l.length ≤ line) (q : Q (.loc S.length) (S ++ [.lst (cut l lo hi)])) : wp (slice (.loc a) lo hi) Q X S := by
  show wp (bd (getL a) fun l => new (cut l lo hi)) Q X S
  rw [wp_bd, wp_getL]
  refine ⟨l, ha, ?_⟩
  rw [wp_new]
  exact ⟨Nat.le_trans cut_len hl, q⟩
theorem cut_sub {l : List D} {a b : Option Int} : (cut l a b).Sublist l := (List.take_sublist _ _).trans (List.drop_sublist _ _)
theorem zsC_wp {C : Nat → List D → M D} {l : List D} {a : Nat} (ha : S[a]? = some (.lst l)) (hl : Ints l) (hn : l.length ≤ line) {x y u : Option D} {m g : Int} : wp (ev P C (cZsC cZsNe) [x, y, some (.int g), some (.loc a), some (.int m), u]) (fun r S' => ∃ k, r = .loc S.length ∧ S' = S ++ [.lst k] ∧ k.Sublist l) X S := by
  have hne := @zsNe_wp P S X C l a ha hl hn x y (some (.int g)) u m
  unfold cZsC
  generalize cZsNe = ne at *
  simp -implicitDefEqProofs only [ev_ite, tst_cmp, ev_cmp, ev_v, ev_k, List.getElem?_cons_zero, List.getElem?_cons_succ, ret_bd, bd_bd, eq_int, tr_bl]
  by_cases h0 : (g == 0) = true
  · rw [if_pos h0]
    simp -implicitDefEqProofs only [ev_slo, ev_v, List.getElem?_cons_zero, List.getElem?_cons_succ, ret_bd, bd_bd]
    exact sl_loc ha hn ⟨_, rfl, rfl, cut_sub⟩
  · rw [if_neg h0]
    by_cases h1 : (g == 1) = true
    · rw [if_pos h1]
      simp -implicitDefEqProofs only [ev_shi, ev_v, List.getElem?_cons_zero, List.getElem?_cons_succ, ret_bd, bd_bd]
      exact sl_loc ha hn ⟨_, rfl, rfl, cut_sub⟩
    · rw [if_neg h1]
      exact hne
theorem zs_sub {t : Nat} (h : P.fns[f]? = some ⟨2, 6, cZs t cZsNe (cZsDr t)⟩) (ht : P.fns[t]? = some ⟨2, 3, cTake⟩) (hJ : Jar j K S) (hK : K + 1000 < 2 ^ 63) (hN : 1 ≤ N) (hN' : N ≤ 100) : wp (callP P (n + 2) f [.loc j, .int N]) (fun r S' => (∃ k, r = .tup k ∧ k.Sublist (ranges 0 N)) ∧ Frj j S S' ∧ Jar j (K + 102) S') X S := by
  rw [call_eq h rfl]
  have rg : rgok N = true := by
    unfold rgok
    simp
    omega
  have hdr : ∀ {a l S K y z u m}, S[a]? = some (.lst l) → a ≠ j → Ints l → l.length ≤ 1000 → Jar j K S → K + 1000 < 2 ^ 64 → m < 6 → 0 ≤ m → wp (ev P (callP P (n + 1)) (cZsDr t) [some (.loc j), y, some (.int m), some (.loc a), z, u]) (fun r S' => (∃ k, r = .loc (S'.length - 1) ∧ S'[S'.length - 1]? = some (.lst k) ∧ S.length < S'.length ∧ k.Sublist l) ∧ Frj j S S' ∧ Jar j (K + l.length) S') X S := fun ha haj hl hn hJ hK hm hm' => zsDr_wp ht ha haj hl hn hJ hK hm hm'
  have hc : ∀ {C : Nat → List D → M D} {S : Sto} {l : List D} {a : Nat} (ha : S[a]? = some (.lst l)) (hl : Ints l) (hn : l.length ≤ line) {x y u : Option D} {m g : Int}, wp (ev P C (cZsC cZsNe) [x, y, some (.int g), some (.loc a), some (.int m), u]) (fun r S' => ∃ k, r = .loc S.length ∧ S' = S ++ [.lst k] ∧ k.Sublist l) X S := fun ha hl hn => zsC_wp ha hl hn
  unfold cZs
  generalize cZsC cZsNe = ce at *
  generalize cZsDr t = de at *
  have hj : j < S.length := by
    obtain ⟨_, _, _, hS, _⟩ := hJ
    exact (List.getElem?_eq_some_iff.mp hS).1
  simp -implicitDefEqProofs only [exs_cons, ex_setT, ev_tup, ev_call, evs_cons, evs_nil, ev_v, ev_k, List.map_cons, List.map_nil, List.cons_append, List.nil_append, List.replicate, List.getElem?_cons_zero, List.getElem?_cons_succ, ret_bd, bd_bd, wp_bd]
  refine wp_imp (take_wp ht (by omega) (by omega) hJ (by omega)) ?_
  rintro _ S1 ⟨⟨g, rfl, hg⟩, hF1, hJ1⟩
  simp -implicitDefEqProofs only [ev_lstOf, walk_rg1, ev_v, List.getElem?_cons_zero, List.getElem?_cons_succ, ret_bd, bd_bd, rg, if_true, wp_bd, wp_new, ranges_len, Int.sub_zero]
  refine ⟨by unfold line; omega, ?_⟩
  simp -implicitDefEqProofs only [wp_ret, wp_newT]
  refine ⟨by simp [line], ?_⟩
  simp -implicitDefEqProofs only [bindT, setAll, wp_ret, List.set_cons_zero, List.set_cons_succ, exs_cons, exs_nil, ex_ifs, tst_cmp, ev_cmp, ev_v, ev_k, List.getElem?_cons_zero, List.getElem?_cons_succ, ret_bd, bd_bd, lt_int, tr_bl, wp_bd]
  have g2 : (S1 ++ [O.lst (ranges 0 N)])[S1.length]? = some (.lst (ranges 0 N)) := get_last _ _
  have hJ2 := hJ1.ext (Ext.app S1 [.lst (ranges 0 N)])
  have hF2 := hF1.trans ((Ext.app S1 [.lst (ranges 0 N)]).frj j)
  have hne : S1.length ≠ j := by have := hF1.1; omega
  have hL : (ranges 0 N).length = N.toNat := by rw [ranges_len]; simp
  by_cases hq : (g : Int) < 3
  · rw [if_pos (by simpa using hq)]
    simp -implicitDefEqProofs only [ex_set, ev_call, evs_cons, evs_nil, ev_v, ev_k, ev_bin, add_int, List.getElem?_cons_zero, List.getElem?_cons_succ, ret_bd, bd_bd, wp_bd]
    refine wp_imp (take_wp ht (by omega) (by omega) hJ2 (by omega)) ?_
    rintro _ S3 ⟨⟨m, rfl, hm⟩, hF3, hJ3⟩
    simp -implicitDefEqProofs only [wp_ret, List.set_cons_zero, List.set_cons_succ, ex_ret, ret_bd, bd_bd, wp_bd]
    have g3 := hF3.get hne g2
    refine tupOf_wp (wp_imp (hc g3 (ints_ranges _ _) (by rw [hL]; unfold line; omega)) ?_)
    rintro _ S4 ⟨k, rfl, rfl, hl⟩
    refine ⟨_, k, rfl, get_last _ _, by have := hl.length_le; unfold line; omega, ?_⟩
    exact ⟨⟨k, rfl, hl⟩, (hF2.trans hF3).trans ((Ext.app _ _).frj j), (hJ3.more (by omega)).ext (Ext.app _ _)⟩
  · rw [if_neg (by simpa using hq)]
    simp -implicitDefEqProofs only [wp_ret, ex_ret, ret_bd, bd_bd, wp_bd]
    refine tupOf_wp (wp_imp (hdr g2 hne (ints_ranges _ _) (by omega) hJ2 (by omega) hg (by omega)) ?_)
    rintro _ S4 ⟨⟨k, rfl, hk, hlt, hl⟩, hF, hJ'⟩
    refine ⟨_, k, rfl, hk, by have := hl.length_le; unfold line; omega, ?_⟩
    exact ⟨⟨k, rfl, hl⟩, hF2.trans hF, hJ'.more (by omega)⟩
theorem zs_wp {t : Nat} (h : P.fns[f]? = some ⟨2, 6, cZs t cZsNe (cZsDr t)⟩) (ht : P.fns[t]? = some ⟨2, 3, cTake⟩) (hJ : Jar j K S) (hK : K + 1000 < 2 ^ 63) (hN : 1 ≤ N) (hN' : N ≤ 100) : wp (callP P (n + 2) f [.loc j, .int N]) (fun r S' => (∃ k, r = .tup k ∧ Ints k ∧ (k.length : Int) ≤ N) ∧ Frj j S S' ∧ Jar j (K + 102) S') X S := by
  refine wp_imp (zs_sub h ht hJ hK hN hN') ?_
  rintro _ S' ⟨⟨k, rfl, hk⟩, q⟩
  refine ⟨⟨k, rfl, fun x hx => ints_ranges 0 N x (hk.subset hx), ?_⟩, q⟩
  have := hk.length_le
  rw [ranges_len] at this
  omega
end
end Zp
end
section
/-! ZBent: what is bent. -/
namespace Zp
open Z
open PySem (Str PyData)
/-- lists that stand may be added, all else but one list stands as it stood -/
def Grow (j : Nat) (H H' : Hz) (S S' : Sto) : Prop := H.le H' ∧ (∀ a, a < S.length → H' a = H a) ∧ Agr H' S' ∧ Frj j S S'
theorem Grow.trans {j : Nat} {H H' H'' : Hz} {S S' S'' : Sto} (h : Grow j H H' S S') (g : Grow j H' H'' S' S'') : Grow j H H'' S S'' :=
  ⟨Hz.le_trans h.1 g.1, fun a ha => (g.2.1 a (Nat.lt_of_lt_of_le ha h.2.2.2.1)).trans (h.2.1 a ha), g.2.2.1, h.2.2.2.trans g.2.2.2⟩
theorem Grow.frj {j : Nat} {H : Hz} {S S' : Sto} (hj : H j = none) (hA : Agr H S) (h : Frj j S S') : Grow j H H S S' :=
  ⟨Hz.le_refl _, fun _ _ => rfl, h.agr hj hA, h⟩
theorem Grow.put {j : Nat} {H H' : Hz} {S S' : Sto} (h : Grow j H H' S S') {b : Nat} {l : List D} (hb : S.length ≤ b) (hn : H' b = none) (g : S'[b]? = some (.lst l)) : Grow j H (H'.put b l) S S' :=
  ⟨Hz.le_trans h.1 (Hz.le_put hn), fun a ha => by
    unfold Hz.put
    rw [if_neg (by omega)]
    exact h.2.1 a ha, h.2.2.1.put g, h.2.2.2⟩
/-- a new list that stands -/
theorem Grow.new {j : Nat} {H : Hz} {S : Sto} (hj : H j = none) (hA : Agr H S) (l : List D) : Grow j H (H.put S.length l) S (S ++ [.lst l]) :=
  (Grow.frj hj hA ((Ext.app S [.lst l]).frj j)).put (Nat.le_refl _) (hA.none (Nat.le_refl _)) (get_last _ _)
theorem Grow.none {j a : Nat} {H H' : Hz} {S S' : Sto} (h : Grow j H H' S S') (ha : a < S.length) (g : H a = none) : H' a = none := (h.2.1 a ha).trans g
theorem mem_cut {l : List D} {a b : Option Int} {x : D} (h : x ∈ cut l a b) : x ∈ l := List.mem_of_mem_drop (List.mem_of_mem_take h)
section
variable {P : Prog} {n f w c j K : Nat} {S : Sto} {X : Nat → D → Sto → Prop} {d e : D} {N : Int}
def cSeg (x : E) : E := .bin .add (.bin .add (.shi (.v 1) (.v 3)) (.tup [x])) (.slo (.v 1) (.bin .add (.v 3) (.k (.int 1))))
theorem seg_wp {C : Nat → List D → M D} {σ : Env} {l : List D} {v : Int} {x : E} {Q : D → Sto → Prop} (h1 : σ[1]? = some (some (.tup l))) (h3 : σ[3]? = some (some (.int v))) (hl : l.length ≤ 1000) (h : wp (ev P C x σ) (fun d S' => Q (.tup (cut l none (some v) ++ [d] ++ cut l (some (v + 1)) none)) S') X S) : wp (ev P C (cSeg x) σ) Q X S := by
  simp -implicitDefEqProofs only [cSeg, ev_bin, ev_shi, ev_slo, ev_v, ev_k, ev_tup, evs_cons, evs_nil, h1, h3, ret_bd, bd_bd, add_int, wp_bd]
  rw [show slice (.tup l) none (some v) = ret (.tup (cut l none (some v))) from rfl, wp_ret]
  refine wp_imp h fun d S' q => ?_
  rw [show slice (.tup l) (some (v + 1)) none = ret (.tup (cut l (some (v + 1)) none)) from rfl, wp_newT]
  refine ⟨by simp [line], ?_⟩
  rw [add_tup, wp_newT]
  have z1 := @cut_len l none (some v)
  have z2 := @cut_len l (some (v + 1)) none
  refine ⟨by simp [line]; omega, ?_⟩
  rw [wp_ret, add_tup, wp_newT]
  exact ⟨by simp [line]; omega, q⟩
def cBA1 : E := .bin .add (.shi (.v 1) (.v 3)) (.slo (.v 1) (.bin .add (.v 3) (.k (.int 1))))
def cBA2 : E := .bin .add (.shi (.v 1) (.bin .add (.v 3) (.k (.int 1)))) (.slo (.v 1) (.v 3))
def cBB0 : E := .bin .add (.shi (.v 1) (.v 3)) (.rev (.slo (.v 1) (.v 3)))
def cBB2 : E := .bin .add (.v 1) (.tup [.v 2])
/-- made of a tuple's items, and one more at most -/
def Of (l : List D) (o : D) (r : D) : Prop := ∃ k, r = .tup k ∧ k.length ≤ 2 * l.length + 1 ∧ ∀ x ∈ k, x ∈ l ∨ x = o
theorem ba1_eq {C : Nat → List D → M D} {σ : Env} {l : List D} {v : Int} {o : D} (h1 : σ[1]? = some (some (.tup l))) (h3 : σ[3]? = some (some (.int v))) (hl : l.length ≤ 1000) : ∃ r, Of l o r ∧ ev P C cBA1 σ = ret r := by
  have z1 := @cut_len l none (some v)
  have z2 := @cut_len l (some (v + 1)) none
  refine ⟨.tup (cut l none (some v) ++ cut l (some (v + 1)) none), ⟨_, rfl, by rw [List.length_append]; omega, fun x hx => .inl ?_⟩, ?_⟩
  · rcases List.mem_append.mp hx with q | q <;> exact mem_cut q
  · simp -implicitDefEqProofs only [cBA1, ev_bin, ev_shi, ev_slo, ev_v, ev_k, h1, h3, ret_bd, bd_bd, add_int]
    show newT _ = _
    exact newT_is _ (by rw [List.length_append]; unfold line; omega)
theorem ba2_eq {C : Nat → List D → M D} {σ : Env} {l : List D} {v : Int} {o : D} (h1 : σ[1]? = some (some (.tup l))) (h3 : σ[3]? = some (some (.int v))) (hl : l.length ≤ 1000) : ∃ r, Of l o r ∧ ev P C cBA2 σ = ret r := by
  have z1 := @cut_len l none (some (v + 1))
  have z2 := @cut_len l (some v) none
  refine ⟨.tup (cut l none (some (v + 1)) ++ cut l (some v) none), ⟨_, rfl, by rw [List.length_append]; omega, fun x hx => .inl ?_⟩, ?_⟩
  · rcases List.mem_append.mp hx with q | q <;> exact mem_cut q
  · simp -implicitDefEqProofs only [cBA2, ev_bin, ev_shi, ev_slo, ev_v, ev_k, h1, h3, ret_bd, bd_bd, add_int]
    show newT _ = _
    exact newT_is _ (by rw [List.length_append]; unfold line; omega)
theorem bb0_eq {C : Nat → List D → M D} {σ : Env} {l : List D} {v : Int} {o : D} (h1 : σ[1]? = some (some (.tup l))) (h3 : σ[3]? = some (some (.int v))) (hl : l.length ≤ 1000) : ∃ r, Of l o r ∧ ev P C cBB0 σ = ret r := by
  have z1 := @cut_len l none (some v)
  have z2 := @cut_len l (some v) none
  refine ⟨.tup (cut l none (some v) ++ (cut l (some v) none).reverse), ⟨_, rfl, by rw [List.length_append, List.length_reverse]; omega, fun x hx => .inl ?_⟩, ?_⟩
  · rcases List.mem_append.mp hx with q | q
    · exact mem_cut q
    · exact mem_cut (List.mem_reverse.mp q)
  · simp -implicitDefEqProofs only [cBB0, ev_bin, ev_shi, ev_slo, ev_rev, ev_v, ev_k, h1, h3, ret_bd, bd_bd]
    rw [show slice (.tup l) none (some v) = ret (.tup (cut l none (some v))) from rfl, ret_bd, show slice (.tup l) (some v) none = ret (.tup (cut l (some v) none)) from rfl, ret_bd]
    dsimp only
    rw [newT_is _ (by rw [List.length_reverse]; unfold line; omega), ret_bd, add_tup]
    exact newT_is _ (by rw [List.length_append, List.length_reverse]; unfold line; omega)
theorem bb2_eq {C : Nat → List D → M D} {σ : Env} {l : List D} {o : D} (h1 : σ[1]? = some (some (.tup l))) (h2 : σ[2]? = some (some o)) (hl : l.length ≤ 1000) : ∃ r, Of l o r ∧ ev P C cBB2 σ = ret r := by
  refine ⟨.tup (l ++ [o]), ⟨_, rfl, by rw [List.length_append]; simp; omega, fun x hx => ?_⟩, ?_⟩
  · rcases List.mem_append.mp hx with q | q
    · exact .inl q
    · exact .inr (by simpa using q)
  · simp -implicitDefEqProofs only [cBB2, ev_bin, ev_tup, evs_cons, evs_nil, ev_v, h1, h2, ret_bd, bd_bd]
    rw [newT_is _ (by simp [line]), ret_bd, add_tup]
    exact newT_is _ (by rw [List.length_append]; simp [line]; omega)
end
end Zp
end
section
/-! ZBenu: what is bent, whole. -/
namespace Zp
open Z
open PySem (Str PyData)
section
variable {P : Prog} {n f w c j K : Nat} {S : Sto} {X : Nat → D → Sto → Prop} {d e : D} {N : Int}
def cOdds (z fm : Str) : E := .lst [(.k .non), (.k (.str z)), (.k (.bl true)), (.k (.bl false)), (.neg (.k (.int 1))), (.k (.int 0)), (.bin .pow (.k (.int 10)) (.k (.int 25))), (.tup []), (.tup [(.k (.int 0))]), (.lst [(.k (.int 0))]), (.k (.str fm))]
theorem odds_wp {C : Nat → List D → M D} {σ : Env} {z fm : Str} {Q : D → Sto → Prop} (q : Q (.loc (S.length + 1)) (S ++ [.lst [.int 0]] ++ [.lst [.non, .str z, .bl true, .bl false, .int (-1), .int 0, .int (10 ^ 25), .tup [], .tup [.int 0], .loc S.length, .str fm]])) : wp (ev P C (cOdds z fm) σ) Q X S := by
  have hp : binop .pow (.int 10) (.int 25) = ret (.int (10 ^ 25)) := pow_int (by simp)
  simp -implicitDefEqProofs only [cOdds, ev_lst, evs_cons, evs_nil, ev_k, ev_neg, ev_bin, ev_tup, hp, ret_bd, bd_bd, wp_bd]
  rw [wp_newT]
  refine ⟨by simp [line], ?_⟩
  rw [wp_newT]
  refine ⟨by simp [line], ?_⟩
  rw [wp_new]
  refine ⟨by simp [line], ?_⟩
  rw [wp_new]
  refine ⟨by simp [line], ?_⟩
  rw [show (S ++ [O.lst [.int 0]]).length = S.length + 1 by simp]
  exact q
theorem odds_lv {H : Hz} {z fm : Str} (hz : PyData.strOk z = true) (hf : PyData.strOk fm = true) {a : Nat} (ha : H a = some [.int 0]) {r : D} (h : r ∈ [D.non, .str z, .bl true, .bl false, .int (-1), .int 0, .int (10 ^ 25), .tup [], .tup [.int 0], .loc a, .str fm]) : Lv H 1 1 r := by
  simp only [List.mem_cons, List.not_mem_nil, or_false] at h
  rcases h with rfl | rfl | rfl | rfl | rfl | rfl | rfl | rfl | rfl | rfl | rfl
  · exact Lv.flat rfl
  · exact Lv.flat hz
  · exact Lv.flat rfl
  · exact Lv.flat rfl
  · exact Lv.flat rfl
  · exact Lv.flat rfl
  · exact Lv.flat rfl
  · exact Lv.tup (by simp) fun x hx => nomatch hx
  · refine Lv.tup (by simp) fun x hx => ?_
    cases List.mem_singleton.mp hx
    exact Lv.flat rfl
  · refine Lv.lst ha (by simp) fun x hx => ?_
    cases List.mem_singleton.mp hx
    exact Lv.flat rfl
  · exact Lv.flat hf
def cBentT (a0 a1 a2 b0 b2 : E) : List Z.S := [.set 5 (.lst [a0, a1, a2]), .expr (.ext (.v 5) (.lst [b0, (.lstOf (.val (.v 1))), b2])), .ret (.ix (.v 5) (.bin .sub (.v 4) (.k (.int 3))))]
def cBent (f o t : Nat) (od a0 a1 a2 b0 b2 rc : E) : List Z.S := .set 2 (.call o [(.v 0), od]) :: .ifs (.or (.nt (.p1 .isTup (.v 1))) (.cmp .eq (.v 1) (.tup []))) [.ret (.v 2)] [] :: .par 3 4 (.call t [(.v 0), (.p1 .len (.v 1))]) (.call t [(.v 0), (.k (.int 9))]) :: .ifs (.cmp .lt (.v 4) (.k (.int 3))) [.ret rc] [] :: cBentT a0 a1 a2 b0 b2
def cBentF (f o t : Nat) (z fm : Str) : List Z.S := cBent f o t (cOdds z fm) (cSeg (.v 2)) cBA1 cBA2 cBB0 cBB2 (cSeg (.call f [(.v 0), (.ix (.v 1) (.v 3))]))
/-- what stands when a bent one is told -/
def BQ (j K c k : Nat) (H : Hz) (S : Sto) (r : D) (S' : Sto) : Prop := ∃ H', Grow j H H' S S' ∧ Jar j K S' ∧ Lv H' (2 * c + 2) (k + 1) r
theorem Of.lv {H : Hz} {c k : Nat} {l : List D} {o r : D} (h : Of l o r) (hl : l.length ≤ c) (hi : ∀ x ∈ l, Lv H c k x) (ho : Lv H (2 * c + 2) (k + 1) o) : Lv H (2 * c + 2) (k + 2) r := by
  obtain ⟨ks, rfl, hk, g⟩ := h
  refine Lv.tup (by omega) fun x hx => ?_
  rcases g x hx with q | rfl
  · exact (hi x q).mono (Hz.le_refl _) (by omega) (by omega)
  · exact ho
def bareD : D → Bool
  | .tup l => l.isEmpty
  | _ => true
theorem isT_eq_nil {C : Nat → List D → M D} {σ : Env} (h1 : σ[1]? = some (some d)) : tst P C (.or (.nt (.p1 .isTup (.v 1))) (.cmp .eq (.v 1) (.tup []))) σ = ret (bareD d) := by
  simp -implicitDefEqProofs only [tst_or, tst_nt, tst_p1, ev_p1, ev_v, h1, ret_bd, bd_bd, isT, tr_bl]
  cases d with
  | tup l =>
    simp -implicitDefEqProofs only [istup, Bool.not_true, Bool.false_eq_true, if_false, tst_cmp, ev_cmp, ev_v, ev_tup, evs_nil, h1, ret_bd, bd_bd]
    rw [newT_is _ (by simp [line]), ret_bd]
    have e : cmpB .eq (.tup l) (.tup []) = ret l.isEmpty := by
      show (if (l.isEmpty || true) = true then ret (l.isEmpty && true) else _) = _
      rw [Bool.or_true, if_pos rfl, Bool.and_true]
    rw [e, ret_bd, tr_bl]
    rfl
  | _ => rfl
/-- the thing that stands in the place of another -/
theorem odd_wp {o t : Nat} {z fm : Str} (ho : P.fns[o]? = some ⟨2, 2, cOne t⟩) (ht : P.fns[t]? = some ⟨2, 3, cTake⟩) (hz : PyData.strOk z = true) (hfm : PyData.strOk fm = true) {H : Hz} (hA : Agr H S) (hj : H j = none) (hJ : Jar j K S) (hK : K < 2 ^ 63) {σ : Env} (h0 : σ[0]? = some (some (.loc j))) : wp (ev P (callP P (n + 2)) (.call o [(.v 0), cOdds z fm]) σ) (fun r S' => ∃ H', Grow j H H' S S' ∧ Jar j (K + 1) S' ∧ Lv H' 1 1 r) X S := by
  have hjl : j < S.length := by
    obtain ⟨_, _, _, hS, _⟩ := hJ
    exact (List.getElem?_eq_some_iff.mp hS).1
  have hod := fun Q X => @odds_wp P S X (callP P (n + 2)) σ z fm Q
  generalize cOdds z fm = od at *
  simp -implicitDefEqProofs only [ev_call, evs_cons, evs_nil, ev_v, h0, ret_bd, bd_bd, wp_bd]
  refine hod _ _ ?_
  have e2 : (S ++ [O.lst [.int 0]]).length = S.length + 1 := by simp
  have hg := get_last (S ++ [O.lst [.int 0]]) (O.lst [.non, .str z, .bl true, .bl false, .int (-1), .int 0, .int (10 ^ 25), .tup [], .tup [.int 0], .loc S.length, .str fm])
  rw [e2] at hg
  have E1 : Ext S (S ++ [O.lst [.int 0]] ++ [O.lst [.non, .str z, .bl true, .bl false, .int (-1), .int 0, .int (10 ^ 25), .tup [], .tup [.int 0], .loc S.length, .str fm]]) := (Ext.app _ _).trans (Ext.app _ _)
  have hlen : (S ++ [O.lst [.int 0]] ++ [O.lst [.non, .str z, .bl true, .bl false, .int (-1), .int 0, .int (10 ^ 25), .tup [], .tup [.int 0], .loc S.length, .str fm]])[S.length]? = some (.lst [.int 0]) := (Ext.app _ _).get (get_last S (.lst [.int 0]))
  have hin : ∀ {H : Hz} {r : D}, H S.length = some [.int 0] → r ∈ [D.non, .str z, .bl true, .bl false, .int (-1), .int 0, .int (10 ^ 25), .tup [], .tup [.int 0], .loc S.length, .str fm] → Lv H 1 1 r := fun ha h => odds_lv hz hfm ha h
  have hl0 : 0 < [D.non, .str z, .bl true, .bl false, .int (-1), .int 0, .int (10 ^ 25), .tup [], .tup [.int 0], .loc S.length, .str fm].length := by simp
  have hl1 : [D.non, .str z, .bl true, .bl false, .int (-1), .int 0, .int (10 ^ 25), .tup [], .tup [.int 0], .loc S.length, .str fm].length ≤ 1000 := by simp
  generalize [D.non, .str z, .bl true, .bl false, .int (-1), .int 0, .int (10 ^ 25), .tup [], .tup [.int 0], .loc S.length, .str fm] = l at *
  generalize hS2 : S ++ [O.lst [.int 0]] ++ [O.lst l] = S2 at *
  refine wp_imp (one_wp ho ht hg hl0 hl1 (by omega) (hJ.ext E1) (by omega)) ?_
  rintro r S' ⟨hr, hF, hJ'⟩
  have G : Grow j H H S S2 := Grow.frj hj hA (E1.frj j)
  have G2 := G.put (b := S.length) (l := [.int 0]) (Nat.le_refl _) (hA.none (Nat.le_refl _)) hlen
  have hj2 : (H.put S.length [.int 0]) j = none := by
    unfold Hz.put
    rw [if_neg (by omega)]
    exact hj
  exact ⟨_, G2.trans (Grow.frj hj2 G2.2.2.1 hF), hJ', hin Hz.put_self hr⟩
theorem ba0_eq {C : Nat → List D → M D} {σ : Env} {l : List D} {v : Int} {o : D} (h1 : σ[1]? = some (some (.tup l))) (h2 : σ[2]? = some (some o)) (h3 : σ[3]? = some (some (.int v))) (hl : l.length ≤ 1000) : ∃ r, Of l o r ∧ ev P C (cSeg (.v 2)) σ = ret r := by
  have z1 := @cut_len l none (some v)
  have z2 := @cut_len l (some (v + 1)) none
  refine ⟨.tup (cut l none (some v) ++ [o] ++ cut l (some (v + 1)) none), ⟨_, rfl, by simp only [List.length_append, List.length_singleton]; omega, fun x hx => ?_⟩, ?_⟩
  · simp only [List.mem_append, List.mem_singleton] at hx
    rcases hx with (q | q) | q
    · exact .inl (mem_cut q)
    · exact .inr q
    · exact .inl (mem_cut q)
  · simp -implicitDefEqProofs only [cSeg, ev_bin, ev_shi, ev_slo, ev_v, ev_k, ev_tup, evs_cons, evs_nil, h1, h2, h3, ret_bd, bd_bd, add_int]
    rw [show slice (.tup l) none (some v) = ret (.tup (cut l none (some v))) from rfl, ret_bd, show slice (.tup l) (some (v + 1)) none = ret (.tup (cut l (some (v + 1)) none)) from rfl, newT_is _ (by simp [line]), ret_bd, add_tup, newT_is _ (by simp [line]; omega), ret_bd, ret_bd, add_tup]
    exact newT_is _ (by simp [line]; omega)
/-- one of the six ways -/
theorem bentT_wp {C : Nat → List D → M D} {l : List D} {v g : Nat} {o : D} (hl : l.length ≤ 1000) (hg : 3 ≤ g) (hg' : g < 9) {Q : F → Sto → Prop} (q1 : ∀ r S', Ext S S' → Of l o r → Q (.ret r) S') (q2 : ∀ S' a, Ext S S' → S.length ≤ a → S'[a]? = some (.lst l) → Q (.ret (.loc a)) S') : wp (exs P C (cBentT (cSeg (.v 2)) cBA1 cBA2 cBB0 cBB2) [some (.loc j), some (.tup l), some o, some (.int v), some (.int g), none]) Q X S := by
  have e0 := fun σ h1 h2 h3 => @ba0_eq P C σ l v o h1 h2 h3 hl
  have e1 := fun σ h1 h3 => @ba1_eq P C σ l v o h1 h3 hl
  have e2 := fun σ h1 h3 => @ba2_eq P C σ l v o h1 h3 hl
  have e3 := fun σ h1 h3 => @bb0_eq P C σ l v o h1 h3 hl
  have e4 := fun σ h1 h2 => @bb2_eq P C σ l o h1 h2 hl
  generalize cSeg (.v 2) = c0 at *
  generalize cBA1 = c1 at *
  generalize cBA2 = c2 at *
  generalize cBB0 = c3 at *
  generalize cBB2 = c4 at *
  obtain ⟨r0, o0, e0⟩ := e0 [some (.loc j), some (.tup l), some o, some (.int v), some (.int g), none] rfl rfl rfl
  obtain ⟨r1, o1, e1⟩ := e1 [some (.loc j), some (.tup l), some o, some (.int v), some (.int g), none] rfl rfl
  obtain ⟨r2, o2, e2⟩ := e2 [some (.loc j), some (.tup l), some o, some (.int v), some (.int g), none] rfl rfl
  simp -implicitDefEqProofs only [cBentT, exs_cons, ex_set, ev_lst, evs_cons, evs_nil, e0, e1, e2, ret_bd, bd_bd, wp_bd, wp_new]
  refine ⟨by simp [line], ?_⟩
  obtain ⟨r3, o3, e3⟩ := e3 [some (.loc j), some (.tup l), some o, some (.int v), some (.int g), some (.loc S.length)] rfl rfl
  obtain ⟨r4, o4, e4⟩ := e4 [some (.loc j), some (.tup l), some o, some (.int v), some (.int g), some (.loc S.length)] rfl rfl
  simp -implicitDefEqProofs only [wp_ret, List.set_cons_zero, List.set_cons_succ, exs_cons, exs_nil, ex_expr, ex_ret, ev_ext, ev_ix, ev_bin, ev_v, ev_k, ev_lst, ev_lstOf, walk_val, wo_tup, sub_int, evs_cons, evs_nil, e3, e4, List.getElem?_cons_zero, List.getElem?_cons_succ, ret_bd, bd_bd, wp_bd, wp_new]
  refine ⟨by unfold line; omega, by simp [line], ?_⟩
  simp -implicitDefEqProofs only [wp_getL, wp_putL]
  have g1 : (S ++ [O.lst [r0, r1, r2]] ++ [O.lst l])[S.length]? = some (.lst [r0, r1, r2]) := (Ext.app _ _).get (get_last _ _)
  have g2 : (S ++ [O.lst [r0, r1, r2]] ++ [O.lst l])[S.length + 1]? = some (.lst l) := by
    have z := get_last (S ++ [O.lst [r0, r1, r2]]) (O.lst l)
    rw [List.length_append, List.length_singleton] at z
    exact z
  have E1 : Ext S (S ++ [O.lst [r0, r1, r2]] ++ [O.lst l]) := (Ext.app _ _).trans (Ext.app _ _)
  have el : (S ++ [O.lst [r0, r1, r2]]).length = S.length + 1 := by simp
  rw [el]
  generalize S ++ [O.lst [r0, r1, r2]] ++ [O.lst l] = S1 at *
  have g3 := (Ext.app S1 [O.lst [r3, .loc (S.length + 1), r4]]).get g1
  have g4 := (Ext.app S1 [O.lst [r3, .loc (S.length + 1), r4]]).get g2
  have E2 := E1.trans (Ext.app S1 [O.lst [r3, .loc (S.length + 1), r4]])
  refine ⟨_, g3, _, get_last _ _, ⟨_, g3⟩, by simp [line], ?_⟩
  generalize S1 ++ [O.lst [r3, .loc (S.length + 1), r4]] = S2 at *
  have g5 := get_set (o := .lst ([r0, r1, r2] ++ [r3, .loc (S.length + 1), r4])) g3
  have g6 : (S2.set S.length (.lst ([r0, r1, r2] ++ [r3, .loc (S.length + 1), r4])))[S.length + 1]? = some (.lst l) := (get_set_ne (by omega)).trans g4
  have E3 := E2.set (b := S.length) (o := .lst ([r0, r1, r2] ++ [r3, .loc (S.length + 1), r4])) (Nat.le_refl _)
  generalize S2.set S.length (.lst ([r0, r1, r2] ++ [r3, .loc (S.length + 1), r4])) = S3 at *
  simp -implicitDefEqProofs only [wp_ret, exs_cons, ex_ret, ev_ix, ev_bin, ev_v, ev_k, sub_int, List.getElem?_cons_zero, List.getElem?_cons_succ, ret_bd, bd_bd, wp_bd, ix_loc, wp_getL]
  refine ⟨_, g5, ?_⟩
  have hgg : g = 3 ∨ g = 4 ∨ g = 5 ∨ g = 6 ∨ g = 7 ∨ g = 8 := by omega
  rcases hgg with rfl | rfl | rfl | rfl | rfl | rfl
  · exact wp_ret.mpr ((q1 _ _ E3 o0))
  · exact wp_ret.mpr ((q1 _ _ E3 o1))
  · exact wp_ret.mpr ((q1 _ _ E3 o2))
  · exact wp_ret.mpr ((q1 _ _ E3 o3))
  · exact wp_ret.mpr ((q2 _ _ E3 (by omega) g6))
  · exact wp_ret.mpr ((q1 _ _ E3 o4))
theorem bent_wp {o t : Nat} {z fm : Str} (h : P.fns[f]? = some ⟨2, 6, cBentF f o t z fm⟩) (ho : P.fns[o]? = some ⟨2, 2, cOne t⟩) (ht : P.fns[t]? = some ⟨2, 3, cTake⟩) (hz : PyData.strOk z = true) (hfm : PyData.strOk fm = true) : ∀ (k c : Nat) (d : D) (H : Hz) (S : Sto) (K : Nat) (X : Nat → D → Sto → Prop), Lv H c k d → c ≤ 1000 → Agr H S → H j = none → Jar j K S → K + 3 * (k + 1) < 2 ^ 63 → wp (callP P (n + k + 3) f [.loc j, d]) (BQ j (K + 3 * (k + 1)) c k H S) X S := by
  intro k
  induction k with
  | zero =>
    intro c d H S K X hd hc hA hj hJ hK
    rw [call_eq h rfl]
    have hod := fun σ X h0 => @odd_wp P n j K S X o t z fm ho ht hz hfm H hA hj hJ (by omega) σ h0
    unfold cBentF cBent
    rw [exs_cons, ex_set]
    simp -implicitDefEqProofs only [bd_bd, wp_bd]
    refine wp_imp (hod _ _ rfl) ?_
    rintro r S' ⟨H', hG, hJ', hr⟩
    rw [wp_ret]
    dsimp only
    have ht : tst P (callP P (n + 0 + 2)) (.or (.nt (.p1 .isTup (.v 1))) (.cmp .eq (.v 1) (.tup []))) [some (.loc j), some d, some r, none, none, none] = ret true := by
      rw [isT_eq_nil (d := d) rfl]
      cases d <;> first | rfl | cases hd
    simp -implicitDefEqProofs only [List.map_cons, List.map_nil, List.cons_append, List.nil_append, List.replicate, List.set_cons_zero, List.set_cons_succ, exs_cons, ex_ifs, ht, ret_bd, bd_bd, if_true, ex_ret, ev_v, List.getElem?_cons_zero, List.getElem?_cons_succ, wp_ret]
    exact ⟨H', hG, hJ'.more (by omega), hr.mono (Hz.le_refl _) (by omega) (by omega)⟩
  | succ k ih =>
    intro c d H S K X hd hc hA hj hJ hK
    rw [call_eq h rfl]
    have hod := fun σ X h0 => @odd_wp P (n + (k + 1)) j K S X o t z fm ho ht hz hfm H hA hj hJ (by omega) σ h0
    unfold cBentF cBent
    generalize cOdds z fm = od at *
    have hT := fun (C : Nat → List D → M D) (S : Sto) (X : Nat → D → Sto → Prop) l v g o hl hg hg' Q => @bentT_wp P j S X C l v g o hl hg hg' Q
    generalize cBentT (cSeg (.v 2)) cBA1 cBA2 cBB0 cBB2 = ct at *
    rw [exs_cons, ex_set]
    simp -implicitDefEqProofs only [bd_bd, wp_bd]
    refine wp_imp (hod _ _ rfl) ?_
    rintro r S1 ⟨H1, hG1, hJ1, hr⟩
    rw [wp_ret]
    dsimp only
    simp -implicitDefEqProofs only [List.map_cons, List.map_nil, List.cons_append, List.nil_append, List.replicate, List.set_cons_zero, List.set_cons_succ]
    have hjl : j < S.length := by
      obtain ⟨_, _, _, hS, _⟩ := hJ
      exact (List.getElem?_eq_some_iff.mp hS).1
    rw [exs_cons, ex_ifs, isT_eq_nil (d := d) rfl]
    have odd : wp (Z.ret r) (BQ j (K + 3 * (k + 1 + 1)) c (k + 1) H S) X S1 := by
      rw [wp_ret]
      exact ⟨H1, hG1, hJ1.more (by omega), hr.mono (Hz.le_refl _) (by omega) (by omega)⟩
    by_cases hT : ∃ l, d = .tup l ∧ l ≠ []
    · obtain ⟨l, rfl, hne⟩ := hT
      have hl : l.length ≤ c ∧ ∀ x ∈ l, Lv H c k x := by
        rcases hd with q | ⟨l', q, hl, g⟩ | ⟨_, _, q, _⟩
        · cases q
        · cases q
          exact ⟨hl, g⟩
        · cases q
      have hpos : 0 < l.length := List.length_pos_iff.mpr hne
      have hem : bareD (.tup l) = false := by simpa [bareD] using hne
      simp -implicitDefEqProofs only [hem, ret_bd, bd_bd, Bool.false_eq_true, if_false, exs_nil, exs_cons, ex_par, ev_call, evs_cons, evs_nil, ev_v, ev_k, ev_p1, len_tup, List.getElem?_cons_zero, List.getElem?_cons_succ, wp_bd]
      refine wp_imp (take_wp ht (by omega) (by omega) hJ1 (by omega)) ?_
      rintro _ S2 ⟨⟨v, rfl, hv⟩, hF2, hJ2⟩
      refine wp_imp (take_wp ht (by omega) (by omega) hJ2 (by omega)) ?_
      rintro _ S3 ⟨⟨g, rfl, hg⟩, hF3, hJ3⟩
      have hj1 := hG1.none hjl hj
      have hG3 := hG1.trans (Grow.frj hj1 hG1.2.2.1 (hF2.trans hF3))
      simp -implicitDefEqProofs only [wp_ret, List.set_cons_zero, List.set_cons_succ, exs_nil, exs_cons, ex_ifs, tst_cmp, ev_cmp, ev_v, ev_k, lt_int, List.getElem?_cons_zero, List.getElem?_cons_succ, ret_bd, bd_bd, tr_bl, wp_bd]
      have hv' : v < l.length := by omega
      by_cases hq : (g : Int) < 3
      · rw [if_pos (by simpa using hq)]
        simp -implicitDefEqProofs only [ex_ret, bd_bd, wp_bd]
        refine seg_wp rfl rfl (by omega) ?_
        simp -implicitDefEqProofs only [ev_call, evs_cons, evs_nil, ev_v, ev_ix, List.getElem?_cons_zero, List.getElem?_cons_succ, ret_bd, bd_bd]
        rw [ix_tup_at (List.getElem?_eq_getElem hv'), ret_bd]
        have hx : Lv H1 c k l[v] := (hl.2 _ (List.getElem_mem hv')).mono hG1.1 (Nat.le_refl _) (Nat.le_refl _)
        refine wp_imp (ih c l[v] H1 S3 (K + 3) X hx hc hG3.2.2.1 hj1 (hJ3.more (by omega)) (by omega)) ?_
        rintro r' S4 ⟨H4, hG4, hJ4, hr4⟩
        simp -implicitDefEqProofs only [ret_bd, wp_ret]
        refine ⟨H4, hG3.trans hG4, hJ4.more (by omega), Lv.tup ?_ fun x hx => ?_⟩
        · have z1 := @cut_len l none (some v)
          have z2 := @cut_len l (some (v + 1)) none
          simp only [List.length_append, List.length_singleton]
          omega
        · simp only [List.mem_append, List.mem_singleton] at hx
          rcases hx with (q | q) | q
          · exact (hl.2 _ (mem_cut q)).mono (Hz.le_trans hG1.1 hG4.1) (by omega) (by omega)
          · rw [q]
            exact hr4
          · exact (hl.2 _ (mem_cut q)).mono (Hz.le_trans hG1.1 hG4.1) (by omega) (by omega)
      · rw [if_neg (by simpa using hq)]
        have lv : ∀ {H' : Hz} {r' : D}, H1.le H' → Of l r r' → Lv H' (2 * c + 2) (k + 2) r' := fun hh ho => ho.lv hl.1 (fun x hx => (hl.2 x hx).mono (Hz.le_trans hG1.1 hh) (Nat.le_refl _) (Nat.le_refl _)) (hr.mono hh (by omega) (by omega))
        rw [wp_ret]
        dsimp only
        refine hT _ S3 X l v g r (by omega) (by omega) (by omega) _ ?_ ?_
        · rintro r' S' hE hO
          rw [wp_ret]
          exact ⟨H1, hG3.trans (Grow.frj hj1 hG3.2.2.1 (hE.frj j)), (hJ3.more (by omega)).ext hE, lv (Hz.le_refl _) hO⟩
        · rintro S' a hE ha hg
          rw [wp_ret]
          have hn : H1 a = none := hG3.2.2.1.none ha
          have hG5 := (Grow.frj hj1 hG3.2.2.1 (hE.frj j)).put ha hn hg
          refine ⟨_, hG3.trans hG5, (hJ3.more (by omega)).ext hE, Lv.lst Hz.put_self (by omega) fun x hx => ?_⟩
          exact (hl.2 x hx).mono (Hz.le_trans hG1.1 hG5.1) (by omega) (by omega)
    · have e : bareD d = true := by
        cases d <;> try rfl
        rename_i l
        cases l
        · rfl
        · exact absurd ⟨_, rfl, by simp⟩ hT
      rw [e]
      simp -implicitDefEqProofs only [ret_bd, bd_bd, if_true, exs_cons, ex_ret, ev_v, List.getElem?_cons_zero, List.getElem?_cons_succ]
      exact wp_ret.mpr odd
end
end Zp
end
section
/-! ZThg: the things of standings and heads. -/
namespace Zp
open Z
open PySem (Str PyData)
theorem Agr.set {H : Hz} {S : Sto} (h : Agr H S) {b : Nat} {o : O} (hb : H b = Option.none) : Agr H (S.set b o) := fun a l z => by
  by_cases q : b = a
  · rw [← q, hb] at z
    cases z
  · rw [get_set_ne q]
    exact h a l z
theorem Jar.set {j K : Nat} {S : Sto} (h : Jar j K S) {b : Nat} {o : O} (hb : b ≠ j) : Jar j K (S.set b o) := by
  obtain ⟨g, s, k, a, r⟩ := h
  exact ⟨g, s, k, (get_set_ne hb).trans a, r⟩
theorem Jar.lt {j K : Nat} {S : Sto} (h : Jar j K S) : j < S.length := by
  obtain ⟨_, _, _, hS, _⟩ := h
  exact (List.getElem?_eq_some_iff.mp hS).1
section
variable {P : Prog} {C : Nat → List D → M D} {σ : Env} {p : D → Prop} {S : Sto} {X : Nat → D → Sto → Prop}
/-- a meaning that is a tuple of such things -/
def Tp (P : Prog) (C : Nat → List D → M D) (σ : Env) (p : D → Prop) (e : E) (m : Nat) : Prop := ∃ k, ev P C e σ = ret (.tup k) ∧ k.length ≤ m ∧ ∀ x ∈ k, p x
theorem Tp.v {i m : Nat} {l : List D} (h : σ[i]? = some (some (.tup l))) (hl : l.length ≤ m) (hp : ∀ x ∈ l, p x) : Tp P C σ p (.v i) m := ⟨l, by rw [ev_v, h], hl, hp⟩
theorem Tp.add {a b : E} {m n : Nat} (h : Tp P C σ p a m) (g : Tp P C σ p b n) (hm : m + n ≤ line) : Tp P C σ p (.bin .add a b) (m + n) := by
  obtain ⟨k, ek, lk, pk⟩ := h
  obtain ⟨l, el, ll, pl⟩ := g
  refine ⟨k ++ l, ?_, by rw [List.length_append]; omega, fun x hx => ?_⟩
  · rw [ev_bin, ek, ret_bd, el, ret_bd, add_tup, newT_is _ (by rw [List.length_append]; omega)]
  · rcases List.mem_append.mp hx with q | q
    · exact pk x q
    · exact pl x q
theorem Tp.shi {i m : Nat} {l : List D} {e : E} {v : Int} (h : σ[i]? = some (some (.tup l))) (he : ev P C e σ = ret (.int v)) (hl : l.length ≤ m) (hp : ∀ x ∈ l, p x) : Tp P C σ p (.shi (.v i) e) m := by
  refine ⟨cut l none (some v), ?_, Nat.le_trans cut_len hl, fun x hx => hp x (mem_cut hx)⟩
  rw [ev_shi, ev_v, h]
  dsimp only
  rw [ret_bd, he, ret_bd]
  rfl
theorem Tp.slo {i m : Nat} {l : List D} {e : E} {v : Int} (h : σ[i]? = some (some (.tup l))) (he : ev P C e σ = ret (.int v)) (hl : l.length ≤ m) (hp : ∀ x ∈ l, p x) : Tp P C σ p (.slo (.v i) e) m := by
  refine ⟨cut l (some v) none, ?_, Nat.le_trans cut_len hl, fun x hx => hp x (mem_cut hx)⟩
  rw [ev_slo, ev_v, h]
  dsimp only
  rw [ret_bd, he, ret_bd]
  rfl
theorem Tp.rev {e : E} {m : Nat} (h : Tp P C σ p e m) (hm : m ≤ line) : Tp P C σ p (.rev e) m := by
  obtain ⟨k, ek, lk, pk⟩ := h
  refine ⟨k.reverse, ?_, by rw [List.length_reverse]; omega, fun x hx => pk x (List.mem_reverse.mp hx)⟩
  rw [ev_rev, ek, ret_bd]
  dsimp only
  rw [newT_is _ (by rw [List.length_reverse]; omega)]
theorem Tp.tup {es : List E} {ys : List D} (h : evs P C es σ = ret ys) (hl : ys.length ≤ line) (hp : ∀ x ∈ ys, p x) : Tp P C σ p (.tup es) ys.length := by
  refine ⟨ys, ?_, Nat.le_refl _, hp⟩
  rw [ev_tup, h, ret_bd, newT_is _ hl]
theorem ev_vi {i : Nat} {v : D} (h : σ[i]? = some (some v)) : ev P C (.v i) σ = ret v := by rw [ev_v, h]
theorem ev_plus {e : E} {a b : Int} (h : ev P C e σ = ret (.int a)) : ev P C (.bin .add e (.k (.int b))) σ = ret (.int (a + b)) := by
  rw [ev_bin, h, ret_bd, ev_k, ret_bd, add_int]
theorem ev_neg1 {b : Int} : ev P C (.neg (.k (.int b))) σ = ret (.int (-b)) := rfl
/-- a list grows by what stands in a display -/
theorem ext_wp {i b : Nat} {es : List E} {Q : Sto → Prop} (hi : σ[i]? = some (some (.loc b))) (h : wp (evs P C es σ) (fun ys S' => ∃ xs, S'[b]? = some (.lst xs) ∧ xs.length + ys.length ≤ line ∧ Q ((S' ++ [O.lst ys]).set b (O.lst (xs ++ ys)))) X S) : wp (ev P C (.ext (.v i) (.lst es)) σ) (fun _ S' => Q S') X S := by
  rw [ev_ext, ev_v, hi]
  dsimp only
  rw [ret_bd]
  dsimp only
  rw [ev_lst, bd_bd, wp_bd]
  refine wp_imp h ?_
  rintro ys S' ⟨xs, g, hl, q⟩
  rw [wp_bd, wp_new]
  refine ⟨by omega, ?_⟩
  dsimp only
  have g2 := (Ext.app S' [O.lst ys]).get g
  rw [wp_bd, wp_getL]
  refine ⟨xs, g2, ?_⟩
  rw [wp_bd, wp_getL]
  refine ⟨ys, get_last _ _, ?_⟩
  rw [wp_bd, wp_putL]
  refine ⟨⟨_, g2⟩, by rw [List.length_append]; exact hl, ?_⟩
  rw [wp_ret]
  exact q
theorem app_wp {i b : Nat} {e : E} {Q : Sto → Prop} (hi : σ[i]? = some (some (.loc b))) (h : wp (ev P C e σ) (fun y S' => ∃ xs, S'[b]? = some (.lst xs) ∧ xs.length + 1 ≤ line ∧ Q (S'.set b (.lst (xs ++ [y])))) X S) : wp (ev P C (.app (.v i) e) σ) (fun _ S' => Q S') X S := by
  rw [ev_app, ev_v, hi]
  dsimp only
  rw [ret_bd]
  dsimp only
  rw [wp_bd]
  refine wp_imp h ?_
  rintro y S' ⟨xs, g, hl, q⟩
  rw [wp_bd, wp_getL]
  refine ⟨xs, g, ?_⟩
  rw [wp_bd, wp_putL]
  refine ⟨⟨_, g⟩, by rw [List.length_append]; exact hl, ?_⟩
  rw [wp_ret]
  exact q
end
section
variable {P : Prog} {n f w c j K : Nat} {S : Sto} {X : Nat → D → Sto → Prop} {d e : D} {N : Int}
def cThA (one : Str) : List E := [(.v 1), (.lstOf (.val (.v 1))), (.k .non), (.k (.int 0)), (.k (.str one)), (.k (.bl true)), (.tup [(.v 1)]), (.tup []), (.rev (.v 1)), (.slo (.v 1) (.k (.int 1))), (.shi (.v 1) (.neg (.k (.int 1))))]
def cThB : List E := [(.bin .add (.v 1) (.slo (.v 1) (.neg (.k (.int 1))))), (.bin .add (.shi (.v 1) (.k (.int 1))) (.v 1)), (.bin .add (.v 1) (.v 1))]
def cThC : List E := [(.bin .add (.bin .add (.shi (.v 1) (.v 5)) (.tup [(.v 4)])) (.slo (.v 1) (.v 5))), (.bin .add (.bin .add (.shi (.v 1) (.v 5)) (.tup [(.v 4)])) (.slo (.v 1) (.bin .add (.v 5) (.k (.int 1)))))]
def cThD : E := .bin .add (.bin .add (.shi (.v 1) (.v 5)) (.tup [(.v 4), (.k .non)])) (.slo (.v 1) (.bin .add (.v 5) (.k (.int 2))))
def cThL (t : Nat) (tc : List E) (td : E) : List Z.S := [.set 5 (.call t [(.v 0), (.bin .add (.p1 .len (.v 1)) (.k (.int 1)))]), .expr (.ext (.v 3) (.lst tc)), .expr (.app (.v 3) td)]
def cThR (b : Nat) : E := .bin .add (.v 3) (.lst [(.call b [(.v 0), (.v 1)]), (.call b [(.v 0), (.call b [(.v 0), (.v 1)])])])
def cThg (ta tb : List E) (lp : List Z.S) (r : E) : List Z.S := [.set 3 (.lst ta), .expr (.ext (.v 3) (.lst tb)), .fors (.nm 4) (.val (.v 2)) lp, .ret r]
/-- the entries that stand at once -/
theorem Tp.lv {C : Nat → List D → M D} {σ : Env} {H : Hz} {c k m : Nat} {e : E} (h : Tp P C σ (Lv H c k) e m) (hm : m ≤ c) : ∃ r, ev P C e σ = ret r ∧ Lv H c (k + 1) r := by
  obtain ⟨ks, ek, lk, pk⟩ := h
  exact ⟨_, ek, Lv.tup (by omega) pk⟩
theorem thC {C : Nat → List D → M D} {H : Hz} {l : List D} {a0 a2 a3 : Option D} {v : Int} {o : D} (hl : l.length ≤ 13) (hp : ∀ x ∈ l, Lv H 58 1 x) (ho : Lv H 58 1 o) : ∃ ys, evs P C cThC [a0, some (.tup l), a2, a3, some o, some (.int v)] = ret ys ∧ ys.length = 2 ∧ ∀ x ∈ ys, Lv H 58 2 x := by
  obtain ⟨r1, e1, l1⟩ := Tp.lv (C := C) (P := P) (Tp.add (Tp.add (Tp.shi (σ := [a0, some (.tup l), a2, a3, some o, some (.int v)]) (i := 1) rfl (ev_vi (i := 5) rfl) hl hp) (Tp.tup (es := [.v 4]) (ys := [o]) rfl (by simp [line]) (by simpa using ho)) (by simp [line])) (Tp.slo (i := 1) rfl (ev_vi (i := 5) rfl) hl hp) (by simp [line])) (by simp)
  obtain ⟨r2, e2, l2⟩ := Tp.lv (C := C) (P := P) (Tp.add (Tp.add (Tp.shi (σ := [a0, some (.tup l), a2, a3, some o, some (.int v)]) (i := 1) rfl (ev_vi (i := 5) rfl) hl hp) (Tp.tup (es := [.v 4]) (ys := [o]) rfl (by simp [line]) (by simpa using ho)) (by simp [line])) (Tp.slo (i := 1) rfl (ev_plus (b := 1) (ev_vi (i := 5) rfl)) hl hp) (by simp [line])) (by simp)
  refine ⟨[r1, r2], ?_, rfl, ?_⟩
  · simp only [cThC, evs_cons, evs_nil, e1, e2, ret_bd]
  · simp only [List.mem_cons, List.not_mem_nil, or_false]
    rintro x (rfl | rfl) <;> assumption
theorem thD {C : Nat → List D → M D} {H : Hz} {l : List D} {a0 a2 a3 : Option D} {v : Int} {o : D} (hl : l.length ≤ 13) (hp : ∀ x ∈ l, Lv H 58 1 x) (ho : Lv H 58 1 o) : ∃ y, ev P C cThD [a0, some (.tup l), a2, a3, some o, some (.int v)] = ret y ∧ Lv H 58 2 y := by
  exact Tp.lv (C := C) (P := P) (Tp.add (Tp.add (Tp.shi (σ := [a0, some (.tup l), a2, a3, some o, some (.int v)]) (i := 1) rfl (ev_vi (i := 5) rfl) hl hp) (Tp.tup (es := [.v 4, .k .non]) (ys := [o, .non]) rfl (by simp [line]) (by simpa using ⟨ho, Lv.flat rfl⟩)) (by simp [line])) (Tp.slo (i := 1) rfl (ev_plus (b := 2) (ev_vi (i := 5) rfl)) hl hp) (by simp [line])) (by simp)
theorem thB {C : Nat → List D → M D} {H : Hz} {l : List D} {a0 a2 a3 a4 a5 : Option D} (hl : l.length ≤ 13) (hp : ∀ x ∈ l, Lv H 58 1 x) : ∃ ys, evs P C cThB [a0, some (.tup l), a2, a3, a4, a5] = ret ys ∧ ys.length = 3 ∧ ∀ x ∈ ys, Lv H 58 2 x := by
  have hv : Tp P C [a0, some (.tup l), a2, a3, a4, a5] (Lv H 58 1) (.v 1) 13 := Tp.v rfl hl hp
  obtain ⟨r1, e1, l1⟩ := Tp.lv (hv.add (Tp.slo (i := 1) rfl (ev_neg1 (b := 1)) hl hp) (by simp [line])) (by simp)
  obtain ⟨r2, e2, l2⟩ := Tp.lv ((Tp.shi (i := 1) rfl (ev_k (.int 1)) hl hp).add hv (by simp [line])) (by simp)
  obtain ⟨r3, e3, l3⟩ := Tp.lv (hv.add hv (by simp [line])) (by simp)
  refine ⟨[r1, r2, r3], ?_, rfl, ?_⟩
  · simp only [cThB, evs_cons, evs_nil, e1, e2, e3, ret_bd]
  · simp only [List.mem_cons, List.not_mem_nil, or_false]
    rintro x (rfl | rfl | rfl) <;> assumption
theorem thA {C : Nat → List D → M D} {H : Hz} {l : List D} {a0 a2 a3 a4 a5 : Option D} {one : Str} (h1 : PyData.strOk one = true) (hl : l.length ≤ 13) (hp : ∀ x ∈ l, Lv H 58 1 x) (hn : H S.length = none) : wp (evs P C (cThA one) [a0, some (.tup l), a2, a3, a4, a5]) (fun ys S' => S' = S ++ [.lst l] ∧ ys.length = 11 ∧ ∀ x ∈ ys, Lv (H.put S.length l) 58 3 x) X S := by
  have hp' : ∀ x ∈ l, Lv (H.put S.length l) 58 1 x := fun x hx => (hp x hx).mono (Hz.le_put hn) (Nat.le_refl _) (Nat.le_refl _)
  have hv : Tp P C [a0, some (.tup l), a2, a3, a4, a5] (Lv (H.put S.length l) 58 1) (.v 1) 13 := Tp.v rfl hl hp'
  obtain ⟨r1, e1, l1⟩ := Tp.lv (hv.rev (by simp [line])) (by simp)
  obtain ⟨r2, e2, l2⟩ := Tp.lv (Tp.slo (σ := [a0, some (.tup l), a2, a3, a4, a5]) (P := P) (C := C) (i := 1) rfl (ev_k (.int 1)) hl hp') (by simp)
  obtain ⟨r3, e3, l3⟩ := Tp.lv (Tp.shi (σ := [a0, some (.tup l), a2, a3, a4, a5]) (P := P) (C := C) (i := 1) rfl (ev_neg1 (b := 1)) hl hp') (by simp)
  have et : newT [D.tup l] = ret (.tup [D.tup l]) := newT_is _ (by simp [line])
  have en : newT [] = ret (.tup []) := newT_is _ (by simp [line])
  simp -implicitDefEqProofs only [cThA, evs_cons, evs_nil, ev_v, ev_k, ev_lstOf, walk_val, wo_tup, ev_tup, et, en, e1, e2, e3, List.getElem?_cons_zero, List.getElem?_cons_succ, ret_bd, bd_bd, wp_bd, wp_new]
  refine ⟨by unfold line; omega, ?_⟩
  simp -implicitDefEqProofs only [wp_ret]
  refine ⟨trivial, rfl, ?_⟩
  have L1 : ∀ {x : D}, Lv (H.put S.length l) 58 2 x → Lv (H.put S.length l) 58 3 x := fun h => h.mono (Hz.le_refl _) (Nat.le_refl _) (by omega)
  have LT : Lv (H.put S.length l) 58 2 (.tup l) := Lv.tup (by omega) hp'
  simp only [List.mem_cons, List.not_mem_nil, or_false]
  rintro x (rfl | rfl | rfl | rfl | rfl | rfl | rfl | rfl | rfl | rfl | rfl)
  · exact L1 LT
  · exact L1 (Lv.lst Hz.put_self (by omega) hp')
  · exact Lv.flat rfl
  · exact Lv.flat rfl
  · exact Lv.flat h1
  · exact Lv.flat rfl
  · refine Lv.tup (by simp) fun x hx => ?_
    cases List.mem_singleton.mp hx
    exact LT
  · exact Lv.tup (by simp) fun x hx => nomatch hx
  · exact L1 l1
  · exact L1 l2
  · exact L1 l3
end
end Zp
end
section
/-! ZThh: the things, whole. -/
namespace Zp
open Z
open PySem (Str PyData)
section
variable {P : Prog} {n f w c j K : Nat} {S : Sto} {X : Nat → D → Sto → Prop} {d e : D} {N : Int}
def cThgF (t b : Nat) (one : Str) : List Z.S := cThg (cThA one) cThB (cThL t cThC cThD) (cThR b)
/-- a turn -/
theorem thL_wp {t : Nat} (ht : P.fns[t]? = some ⟨2, 3, cTake⟩) {H : Hz} {l xs : List D} {b K' : Nat} {S' : Sto} (hl : l.length ≤ 13) (hp : ∀ x ∈ l, Lv H 58 1 x) {o : D} (ho : Lv H 58 1 o) (hA : Agr H S') (hb : H b = none) (hbj : b ≠ j) (hj : H j = none) (hx : ∀ x ∈ xs, Lv H 58 3 x) (hS : S'[b]? = some (.lst xs)) (hxl : xs.length ≤ 1000) (hSb : S.length ≤ b) (hF : Frj j S S') (hJ : Jar j K' S') (hK : K' < 2 ^ 63) {a2 a5 : Option D} :
    wp (exs P (callP P (n + 1)) (cThL t cThC cThD) [some (.loc j), some (.tup l), a2, some (.loc b), some o, a5]) (fun f S'' => ∃ a5 xs', f = .next [some (.loc j), some (.tup l), a2, some (.loc b), some o, a5] ∧ S''[b]? = some (.lst xs') ∧ (∀ x ∈ xs', Lv H 58 3 x) ∧ xs'.length = xs.length + 3 ∧ Agr H S'' ∧ Frj j S S'' ∧ Jar j (K' + 1) S'') X S' := by
  have eC := fun C v => @thC P C H l (some (.loc j)) a2 (some (.loc b)) v o hl hp ho
  have eD := fun C v => @thD P C H l (some (.loc j)) a2 (some (.loc b)) v o hl hp ho
  unfold cThL
  generalize cThC = tc at *
  generalize cThD = td at *
  rw [exs_cons, ex_set]
  simp -implicitDefEqProofs only [ev_call, evs_cons, evs_nil, ev_v, ev_k, ev_bin, ev_p1, len_tup, add_int, List.getElem?_cons_zero, List.getElem?_cons_succ, ret_bd, bd_bd, wp_bd]
  refine wp_imp (take_wp ht (by omega) (by omega) hJ (by omega)) ?_
  rintro _ S1 ⟨⟨v, rfl, hv⟩, hF1, hJ1⟩
  simp -implicitDefEqProofs only [wp_ret, List.set_cons_zero, List.set_cons_succ]
  obtain ⟨ys, ec, hy, ly⟩ := eC (callP P (n + 1)) v
  obtain ⟨y, ed, ld⟩ := eD (callP P (n + 1)) v
  have g1 := hF1.get hbj hS
  have A1 := hF1.agr hj hA
  simp -implicitDefEqProofs only [exs_cons, ex_expr, exs_nil, bd_bd, wp_bd]
  refine ext_wp rfl ?_
  rw [ec, wp_ret]
  refine ⟨xs, g1, by unfold line; omega, ?_⟩
  rw [wp_ret]
  dsimp only
  rw [wp_bd]
  have g2 := get_set (o := .lst (xs ++ ys)) ((Ext.app S1 [O.lst ys]).get g1)
  have A2 := ((Ext.app S1 [O.lst ys]).agr A1).set (b := b) (o := .lst (xs ++ ys)) hb
  have F2 := ((hF.trans hF1).trans ((Ext.app S1 [O.lst ys]).frj j)).set (b := b) (o := .lst (xs ++ ys)) (.inr hSb)
  have J2 := (hJ1.ext (Ext.app S1 [O.lst ys])).set (b := b) (o := .lst (xs ++ ys)) hbj
  generalize (S1 ++ [O.lst ys]).set b (.lst (xs ++ ys)) = S2 at *
  refine app_wp rfl ?_
  rw [ed, wp_ret]
  refine ⟨_, g2, by rw [List.length_append]; unfold line; omega, ?_⟩
  rw [ret_bd]
  dsimp only
  rw [wp_ret]
  refine ⟨_, _, rfl, get_set g2, ?_, by simp only [List.length_append, List.length_singleton]; omega, A2.set hb, F2.set (.inr hSb), J2.set hbj⟩
  intro x hx'
  simp only [List.mem_append, List.mem_singleton] at hx'
  rcases hx' with (q | q) | q
  · exact hx x q
  · exact (ly x q).mono (Hz.le_refl _) (Nat.le_refl _) (by omega)
  · rw [q]
    exact ld.mono (Hz.le_refl _) (Nat.le_refl _) (by omega)
/-- what stands when the things are told -/
def ThQ (j K : Nat) (H : Hz) (S : Sto) (r : D) (S' : Sto) : Prop := ∃ H' a l, r = .loc a ∧ S.length ≤ a ∧ S'[a]? = some (.lst l) ∧ l.length ≤ 100 ∧ (∀ x ∈ l, Lv H' 58 3 x) ∧ Grow j H H' S S' ∧ Jar j K S'
theorem thg_wp {t o b : Nat} {one z fm : Str} (h : P.fns[f]? = some ⟨3, 6, cThgF t b one⟩) (hbn : P.fns[b]? = some ⟨2, 6, cBentF b o t z fm⟩) (hon : P.fns[o]? = some ⟨2, 2, cOne t⟩) (ht : P.fns[t]? = some ⟨2, 3, cTake⟩) (h1 : PyData.strOk one = true) (hz : PyData.strOk z = true) (hfm : PyData.strOk fm = true) {l ods : List D} {a : Nat} {H : Hz} (hl : l.length ≤ 13) (hi : Ints l) (ha : S[a]? = some (.lst ods)) (haj : a ≠ j) (hal : ods.length ≤ 20) (hod : ∀ x ∈ ods, Lv H 1 1 x) (hA : Agr H S) (hj : H j = none) (hJ : Jar j K S) (hK : K + 100 < 2 ^ 63) : wp (callP P (n + 6) f [.loc j, .tup l, .loc a]) (ThQ j (K + 50) H S) X S := by
  rw [call_eq h rfl]
  have hjl := hJ.lt
  have hal' := (List.getElem?_eq_some_iff.mp ha).1
  have hp0 : ∀ {H' : Hz}, H.le H' → ∀ x ∈ l, Lv H' 58 1 x := fun _ x hx => by
    obtain ⟨i, rfl⟩ := hi x hx
    exact Lv.flat rfl
  have eA := fun C S X hn => @thA P S X C H l (some (.loc j)) (some (.loc a)) none none none one h1 hl (hp0 (Hz.le_refl _)) hn
  have eB := fun C (H' : Hz) hh b => @thB P C H' l (some (.loc j)) (some (.loc a)) (some (.loc b)) none none hl (hp0 hh)
  have eL := fun (H' : Hz) xs b K' S' o S0 X hp a2 a5 ho hA hb hbj hj hx hS hxl hSb hF hJ hK => @thL_wp P (n + 4) j S0 X t ht H' l xs b K' S' hl hp o ho hA hb hbj hj hx hS hxl hSb hF hJ hK a2 a5
  unfold cThgF cThg
  generalize cThA one = ta at *
  generalize cThB = tb at *
  generalize cThL t cThC cThD = tl at *
  rw [exs_cons, ex_set, ev_lst]
  simp -implicitDefEqProofs only [List.map_cons, List.map_nil, List.cons_append, List.nil_append, List.replicate, bd_bd, wp_bd]
  refine wp_imp (eA _ _ _ (hA.none (Nat.le_refl _))) ?_
  rintro xs S1 ⟨rfl, hxl, hxv⟩
  rw [wp_new]
  refine ⟨by unfold line; omega, ?_⟩
  rw [wp_ret]
  dsimp only
  have eb : (S ++ [O.lst l]).length = S.length + 1 := by simp
  have G1 : Grow j H (H.put S.length l) S (S ++ [O.lst l]) := Grow.new hj hA l
  have g1 := get_last (S ++ [O.lst l]) (O.lst xs)
  rw [eb] at g1 ⊢
  have hh1 := G1.1
  have hj1 := G1.none hjl hj
  have hb1 : (H.put S.length l) (S.length + 1) = none := G1.2.2.1.none (by rw [eb]; exact Nat.le_refl _)
  have A1 : Agr (H.put S.length l) (S ++ [O.lst l] ++ [O.lst xs]) := (Ext.app _ _).agr G1.2.2.1
  have E1 : Ext S (S ++ [O.lst l] ++ [O.lst xs]) := (Ext.app _ _).trans (Ext.app _ _)
  have J1 := hJ.ext E1
  have old1 := G1.2.1
  generalize hH1 : H.put S.length l = H1 at *
  generalize S ++ [O.lst l] ++ [O.lst xs] = S1 at *
  rw [exs_cons, ex_expr]
  obtain ⟨ys, ey, hyl, hyv⟩ := eB (callP P (n + 5)) H1 hh1 (S.length + 1)
  simp -implicitDefEqProofs only [List.set_cons_zero, List.set_cons_succ, bd_bd, wp_bd]
  refine ext_wp rfl ?_
  rw [ey, wp_ret]
  refine ⟨xs, g1, by unfold line; omega, ?_⟩
  rw [wp_ret]
  dsimp only
  have g2 := get_set (o := .lst (xs ++ ys)) ((Ext.app S1 [O.lst ys]).get g1)
  have A2 := ((Ext.app S1 [O.lst ys]).agr A1).set (b := S.length + 1) (o := .lst (xs ++ ys)) hb1
  have E2 := (E1.trans (Ext.app S1 [O.lst ys])).set (b := S.length + 1) (o := .lst (xs ++ ys)) (by omega)
  have J2 := (J1.ext (Ext.app S1 [O.lst ys])).set (b := S.length + 1) (o := .lst (xs ++ ys)) (by omega)
  generalize (S1 ++ [O.lst ys]).set (S.length + 1) (.lst (xs ++ ys)) = S2 at *
  rw [exs_cons, ex_fors, walk_val, bd_bd, bd_bd, wp_bd, ev_vi (v := .loc a) rfl, wp_ret, wo_loc, bd_bd, wp_bd, wp_getL]
  refine ⟨ods, E2.get ha, ?_⟩
  rw [ret_bd, wp_bd]
  refine forL_at_wp (fun r σ S' => ∃ b4 b5 zs, σ = [some (.loc j), some (.tup l), some (.loc a), some (.loc (S.length + 1)), b4, b5] ∧ S'[S.length + 1]? = some (.lst zs) ∧ (∀ x ∈ zs, Lv H1 58 3 x) ∧ zs.length + 3 * r.length = 14 + 3 * ods.length ∧ Agr H1 S' ∧ Frj j S S' ∧ ∃ K', Jar j K' S' ∧ K' + r.length = K + ods.length) ?_ ?_ ?_ ?_
  · rintro r σ S' ⟨_, _, _, _, _, _, _, _, hF, _⟩
    exact hF.get haj ha
  · rintro o r σ S' ho ⟨b4, b5, zs, rfl, hS, hzz, hzl, hA', hF, K', hJ', hK'⟩
    rw [bind_nm, ret_bd]
    simp only [List.length_cons] at hzl hK'
    refine wp_imp (eL H1 zs (S.length + 1) K' S' o S X (hp0 hh1) (some (.loc a)) b5 ((hod o ho).mono hh1 (by omega) (Nat.le_refl _)) hA' hb1 (by omega) hj1 hzz hS (by omega) (by omega) hF hJ' (by omega)) ?_
    rintro f S'' ⟨a5, zs', rfl, hS', hz', hl', hA'', hF', hJ''⟩
    exact ⟨_, _, zs', rfl, hS', hz', by omega, hA'', hF', K' + 1, hJ'', by omega⟩
  · rintro σ S' ⟨b4, b5, zs, rfl, hS, hzz, hzl, hA', hF, K', hJ', hK'⟩
    simp only [List.length_nil] at hzl hK'
    dsimp only
    unfold cThR
    simp -implicitDefEqProofs only [exs_cons, ex_ret, ev_bin, ev_lst, ev_v, evs_cons, evs_nil, ev_call, List.getElem?_cons_zero, List.getElem?_cons_succ, ret_bd, bd_bd, wp_bd]
    have lvl : Lv H1 13 1 (.tup l) := Lv.tup hl fun x hx => by
      obtain ⟨i, rfl⟩ := hi x hx
      exact Lv.flat rfl
    have hG' : Grow j H H1 S S' := ⟨hh1, old1, hA', hF⟩
    refine wp_imp (bent_wp (n := n + 1) hbn hon ht hz hfm 1 13 (.tup l) H1 S' K' _ lvl (by omega) hA' hj1 hJ' (by omega)) ?_
    rintro r1 S3 ⟨H3, G3, J3, L3⟩
    have lvl3 := lvl.mono G3.1 (Nat.le_refl _) (Nat.le_refl _)
    have hj3 := G3.none (by have := hF.1; omega) hj1
    refine wp_imp (bent_wp (n := n + 1) hbn hon ht hz hfm 1 13 (.tup l) H3 S3 _ _ lvl3 (by omega) G3.2.2.1 hj3 J3 (by omega)) ?_
    rintro r2 S4 ⟨H4, G4, J4, L4⟩
    have hj4 := G4.none (by have := hF.1; have := G3.2.2.2.1; omega) hj3
    refine wp_imp (bent_wp (n := n) hbn hon ht hz hfm 2 28 r2 H4 S4 _ _ L4 (by omega) G4.2.2.1 hj4 J4 (by omega)) ?_
    rintro r3 S5 ⟨H5, G5, J5, L5⟩
    have hF5 : Frj j S' S5 := (G3.2.2.2.trans G4.2.2.2).trans G5.2.2.2
    have g5 := hF5.get (by omega) hS
    rw [wp_new]
    refine ⟨by simp [line], ?_⟩
    rw [add_loc, wp_bd, wp_getL]
    refine ⟨_, (Ext.app S5 [O.lst [r1, r3]]).get g5, ?_⟩
    rw [wp_bd, wp_getL]
    refine ⟨_, get_last _ _, ?_⟩
    rw [wp_new]
    refine ⟨by rw [List.length_append]; simp [line]; omega, ?_⟩
    rw [wp_ret]
    dsimp only
    rw [wp_ret]
    have G6 := (hG'.trans G3).trans (G4.trans G5)
    have hj6 := G6.none hjl hj
    have E6 : Ext S5 (S5 ++ [O.lst [r1, r3]] ++ [O.lst (zs ++ [r1, r3])]) := (Ext.app _ _).trans (Ext.app _ _)
    refine ⟨H5, _, _, rfl, ?_, get_last _ _, by simp; omega, ?_, G6.trans (Grow.frj hj6 G6.2.2.1 (E6.frj j)), (J5.more (by omega)).ext E6⟩
    · have := G6.2.2.2.1
      simp
      omega
    · intro x hx
      simp only [List.mem_append, List.mem_cons, List.not_mem_nil, or_false] at hx
      have hh5 := Hz.le_trans G4.1 G5.1
      rcases hx with q | rfl | rfl
      · exact (hzz x q).mono (Hz.le_trans G3.1 hh5) (Nat.le_refl _) (Nat.le_refl _)
      · exact L3.mono hh5 (by omega) (by omega)
      · exact L5
  · exact ⟨none, none, _, rfl, g2, fun x hx => by
      rcases List.mem_append.mp hx with q | q
      · exact hxv x q
      · exact (hyv x q).mono (Hz.le_refl _) (Nat.le_refl _) (by omega), by rw [List.length_append]; omega, A2, E2.frj j, K, J2, rfl⟩
end
end Zp
end
section
/-! ZMr: numbers of zones that are none, heard. -/
namespace Zp
open Z
open PySem (Str PyData)
section
variable {P : Prog} {n f w c j K : Nat} {S : Sto} {X : Nat → D → Sto → Prop} {d e : D} {N : Int}
def cMrB (ms is mh sm hr : Nat) (name : Str) : List Z.S := [.set 1 (.lst [(.heard hr (.call ms [(.v 2), (.v 0)]))]), .expr (.app (.v 1) (.heard hr (.call is [(.v 2), (.v 0)]))), .expr (.app (.v 1) (.heard hr (.call mh [(.v 2), (.v 0)]))), .ifs (.nt (.call sm [(.v 1), (.bin .mul (.lst [(.tup [(.k (.str name)), (.v 2)])]) (.k (.int 3)))])) [.ret (.k (.bl false))] []]
def cMr (ms is mh sm hr : Nat) (name : Str) (ls : List E) : List Z.S := [.fors (.nm 2) (.val (.lst ls)) (cMrB ms is mh sm hr name), .ret (.k (.bl true))]
theorem mr_step {ms is mh sm hr : Nat} {name : Str} (h1 : callP P (n + 2) ms [e, d] = thr c e) (h2 : callP P (n + 2) is [e, d] = thr c e) (h3 : callP P (n + 2) mh [e, d] = thr c e) (hsm : P.fns[sm]? = some ⟨2, 7, cSame w cPair⟩) (hw : P.fns[w]? = some ⟨1, 1, cIsWhole⟩)
    {hd : Heard} (hh : P.hears[hr]? = some hd) (hj : joined P hd c = name) (hs : P.sub c hd.root = true) (on : PyData.strOk name = true) {H : Hz} (hA : Agr H S) {m : Nat} (he : EqL H m [e] [e]) (hm : m ≤ 1000) {a2 : Option D} : wp (exs P (callP P (n + 2)) (cMrB ms is mh sm hr name) [some d, a2, some e]) (fun f S' => (∃ a2, f = .next [some d, a2, some e]) ∧ Ext S S') X S := by
  let x : D := .tup [.str name, e]
  have ex1 : hearM P hd (thr c e) = ret x := by rw [hear_thr hd hs, hj]
  have ex2 : newT [.str name, e] = ret x := newT_is _ (by simp [line])
  have hx : EqL H (m + 2) [x] [x] := by
    have q : EqL H (m + 1) [.str name, e] [.str name, e] := EqL.leaf (d := .str name) on he
    exact q.tup1
  generalize x = x at *
  unfold cMrB
  simp -implicitDefEqProofs only [exs_cons, ex_set, ev_lst, evs_cons, evs_nil, ev_heard, hh, ev_call, ev_v, List.getElem?_cons_zero, List.getElem?_cons_succ, ret_bd, bd_bd, h1, ex1, wp_bd, wp_new]
  refine ⟨by simp [line], ?_⟩
  simp -implicitDefEqProofs only [wp_ret, List.set_cons_zero, List.set_cons_succ, exs_nil, exs_cons, ex_expr, ev_app, ev_v, ev_heard, hh, ev_call, evs_cons, evs_nil, List.getElem?_cons_zero, List.getElem?_cons_succ, ret_bd, bd_bd, h2, h3, ex1, wp_bd, wp_getL, wp_putL]
  have g0 := get_last S (O.lst [x])
  have E0 := Ext.app S [O.lst [x]]
  generalize S ++ [O.lst [x]] = S1 at *
  refine ⟨[x], g0, ⟨_, g0⟩, by simp [line], ?_⟩
  have g1 := get_set (o := .lst ([x] ++ [x])) g0
  have E1 := E0.set (b := S.length) (o := .lst ([x] ++ [x])) (Nat.le_refl _)
  generalize S1.set S.length (.lst ([x] ++ [x])) = S2 at *
  refine ⟨_, g1, ⟨_, g1⟩, by simp [line], ?_⟩
  have g2 := get_set (o := .lst ([x] ++ [x] ++ [x])) g1
  have E2 := E1.set (b := S.length) (o := .lst ([x] ++ [x] ++ [x])) (Nat.le_refl _)
  generalize S2.set S.length (.lst ([x] ++ [x] ++ [x])) = S3 at *
  have ht : S.length < S3.length := (List.getElem?_eq_some_iff.mp g2).1
  simp -implicitDefEqProofs only [ex_ifs, tst_nt, tst_call, ev_call, evs_cons, evs_nil, ev_v, ev_bin, ev_lst, ev_tup, ev_k, List.getElem?_cons_zero, List.getElem?_cons_succ, ret_bd, bd_bd, ex2, wp_bd, wp_new]
  refine ⟨by simp [line], ?_⟩
  have em : ∀ Q : D → Sto → Prop, Q (.loc (S3.length + 1)) (S3 ++ [.lst [x]] ++ [.lst [x, x, x]]) → wp (binop .mul (.loc S3.length) (.int 3)) Q X (S3 ++ [.lst [x]]) := fun Q q => by
    show wp (bd (getL S3.length) fun y => fun S => if -(2 ^ 63) ≤ (3 : Int) ∧ (3 : Int) < 2 ^ 63 ∧ y.length * (3 : Int).toNat ≤ line then new (List.replicate (3 : Int).toNat y).flatten S else .stuck) Q X _
    rw [wp_bd, wp_getL]
    refine ⟨_, get_last _ _, ?_⟩
    have e : (fun S => if -(2 ^ 63) ≤ (3 : Int) ∧ (3 : Int) < 2 ^ 63 ∧ [x].length * (3 : Int).toNat ≤ line then new (List.replicate (3 : Int).toNat [x]).flatten S else .stuck) = new [x, x, x] := by
      funext S
      rw [if_pos (by simp [line])]
      rfl
    rw [e, wp_new]
    refine ⟨by simp [line], ?_⟩
    rw [show (S3 ++ [O.lst [x]]).length = S3.length + 1 by simp]
    exact q
  refine em _ ?_
  have E3 : Ext S3 (S3 ++ [O.lst [x]] ++ [O.lst [x, x, x]]) := (Ext.app _ _).trans (Ext.app _ _)
  have g3 := get_last (S3 ++ [O.lst [x]]) (O.lst [x, x, x])
  rw [show (S3 ++ [O.lst [x]]).length = S3.length + 1 by simp] at g3
  generalize S3 ++ [O.lst [x]] ++ [O.lst [x, x, x]] = S4 at *
  have g4 := E3.get g2
  have E4 := E2.trans E3
  have A1 := E4.agr hA
  have A2 := A1.put (b := S.length) g4
  have A3 := A2.put (b := S3.length + 1) g3
  have n1 : H S.length = none := hA.none (Nat.le_refl _)
  have n2 : (H.put S.length ([x] ++ [x] ++ [x])) (S3.length + 1) = none := by
    unfold Hz.put
    rw [if_neg (by omega)]
    exact hA.none (by omega)
  have le := Hz.le_trans (Hz.le_put (l := [x] ++ [x] ++ [x]) n1) (Hz.le_put (l := [x, x, x]) n2)
  have hx' := hx.mono le
  have big := EqL.lst1 (a := S.length) (b := S3.length + 1) (xs := [x] ++ [x] ++ [x]) (ys := [x, x, x]) (by
    unfold Hz.put
    rw [if_neg (by omega), if_pos rfl]) Hz.put_self (hx'.cons (hx'.cons hx'))
  refine wp_imp (same_wp hsm hw A3 big (by unfold line; omega)) ?_
  rintro r S' ⟨rfl, hE⟩
  simp -implicitDefEqProofs only [tr_bl, wp_ret, Bool.not_true, Bool.false_eq_true, if_false, exs_nil]
  exact ⟨⟨_, rfl⟩, E4.trans hE⟩
theorem mr_wp {ms is mh sm hr : Nat} {name : Str} {ls : List E} (h : P.fns[f]? = some ⟨1, 3, cMr ms is mh sm hr name ls⟩) {l : List D} (hl : ∀ e ∈ l, callP P (n + 2) ms [e, d] = thr c e ∧ callP P (n + 2) is [e, d] = thr c e ∧ callP P (n + 2) mh [e, d] = thr c e ∧ Lv hz0 5 1 e) (hll : l.length ≤ 1000) (hls : ∀ C σ, evs P C ls σ = ret l) (hsm : P.fns[sm]? = some ⟨2, 7, cSame w cPair⟩) (hw : P.fns[w]? = some ⟨1, 1, cIsWhole⟩)
    {hd : Heard} (hh : P.hears[hr]? = some hd) (hj : joined P hd c = name) (hs : P.sub c hd.root = true) (on : PyData.strOk name = true) : wp (callP P (n + 3) f [d]) (fun r S' => r = .bl true) X S := by
  rw [call_eq h rfl]
  have st := fun e (he : e ∈ l) m (S : Sto) (X : Nat → D → Sto → Prop) a2 q hm => @mr_step P n w c S X d e ms is mh sm hr name (hl e he).1 (hl e he).2.1 (hl e he).2.2.1 hsm hw hd hh hj hs on hz0 (Agr.hz0 S) m q hm a2
  unfold cMr
  generalize cMrB ms is mh sm hr name = cb at *
  simp -implicitDefEqProofs only [exs_cons, exs_nil, ex_fors, walk_val, ev_lst, hls, List.map_cons, List.map_nil, List.cons_append, List.nil_append, List.replicate, ret_bd, bd_bd, wp_bd, wp_new]
  refine ⟨by unfold line; omega, ?_⟩
  simp -implicitDefEqProofs only [wo_loc, wp_bd, wp_getL]
  refine ⟨l, get_last _ _, ?_⟩
  rw [wp_ret]
  refine forL_at_wp (fun r σ S' => (∃ a b, σ = [some d, a, b]) ∧ S'[S.length]? = some (.lst l)) (fun _ _ _ h => h.2) ?_ ?_ ⟨⟨_, _, rfl⟩, get_last _ _⟩
  · rintro e r σ S' he ⟨⟨a, b, rfl⟩, hS⟩
    simp -implicitDefEqProofs only [bind_nm, ret_bd, List.set_cons_zero, List.set_cons_succ]
    obtain ⟨m, hm, q⟩ := (hl e he).2.2.2.eql
    refine wp_imp (st e he m S' X a q (by simp [lvN] at hm; omega)) ?_
    rintro f S'' ⟨⟨a2, rfl⟩, hE⟩
    exact ⟨⟨_, _, rfl⟩, hE.get hS⟩
  · rintro σ S' ⟨⟨a, b, rfl⟩, hS⟩
    simp -implicitDefEqProofs only [wp_ret, ex_ret, ev_k, ret_bd, bd_bd]
end
end Zp
end
section
/-! ZHnd: what the law has by hand. -/
namespace Zp
open Z
open PySem (Str PyData)
theorem newT1 {a : D} : newT [a] = ret (.tup [a]) := newT_is _ (by simp [line])
theorem newT2 {a b : D} : newT [a, b] = ret (.tup [a, b]) := newT_is _ (by simp [line])
theorem newT3 {a b c : D} : newT [a, b, c] = ret (.tup [a, b, c]) := newT_is _ (by simp [line])
theorem newT4 {a b c d : D} : newT [a, b, c, d] = ret (.tup [a, b, c, d]) := newT_is _ (by simp [line])
theorem newT0 : newT [] = ret (.tup []) := newT_is _ (by simp [line])
theorem EqL.tupLen {H : Hz} {m : Nat} {l : List D} (h : EqL H m [.tup l] [.tup l]) : l.length ≤ m := by
  cases h with
  | leaf f _ => cases f
  | tup x _ =>
    have := x.len.2
    omega
section
variable {P : Prog} {n f w c j K : Nat} {S : Sto} {X : Nat → D → Sto → Prop} {d e : D} {N : Int}
/-- what stands by hand: a number of zones, a thing, its fault -/
def HIt (g : Int → D → D) (H : Hz) (x : D) : Prop := ∃ (N : Int) (d r : D), x = .tup [.int N, d, r] ∧ isIn (.int N) 1 12 = true ∧ g N d = r ∧ (r = .non ∨ ∃ i, r = .int i) ∧ Lv H 20 1 d
def cHL (ff fr : Nat) : List Z.S := [.ifs (.or (.cmp .ne (.call ff [(.v 2), (.v 3)]) (.v 4)) (.nt (.call fr [(.v 2), (.v 3)]))) [.ret (.k (.bl false))] []]
theorem ne_self {r : D} (h : r = .non ∨ ∃ i, r = .int i) : cmpB .ne r r = ret false := by
  rcases h with rfl | ⟨i, rfl⟩
  · rfl
  · rw [ne_int]
    simp
/-- a function tells g of what is small; a law's right is True of it -/
def Tells (P : Prog) (n ff fr : Nat) (g : Int → D → D) (H : Hz) : Prop := ∀ (N : Int) (d : D), isIn (.int N) 1 12 = true → Lv H 20 1 d → callP P n ff [.int N, d] = ret (g N d) ∧ ∀ (S : Sto) (X : Nat → D → Sto → Prop), Agr H S → wp (callP P n fr [.int N, d]) (fun r S' => r = .bl true ∧ Ext S S') X S
theorem hl_wp {ff fr a : Nat} {g : Int → D → D} {H : Hz} {l : List D} (ht : Tells P n ff fr g H) (hi : ∀ x ∈ l, HIt g H x) (ha : S[a]? = some (.lst l)) (hA : Agr H S) {e0 e1 x y z : Option D} :
    wp (forL (.at a l.length) (fun d σ => bd (bindT (.tp [2, 3, 4]) d σ) fun σ' => exs P (callP P n) (cHL ff fr) σ') 0 (W.at a l.length).len [e0, e1, x, y, z]) (fun f S' => (∃ x y z, f = .next [e0, e1, x, y, z]) ∧ Ext S S') X S := by
  refine forL_at_wp (fun r σ S' => (∃ x y z, σ = [e0, e1, x, y, z]) ∧ Ext S S') (fun _ _ _ h => h.2.get ha) ?_ ?_ ⟨⟨_, _, _, rfl⟩, Ext.refl _⟩
  · rintro q r σ S' hq ⟨⟨x, y, z, rfl⟩, hE⟩
    obtain ⟨N, d, t, rfl, hN, hg, ht', hd⟩ := hi q hq
    obtain ⟨h1, h2⟩ := ht N d hN hd
    simp -implicitDefEqProofs only [bindT, setAll, List.set_cons_zero, List.set_cons_succ, ret_bd, cHL, exs_cons, ex_ifs, tst_or, tst_cmp, tst_nt, tst_call, ev_cmp, ev_call, evs_cons, evs_nil, ev_v, List.getElem?_cons_zero, List.getElem?_cons_succ, bd_bd, h1, hg, ne_self ht', tr_bl, Bool.false_eq_true, if_false, wp_bd]
    refine wp_imp (h2 S' X (hE.agr hA)) ?_
    rintro r S'' ⟨rfl, hE'⟩
    simp -implicitDefEqProofs only [tr_bl, wp_ret, Bool.not_true, Bool.false_eq_true, if_false, exs_nil]
    exact ⟨⟨_, _, _, rfl⟩, hE.trans hE'⟩
  · rintro σ S' ⟨⟨x, y, z, rfl⟩, hE⟩
    exact ⟨⟨_, _, _, rfl⟩, hE⟩
def hA1 : List E := [(.tup [(.k (.int 1)), (.tup []), (.k .non)]), (.tup [(.k (.int 1)), (.tup [(.k (.int 0))]), (.k .non)]), (.tup [(.k (.int 1)), (.tup [(.k (.int 1))]), (.k (.int 0))]), (.tup [(.k (.int 12)), (.v 0), (.k .non)]), (.tup [(.k (.int 12)), (.bin .add (.v 0) (.tup [(.k (.int 12))])), (.k (.int 12))])]
def hA2 : E := (.tup [(.k (.int 5)), (.tup [(.k (.int 1)), (.k (.int 3)), (.k (.int 4))]), (.k .non)])
def hA3 : List E := [(.tup [(.k (.int 3)), (.tup [(.k (.int 2)), (.k (.int 1))]), (.k (.int 1))]), (.tup [(.k (.int 3)), (.tup [(.k (.int 1)), (.k (.int 1))]), (.k (.int 1))]), (.tup [(.k (.int 3)), (.tup [(.k (.bl true))]), (.k (.int 0))]), (.tup [(.k (.int 3)), (.tup [(.k (.int 0)), (.k .non)]), (.k (.int 1))]), (.tup [(.k (.int 3)), (.tup [(.k (.int 0)), (.k (.int 3)), (.k (.int 1))]), (.k (.int 1))]), (.tup [(.k (.int 3)), (.lst [(.k (.int 0))]), (.neg (.k (.int 1)))])]
def hB1 : List E := [(.tup [(.k (.int 1)), (.tup [(.k (.int 0)), (.k (.int 0))]), (.k .non)]), (.tup [(.k (.int 1)), (.tup [(.k (.int 0)), (.k (.int 1))]), (.k .non)]), (.tup [(.k (.int 1)), (.tup [(.k (.int 0))]), (.neg (.k (.int 1)))]), (.tup [(.k (.int 2)), (.tup [(.k (.int 0)), (.k (.int 1))]), (.neg (.k (.int 1)))]), (.tup [(.k (.int 2)), (.tup [(.k (.int 1)), (.k (.int 1)), (.k (.int 1))]), (.k (.int 0))])]
def hB2 : E := (.tup [(.k (.int 2)), (.tup [(.k (.int 0)), (.k (.int 2)), (.k (.int 2))]), (.k (.int 1))])
def hB3 : List E := [(.tup [(.k (.int 2)), (.tup [(.k (.int 0)), (.k (.int 1)), (.k (.int 0))]), (.k (.int 2))]), (.tup [(.k (.int 2)), (.tup [(.k (.bl false)), (.k (.int 0)), (.k (.int 0))]), (.k (.int 0))]), (.tup [(.k (.int 2)), (.tup [(.k (.int 0)), (.k (.int 0)), (.k (.bl true))]), (.k (.int 2))]), (.tup [(.k (.int 12)), (.tupOf (.rg1 (.k (.int 13)))), (.k .non)])]
def hB4 : List E := [(.tup [(.k (.int 2)), (.lst [(.k (.int 0)), (.k (.int 0)), (.k (.int 1))]), (.neg (.k (.int 1)))]), (.tup [(.k (.int 3)), (.tup [(.k (.int 0)), (.k (.int 2)), (.k (.int 1)), (.k (.int 0))]), (.k (.int 1))]), (.tup [(.k (.int 12)), (.bin .mul (.tup [(.k (.int 0))]) (.k (.int 13))), (.k .non)])]
def cHndP (a1 : List E) (a2 : E) (a3 : List E) (b1 : List E) (b2 : E) (b3 b4 : List E) (l1 l2 : List Z.S) : List Z.S := [.set 0 (.tupOf (.rg1 (.k (.int 12)))), .set 1 (.lst a1), .expr (.app (.v 1) a2), .expr (.ext (.v 1) (.lst a3)), .fors (.tp [2, 3, 4]) (.val (.v 1)) l1, .set 1 (.lst b1), .expr (.app (.v 1) b2), .expr (.ext (.v 1) (.lst b3)), .fors (.tp [2, 3, 4]) (.val (.bin .add (.v 1) (.lst b4))) l2, .ret (.k (.bl true))]
def cHnd : List Z.S := cHndP hA1 hA2 hA3 hB1 hB2 hB3 hB4 (cHL 15 22) (cHL 16 23)
section
variable {C : Nat → List D → M D} {s1 s2 s3 s4 s0 : Option D} {H : Hz}
theorem lvT {l : List D} (h : l.length ≤ 20) (g : l.all fl = true) : Lv H 20 1 (.tup l) := Lv.tup h fun x hx => by
  rw [List.all_eq_true] at g
  exact Lv.flat (g x hx)
def t3 (N : Int) (d r : D) : D := .tup [.int N, d, r]
def iT (l : List Int) : D := .tup (l.map .int)
def vA1 : List D := [t3 1 (iT []) .non, t3 1 (iT [0]) .non, t3 1 (iT [1]) (.int 0), t3 12 (.tup (ranges 0 12)) .non, t3 12 (.tup (ranges 0 12 ++ [.int 12])) (.int 12)]
def vA2 : D := t3 5 (iT [1, 3, 4]) .non
def vA3 (a : Nat) : List D := [t3 3 (iT [2, 1]) (.int 1), t3 3 (iT [1, 1]) (.int 1), t3 3 (.tup [.bl true]) (.int 0), t3 3 (.tup [.int 0, .non]) (.int 1), t3 3 (iT [0, 3, 1]) (.int 1), t3 3 (.loc a) (.int (-1))]
def vB1 : List D := [t3 1 (iT [0, 0]) .non, t3 1 (iT [0, 1]) .non, t3 1 (iT [0]) (.int (-1)), t3 2 (iT [0, 1]) (.int (-1)), t3 2 (iT [1, 1, 1]) (.int 0)]
def vB2 : D := t3 2 (iT [0, 2, 2]) (.int 1)
def vB3 : List D := [t3 2 (iT [0, 1, 0]) (.int 2), t3 2 (.tup [.bl false, .int 0, .int 0]) (.int 0), t3 2 (.tup [.int 0, .int 0, .bl true]) (.int 2), t3 12 (.tup (ranges 0 13)) .non]
def vB4 (a : Nat) : List D := [t3 2 (.loc a) (.int (-1)), t3 3 (iT [0, 2, 1, 0]) (.int 1), t3 12 (.tup (List.replicate 13 [D.int 0]).flatten) .non]
theorem hA1_eq : evs P C hA1 [some (.tup (ranges 0 12)), s1, s2, s3, s4] = ret vA1 := by
  simp -implicitDefEqProofs only [hA1, evs_cons, evs_nil, ev_tup, ev_k, ev_v, ev_bin, List.getElem?_cons_zero, newT0, newT1, newT2, newT3, ret_bd, bd_bd, add_tup, newT_is (ranges 0 12 ++ [D.int 12]) (by simp [ranges_len, line])]
  rfl
theorem hA2_eq {σ : Env} : ev P C hA2 σ = ret vA2 := by
  simp -implicitDefEqProofs only [hA2, evs_cons, evs_nil, ev_tup, ev_k, newT0, newT1, newT2, newT3, ret_bd, bd_bd]
  rfl
theorem hA3_wp {σ : Env} {Q : List D → Sto → Prop} (q : Q (vA3 S.length) (S ++ [.lst [.int 0]])) : wp (evs P C hA3 σ) Q X S := by
  simp -implicitDefEqProofs only [hA3, evs_cons, evs_nil, ev_tup, ev_lst, ev_k, ev_neg, newT0, newT1, newT2, newT3, ret_bd, bd_bd, wp_bd]
  rw [wp_new]
  refine ⟨by simp [line], ?_⟩
  rw [wp_ret]
  exact q
theorem hB1_eq {σ : Env} : evs P C hB1 σ = ret vB1 := by
  simp -implicitDefEqProofs only [hB1, evs_cons, evs_nil, ev_tup, ev_k, ev_neg, newT0, newT1, newT2, newT3, ret_bd, bd_bd]
  rfl
theorem hB2_eq {σ : Env} : ev P C hB2 σ = ret vB2 := by
  simp -implicitDefEqProofs only [hB2, evs_cons, evs_nil, ev_tup, ev_k, newT0, newT1, newT2, newT3, ret_bd, bd_bd]
  rfl
theorem rg_small {i : Int} (h : 0 ≤ i ∧ i ≤ 1000) : rgok i = true := by
  unfold rgok
  simp
  omega
theorem hB3_eq {σ : Env} : evs P C hB3 σ = ret vB3 := by
  have r := rg_small (i := 13) (by omega)
  have e := newT_is (ranges 0 13) (by simp [ranges_len, line])
  simp -implicitDefEqProofs only [hB3, evs_cons, evs_nil, ev_tup, ev_tupOf, walk_rg1, r, if_true, e, ev_k, newT0, newT1, newT2, newT3, ret_bd, bd_bd]
  rfl
theorem mul13 : binop .mul (.tup [.int 0]) (.int 13) = ret (.tup (List.replicate 13 [D.int 0]).flatten) := by
  funext S
  show (if [D.int 0] ≠ [] ∧ 1 ≤ (13 : Int) ∧ (13 : Int) ≤ 1000 ∧ [D.int 0].length ≤ 1000 then R.ok (D.tup (List.replicate (13 : Int).toNat [D.int 0]).flatten) S else .stuck) = _
  rw [if_pos (by simp)]
  rfl
theorem hB4_wp {σ : Env} {Q : List D → Sto → Prop} (q : Q (vB4 S.length) (S ++ [.lst [.int 0, .int 0, .int 1]])) : wp (evs P C hB4 σ) Q X S := by
  simp -implicitDefEqProofs only [hB4, evs_cons, evs_nil, ev_tup, ev_lst, ev_bin, mul13, ev_k, ev_neg, newT0, newT1, newT2, newT3, newT4, ret_bd, bd_bd, wp_bd]
  rw [wp_new]
  refine ⟨by simp [line], ?_⟩
  rw [wp_ret]
  exact q
/-- item by item -/
def Its (g : Int → D → D) (H : Hz) : List D → Prop
  | [] => True
  | x :: r => HIt g H x ∧ Its g H r
theorem Its.all {g : Int → D → D} {H : Hz} : ∀ {l : List D}, Its g H l → ∀ x ∈ l, HIt g H x
  | [], _, x, hx => nomatch hx
  | d :: r, h, x, hx => by
    rcases List.mem_cons.mp hx with q | q
    · rw [q]
      exact h.1
    · exact Its.all h.2 x q
theorem hit {g : Int → D → D} {N : Int} {l : List D} {r : D} (hN : isIn (.int N) 1 12 = true) (hg : g N (.tup l) = r) (hr : r = .non ∨ ∃ i, r = .int i) (h : l.length ≤ 20) (hl : l.all fl = true) : HIt g H (t3 N (.tup l) r) := ⟨_, _, _, rfl, hN, hg, hr, lvT h hl⟩
theorem hitL {g : Int → D → D} {N : Int} {a : Nat} {l : List D} {r : D} (ha : H a = some l) (hN : isIn (.int N) 1 12 = true) (hg : g N (.loc a) = r) (hr : r = .non ∨ ∃ i, r = .int i) (h : l.length ≤ 20) (hl : l.all fl = true) : HIt g H (t3 N (.loc a) r) := ⟨_, _, _, rfl, hN, hg, hr, Lv.lst ha h fun x hx => by
  rw [List.all_eq_true] at hl
  exact Lv.flat (hl x hx)⟩
theorem iA1 : Its fltSD H vA1 := ⟨hit rfl rfl (.inl rfl) (by simp) rfl, hit rfl rfl (.inl rfl) (by simp) rfl, hit rfl rfl (.inr ⟨_, rfl⟩) (by simp) rfl, hit rfl rfl (.inl rfl) (by simp [ranges_len]) rfl, hit rfl rfl (.inr ⟨_, rfl⟩) (by simp [ranges_len]) rfl, trivial⟩
theorem iA2 : HIt fltSD H vA2 := hit rfl rfl (.inl rfl) (by simp) rfl
theorem iA3 {a : Nat} (ha : H a = some [.int 0]) : Its fltSD H (vA3 a) := ⟨hit rfl rfl (.inr ⟨_, rfl⟩) (by simp) rfl, hit rfl rfl (.inr ⟨_, rfl⟩) (by simp) rfl, hit rfl rfl (.inr ⟨_, rfl⟩) (by simp) rfl, hit rfl rfl (.inr ⟨_, rfl⟩) (by simp) rfl, hit rfl rfl (.inr ⟨_, rfl⟩) (by simp) rfl, hitL ha rfl rfl (.inr ⟨_, rfl⟩) (by simp) rfl, trivial⟩
theorem iB1 : Its fltHD H vB1 := ⟨hit rfl rfl (.inl rfl) (by simp) rfl, hit rfl rfl (.inl rfl) (by simp) rfl, hit rfl rfl (.inr ⟨_, rfl⟩) (by simp) rfl, hit rfl rfl (.inr ⟨_, rfl⟩) (by simp) rfl, hit rfl rfl (.inr ⟨_, rfl⟩) (by simp) rfl, trivial⟩
theorem iB2 : HIt fltHD H vB2 := hit rfl rfl (.inr ⟨_, rfl⟩) (by simp) rfl
theorem iB3 : Its fltHD H vB3 := ⟨hit rfl rfl (.inr ⟨_, rfl⟩) (by simp) rfl, hit rfl rfl (.inr ⟨_, rfl⟩) (by simp) rfl, hit rfl rfl (.inr ⟨_, rfl⟩) (by simp) rfl, hit rfl rfl (.inl rfl) (by simp [ranges_len]) rfl, trivial⟩
theorem iB4 {a : Nat} (ha : H a = some [.int 0, .int 0, .int 1]) : Its fltHD H (vB4 a) := ⟨hitL ha rfl rfl (.inr ⟨_, rfl⟩) (by simp) rfl, hit rfl rfl (.inr ⟨_, rfl⟩) (by simp) rfl, hit rfl rfl (.inl rfl) (by simp) rfl, trivial⟩
end
end
end Zp
end
section
/-! ZLn: standings as lists of numbers that rise. -/
namespace Zp
open Z
open PySem (Str PyData)
def iN (xs : List Nat) : List D := xs.map fun (i : Nat) => D.int (i : Int)
/-- how many stand ahead of p -/
def cnt (xs : List Nat) (p : Nat) : Nat := (xs.filter fun z => decide (z < p)).length
def hdsV (N : Nat) (xs : List Nat) : List D := (List.range (N + 1)).map fun p => D.int (cnt xs p : Int)
/-- a standing of N zones -/
def Std (N : Nat) (xs : List Nat) : Prop := xs.Sublist (List.range N)
def gap (xs : List Nat) : List Nat := match xs.getLast? with
  | none => []
  | some z => (List.range z).filter fun i => !decide (i ∈ xs)
def far (xs : List Nat) : Nat := (xs.filter fun z => decide (xs.length ≤ z)).length
theorem sub_ge {xs : List Nat} {k m : Nat} (h : xs.Sublist (List.range' k m)) {z : Nat} (hz : z ∈ xs) : k ≤ z ∧ z < k + m := by
  have := h.subset hz
  rw [List.mem_range'_1] at this
  exact this
theorem sub_cases {xs : List Nat} {k m : Nat} (h : xs.Sublist (List.range' k (m + 1))) : xs.Sublist (List.range' (k + 1) m) ∨ ∃ ys, xs = k :: ys ∧ ys.Sublist (List.range' (k + 1) m) := by
  rw [List.range'_succ] at h
  cases h with
  | cons _ h => exact .inl h
  | cons_cons _ h => exact .inr ⟨_, rfl, h⟩
theorem std_nodup {N : Nat} {xs : List Nat} (h : Std N xs) : xs.Nodup := h.nodup List.nodup_range
theorem std_lt {N : Nat} {xs : List Nat} (h : Std N xs) {z : Nat} (hz : z ∈ xs) : z < N := List.mem_range.mp (h.subset hz)
theorem std_len {N : Nat} {xs : List Nat} (h : Std N xs) : xs.length ≤ N := by
  have := h.length_le
  rw [List.length_range] at this
  exact this
theorem std_r {N : Nat} {xs : List Nat} (h : Std N xs) : xs.Sublist (List.range' 0 N) := by
  rw [← List.range_eq_range']
  exact h
theorem fltS_sub : ∀ (m k : Nat) (xs : List Nat) (i : Nat) (least hi : Int), xs.Sublist (List.range' k m) → least ≤ (k : Int) → (k : Int) + m ≤ hi + 1 → fltS (iN xs) i least hi = none
  | 0, k, xs, i, least, hi, h, _, _ => by
    have : xs = [] := List.sublist_nil.mp h
    subst this
    rfl
  | m + 1, k, xs, i, least, hi, h, hl, hh => by
    rcases sub_cases h with h' | ⟨ys, rfl, h'⟩
    · exact fltS_sub m (k + 1) xs i least hi h' (by omega) (by omega)
    · show (if isIn (.int (k : Int)) least hi = true then fltS (iN ys) (i + 1) ((k : Int) + 1) hi else some i) = none
      have : isIn (.int (k : Int)) least hi = true := by
        simp [isIn]
        omega
      rw [if_pos this]
      exact fltS_sub m (k + 1) ys (i + 1) _ hi h' (by omega) (by omega)
theorem fltS_std {N : Nat} {xs : List Nat} (h : Std N xs) : fltS (iN xs) 0 0 ((N : Int) - 1) = none :=
  fltS_sub N 0 xs 0 0 _ (std_r h) (by omega) (by omega)
theorem cnt_zero (xs : List Nat) : cnt xs 0 = 0 := by
  unfold cnt
  induction xs with
  | nil => rfl
  | cons x xs ih => simp [List.filter_cons] at ih ⊢
theorem cnt_succ : ∀ (xs : List Nat) (p : Nat), xs.Nodup → cnt xs (p + 1) = cnt xs p + (if p ∈ xs then 1 else 0)
  | [], p, _ => rfl
  | x :: xs, p, h => by
    have hx := List.nodup_cons.mp h
    have ih := cnt_succ xs p hx.2
    unfold cnt at ih ⊢
    rw [List.filter_cons, List.filter_cons]
    by_cases e : x = p
    · subst e
      have h0 : ¬ x ∈ xs := hx.1
      rw [if_neg h0] at ih
      simp
      simpa using ih
    · by_cases q : x < p
      · have q1 : x < p + 1 := by omega
        simp only [q, q1, decide_true, if_true, List.length_cons, List.mem_cons]
        rw [ih]
        have : ¬ p = x := fun z => e z.symm
        simp [this]
        omega
      · have q1 : ¬ x < p + 1 := by omega
        simp only [q, q1, decide_false, List.mem_cons]
        have : ¬ p = x := fun z => e z.symm
        simp only [this, false_or]
        exact ih
theorem fltH_from (xs : List Nat) (hn : xs.Nodup) : ∀ (m p i : Nat), fltH ((List.range' (p + 1) m).map fun p => D.int (cnt xs p : Int)) i (cnt xs p : Int) ((cnt xs p : Int) + 1) = none
  | 0, p, i => rfl
  | m + 1, p, i => by
    rw [List.range'_succ, List.map_cons]
    show (if isIn (.int (cnt xs (p + 1) : Int)) _ _ = true then fltH _ (i + 1) (cnt xs (p + 1) : Int) ((cnt xs (p + 1) : Int) + 1) else some i) = none
    have e := cnt_succ xs p hn
    have : isIn (.int (cnt xs (p + 1) : Int)) (cnt xs p : Int) ((cnt xs p : Int) + 1) = true := by
      simp [isIn]
      rw [e]
      split <;> omega
    rw [if_pos this]
    exact fltH_from xs hn m (p + 1) (i + 1)
theorem hdsV_len {N : Nat} {xs : List Nat} : (hdsV N xs).length = N + 1 := by simp [hdsV]
theorem fltH_std {N : Nat} {xs : List Nat} (h : xs.Nodup) : fltHD (N : Int) (.tup (hdsV N xs)) = .non := by
  unfold fltHD
  dsimp only
  rw [hdsV_len, if_pos (by omega)]
  have : fltH (hdsV N xs) 0 0 0 = none := by
    unfold hdsV
    rw [List.range_eq_range', List.range'_succ, List.map_cons]
    show (if isIn (.int (cnt xs 0 : Int)) 0 0 = true then fltH _ 1 (cnt xs 0 : Int) ((cnt xs 0 : Int) + 1) else some 0) = none
    rw [cnt_zero, if_pos (by rfl)]
    have := fltH_from xs h N 0 1
    rw [cnt_zero] at this
    exact this
  rw [this]
/-- what is filtered by membership -/
theorem sub_filter : ∀ (m k : Nat) (xs : List Nat), xs.Sublist (List.range' k m) → (List.range' k m).filter (fun i => decide (i ∈ xs)) = xs
  | 0, k, xs, h => by
    have : xs = [] := List.sublist_nil.mp h
    subst this
    rfl
  | m + 1, k, xs, h => by
    rcases sub_cases h with h' | ⟨ys, rfl, h'⟩
    · have hk : ¬ k ∈ xs := fun z => by
        have := (sub_ge h' z).1
        omega
      rw [List.range'_succ, List.filter_cons]
      simp only [hk, decide_false]
      exact sub_filter m (k + 1) xs h'
    · rw [List.range'_succ, List.filter_cons]
      simp only [List.mem_cons, true_or, decide_true, if_true]
      congr 1
      have e : (List.range' (k + 1) m).filter (fun i => decide (i = k ∨ i ∈ ys)) = (List.range' (k + 1) m).filter (fun i => decide (i ∈ ys)) := by
        apply List.filter_congr
        intro i hi
        have := (List.mem_range'_1.mp hi).1
        have : ¬ i = k := by omega
        simp [this]
      rw [e]
      exact sub_filter m (k + 1) ys h'
theorem std_filter {N : Nat} {xs : List Nat} (h : Std N xs) : (List.range N).filter (fun i => decide (i ∈ xs)) = xs := by
  rw [List.range_eq_range']
  exact sub_filter N 0 xs (std_r h)
/-- a standing reaches as far as it has parcels -/
theorem sub_far : ∀ (m k : Nat) (xs : List Nat), xs.Sublist (List.range' k m) → xs ≠ [] → ∃ z ∈ xs, k + xs.length ≤ z + 1
  | 0, k, xs, h, hn => absurd (List.sublist_nil.mp h) hn
  | m + 1, k, xs, h, hn => by
    rcases sub_cases h with h' | ⟨ys, rfl, h'⟩
    · obtain ⟨z, hz, e⟩ := sub_far m (k + 1) xs h' hn
      exact ⟨z, hz, by omega⟩
    · by_cases hy : ys = []
      · subst hy
        exact ⟨k, List.mem_cons_self, by simp⟩
      · obtain ⟨z, hz, e⟩ := sub_far m (k + 1) ys h' hy
        exact ⟨z, List.mem_cons_of_mem _ hz, by simp; omega⟩
theorem sub_closed : ∀ (m k : Nat) (xs : List Nat), xs.Sublist (List.range' k m) → (∀ z ∈ xs, z < k + xs.length) → xs = List.range' k xs.length
  | 0, k, xs, h, _ => by
    have : xs = [] := List.sublist_nil.mp h
    subst this
    rfl
  | m + 1, k, xs, h, hz => by
    rcases sub_cases h with h' | ⟨ys, rfl, h'⟩
    · by_cases hn : xs = []
      · subst hn
        rfl
      · obtain ⟨z, hm, e⟩ := sub_far m (k + 1) xs h' hn
        have := hz z hm
        omega
    · rw [List.length_cons, List.range'_succ]
      congr 1
      refine sub_closed m (k + 1) ys h' fun z hm => ?_
      have := hz z (List.mem_cons_of_mem _ hm)
      simp at this
      omega
theorem sub_gap : ∀ (m k : Nat) (xs : List Nat), xs.Sublist (List.range' k m) → (∀ z, xs.getLast? = some z → ∀ i, k ≤ i → i < z → i ∈ xs) → xs = List.range' k xs.length
  | 0, k, xs, h, _ => by
    have : xs = [] := List.sublist_nil.mp h
    subst this
    rfl
  | m + 1, k, xs, h, hz => by
    rcases sub_cases h with h' | ⟨ys, rfl, h'⟩
    · cases e : xs.getLast? with
      | none =>
        have := List.getLast?_eq_none_iff.mp e
        subst this
        rfl
      | some z =>
        have hm : z ∈ xs := List.mem_of_getLast? e
        have g := sub_ge h' hm
        have := sub_ge h' (hz z e k (Nat.le_refl _) (by omega))
        omega
    · rw [List.length_cons, List.range'_succ]
      congr 1
      refine sub_gap m (k + 1) ys h' fun z e i hi hlt => ?_
      have e' : (k :: ys).getLast? = some z := by
        cases ys with
        | nil => cases e
        | cons y ys =>
          rw [List.getLast?_cons_cons]
          exact e
      rcases List.mem_cons.mp (hz z e' i (by omega) hlt) with q | q
      · omega
      · exact q
theorem closed_far {N : Nat} {xs : List Nat} (h : Std N xs) : (xs = List.range xs.length) ↔ far xs = 0 := by
  constructor
  · intro e
    unfold far
    rw [List.length_eq_zero_iff, List.filter_eq_nil_iff]
    intro z hz
    rw [e] at hz
    have := List.mem_range.mp hz
    simp
    omega
  · intro e
    unfold far at e
    rw [List.length_eq_zero_iff, List.filter_eq_nil_iff] at e
    rw [List.range_eq_range']
    refine sub_closed N 0 xs (std_r h) fun z hz => ?_
    have := e z hz
    simp at this
    omega
theorem closed_gap {N : Nat} {xs : List Nat} (h : Std N xs) : (xs = List.range xs.length) ↔ gap xs = [] := by
  constructor
  · intro e
    unfold gap
    cases q : xs.getLast? with
    | none => rfl
    | some z =>
      show (List.range z).filter (fun i => !decide (i ∈ xs)) = []
      rw [List.filter_eq_nil_iff]
      intro i hi
      have hz : z ∈ xs := List.mem_of_getLast? q
      have hi := List.mem_range.mp hi
      rw [e] at hz
      have hz := List.mem_range.mp hz
      have : i ∈ xs := by
        rw [e]
        exact List.mem_range.mpr (by omega)
      simp [this]
  · intro e
    rw [List.range_eq_range']
    refine sub_gap N 0 xs (std_r h) fun z q i _ hi => ?_
    unfold gap at e
    rw [q] at e
    have e : (List.range z).filter (fun i => !decide (i ∈ xs)) = [] := e
    rw [List.filter_eq_nil_iff] at e
    have := e i (List.mem_range.mpr hi)
    simpa using this
/-- the ends -/
theorem cnt_range' : ∀ (m k p : Nat), cnt (List.range' k m) p = min m (p - k)
  | 0, k, p => by simp [cnt]
  | m + 1, k, p => by
    have ih := cnt_range' m (k + 1) p
    unfold cnt at ih ⊢
    rw [List.range'_succ, List.filter_cons]
    by_cases q : k < p
    · simp only [q, decide_true, if_true, List.length_cons]
      rw [ih]
      omega
    · simp only [q, decide_false]
      show (List.filter _ _).length = _
      rw [ih]
      omega
theorem std_range' {N m : Nat} (h : m ≤ N) : Std N (List.range' m (N - m)) := by
  have e : N = m + (N - m) := by omega
  have := List.range'_append (s := 0) (m := m) (n := N - m) (step := 1)
  show (List.range' m (N - m)).Sublist (List.range N)
  rw [List.range_eq_range']
  conv => rhs; rw [e]
  rw [← this]
  simp
theorem std_range {N m : Nat} (h : m ≤ N) : Std N (List.range m) := List.range_sublist.mpr h
theorem std_nil {N : Nat} : Std N [] := List.nil_sublist _
end Zp
end
section
/-! ZLo: what the program tells of standings and heads, one by one. -/
namespace Zp
open Z
open PySem (Str PyData)
/-! ### tuples of numbers -/
theorem iN_len {xs : List Nat} : (iN xs).length = xs.length := by simp [iN]
theorem iN_get {xs : List Nat} {k : Nat} : (iN xs)[k]? = xs[k]?.map fun (i : Nat) => D.int (i : Int) := by simp [iN]
theorem pys_iN : ∀ xs : List Nat, D.pys (iN xs) = some (xs.map fun (i : Nat) => PyData.int (i : Int))
  | [] => rfl
  | x :: xs => by
    have ih := pys_iN xs
    unfold iN at ih ⊢
    rw [List.map_cons, List.map_cons]
    unfold D.pys
    rw [ih]
    rfl
theorem can_iN : ∀ xs : List Nat, PyData.canLayAll0 (xs.map fun (i : Nat) => PyData.int (i : Int)) = true
  | [] => by simp [PyData.canLayAll0]
  | x :: xs => by simp [PyData.canLayAll0, PyData.canLay0, can_iN xs]
theorem dep_iN : ∀ xs : List Nat, PyData.depthAll (xs.map fun (i : Nat) => PyData.int (i : Int)) = 0
  | [] => by simp [PyData.depthAll]
  | x :: xs => by simp [PyData.depthAll, PyData.depth, dep_iN xs]
theorem eqv_iN : ∀ xs ys : List Nat, PyData.eqvAll (xs.map fun (i : Nat) => PyData.int (i : Int)) (ys.map fun (i : Nat) => PyData.int (i : Int)) = decide (xs = ys)
  | [], [] => by simp [PyData.eqvAll]
  | [], y :: ys => by simp [PyData.eqvAll]
  | x :: xs, [] => by simp [PyData.eqvAll]
  | x :: xs, y :: ys => by
    have ih := eqv_iN xs ys
    rw [List.map_cons, List.map_cons]
    simp only [PyData.eqvAll, PyData.eqv, ih]
    by_cases e : x = y
    · subst e
      simp
    · have : ((x : Int) == (y : Int)) = false := by simp; omega
      simp [this, e]
theorem shaped_iN (xs : List Nat) : PySem.SeqAt.shaped (.tuple (xs.map fun (i : Nat) => PyData.int (i : Int))) = true := by
  unfold PySem.SeqAt.shaped
  simp [PyData.canLay0, can_iN, PyData.depth, dep_iN]
theorem deep_iN (xs : List Nat) : deep (.tup (iN xs)) = ret (.tuple (xs.map fun (i : Nat) => PyData.int (i : Int))) := by
  unfold deep
  dsimp only
  unfold D.py
  rw [pys_iN]
  rfl
theorem eqq_iN (xs ys : List Nat) : eqq (.tup (iN xs)) (.tup (iN ys)) = ret (decide (xs = ys)) := by
  show (if (iN xs).isEmpty || (iN ys).isEmpty then ret ((iN xs).isEmpty && (iN ys).isEmpty) else eqd (.tup (iN xs)) (.tup (iN ys))) = _
  cases xs with
  | nil => cases ys <;> simp [iN]
  | cons x xs =>
    cases ys with
    | nil => simp [iN]
    | cons y ys =>
      rw [if_neg (by simp [iN])]
      unfold eqd
      rw [deep_iN, ret_bd, deep_iN, ret_bd]
      funext S
      rw [shaped_iN, shaped_iN, if_pos (by rfl)]
      have : PyData.eqv (.tuple ((x :: xs).map fun (i : Nat) => PyData.int (i : Int))) (.tuple ((y :: ys).map fun (i : Nat) => PyData.int (i : Int))) = decide ((x :: xs) = (y :: ys)) := by
        rw [PyData.eqv]
        exact eqv_iN _ _
      rw [this]
      rfl
theorem eq_iN (xs ys : List Nat) : cmpB .eq (.tup (iN xs)) (.tup (iN ys)) = ret (decide (xs = ys)) := eqq_iN xs ys
theorem ne_iN (xs ys : List Nat) : cmpB .ne (.tup (iN xs)) (.tup (iN ys)) = ret (!decide (xs = ys)) := by
  show (bd (eqq _ _) fun b => ret (!b)) = _
  rw [eqq_iN]
  rfl
theorem ne_bl {a b : Bool} : cmpB .ne (.bl a) (.bl b) = ret (!(a == b)) := by
  show (bd (cmpB .eq (.bl a) (.bl b)) fun b => ret (!b)) = _
  rw [eq_bl]
  rfl
theorem memF_iN {p : Nat} : ∀ {xs : List Nat}, memF (.int (p : Int)) (iN xs) = decide (p ∈ xs)
  | [] => by simp [memF, iN]
  | x :: xs => by
    have ih := memF_iN (p := p) (xs := xs)
    unfold memF iN at ih ⊢
    rw [List.map_cons, List.any_cons, ih]
    by_cases e : p = x
    · subst e
      simp [eqF]
    · have : ((x : Int) == (p : Int)) = false := by simp; omega
      simp [eqF, this, e]
theorem flat_iN : ∀ {xs : List Nat}, (iN xs).all flat = true
  | [] => rfl
  | x :: xs => by
    have := flat_iN (xs := xs)
    unfold iN at this ⊢
    rw [List.map_cons, List.all_cons, this]
    rfl
theorem in_iN {p : Nat} {xs : List Nat} : cmpB .isin (.int (p : Int)) (.tup (iN xs)) = ret (decide (p ∈ xs)) := by
  funext S
  show (if flat (.int (p : Int)) && (iN xs).all flat then R.ok (memF (.int (p : Int)) (iN xs)) S else .stuck) = _
  rw [flat_iN, memF_iN]
  rfl
theorem notin_iN {p : Nat} {xs : List Nat} : cmpB .notin (.int (p : Int)) (.tup (iN xs)) = ret (!decide (p ∈ xs)) := by
  funext S
  show (if flat (.int (p : Int)) && (iN xs).all flat then R.ok (!memF (.int (p : Int)) (iN xs)) S else .stuck) = _
  rw [flat_iN, memF_iN]
  rfl
theorem ranges_iN (m N : Nat) : ranges (m : Int) (N : Int) = iN (List.range' m (N - m)) := by
  unfold ranges iN
  have e : ((N : Int) - (m : Int)).toNat = N - m := by omega
  rw [e, List.range_eq_range']
  apply List.ext_getElem
  · simp
  · intro i h1 h2
    simp
theorem ranges0_iN (N : Nat) : ranges 0 (N : Int) = iN (List.range N) := by
  have := ranges_iN 0 N
  rw [List.range_eq_range']
  simpa using this
theorem iN_app {xs ys : List Nat} : iN (xs ++ ys) = iN xs ++ iN ys := by simp [iN]
theorem lcD_iN {body : D → M (Option D)} {p : Nat → Bool} : ∀ {xs : List Nat}, (∀ z ∈ xs, body (.int (z : Int)) = ret (if p z = true then some (.int (z : Int)) else none)) → lcD body (iN xs) = ret (iN (xs.filter p))
  | [], _ => rfl
  | x :: xs, h => by
    show bd (body (.int (x : Int))) (fun o => bd (lcD body (iN xs)) fun ys => ret (match o with | some y => y :: ys | none => ys)) = _
    rw [h x List.mem_cons_self, ret_bd, lcD_iN fun z hz => h z (List.mem_cons_of_mem _ hz), ret_bd, List.filter_cons]
    cases p x <;> rfl
/-- a comprehension that makes one thing of each -/
theorem lcD_map_wp {body : D → M (Option D)} {g : Nat → D} {X : Nat → D → Sto → Prop} : ∀ {xs : List Nat} {S : Sto}, (∀ z ∈ xs, ∀ S', wp (body (.int (z : Int))) (fun o S'' => o = some (g z) ∧ Ext S' S'') X S') → wp (lcD body (iN xs)) (fun ys S' => ys = xs.map g ∧ Ext S S') X S
  | [], S, _ => wp_ret.mpr ⟨rfl, Ext.refl _⟩
  | x :: xs, S, h => by
    show wp (bd (body (.int (x : Int))) (fun o => bd (lcD body (iN xs)) fun ys => ret (match o with | some y => y :: ys | none => ys))) _ X S
    rw [wp_bd]
    refine wp_imp (h x List.mem_cons_self S) ?_
    rintro _ S1 ⟨rfl, E1⟩
    rw [wp_bd]
    refine wp_imp (lcD_map_wp fun z hz => h z (List.mem_cons_of_mem _ hz)) ?_
    rintro _ S2 ⟨rfl, E2⟩
    rw [wp_ret]
    exact ⟨rfl, E1.trans E2⟩
theorem gAll_iN {σ : Env} {t : GT} {e : GE} {p : Nat → Bool} : ∀ {xs : List Nat}, (∀ z ∈ xs, gOne σ t e (.int (z : Int)) = some (if p z = true then some (.int (z : Int)) else none)) → ∃ os, gAll σ t e (iN xs) = some os ∧ os.filterMap id = iN (xs.filter p)
  | [], _ => ⟨[], rfl, rfl⟩
  | x :: xs, h => by
    obtain ⟨os, e1, e2⟩ := gAll_iN fun z hz => h z (List.mem_cons_of_mem _ hz)
    refine ⟨(if p x = true then some (.int (x : Int)) else none) :: os, ?_, ?_⟩
    · show (match gOne σ t e (.int (x : Int)), gAll σ t e (iN xs) with
        | some o, some os => some (o :: os)
        | _, _ => none) = _
      rw [h x List.mem_cons_self, e1]
    · rw [List.filter_cons, List.filterMap_cons, e2]
      cases p x <;> rfl
theorem place_last {n : Nat} : place (n + 1) (-1) = some n := by
  unfold place
  rw [if_neg (by omega), if_pos (by omega)]
  congr 1
  omega
theorem last_iN {xs : List Nat} {z : Nat} (h : xs.getLast? = some z) : index (.tup (iN xs)) (.int (-1)) = ret (.int (z : Int)) := by
  rw [ix_tup (n := 0), iN_len]
  have hl : 0 < xs.length := by
    cases xs with
    | nil => cases h
    | cons a b => simp
  obtain ⟨m, hm⟩ : ∃ m, xs.length = m + 1 := ⟨xs.length - 1, by omega⟩
  rw [hm, place_last]
  have e : (iN xs)[m]? = some (.int (z : Int)) := by
    rw [iN_get]
    rw [List.getLast?_eq_getElem?, hm] at h
    simp at h
    simp [h]
  show (match (iN xs)[m]? with | some d => ret d | none => stuck) = _
  rw [e]
theorem ix_hds {N : Nat} {xs : List Nat} {z : Nat} (h : z < N + 1) : (place (hdsV N xs).length (z : Int)).bind (fun j => (hdsV N xs)[j]?) = some (.int (cnt xs z : Int)) := by
  rw [hdsV_len, place_nat h]
  show (hdsV N xs)[z]? = _
  unfold hdsV
  rw [List.getElem?_map, List.getElem?_range h]
  rfl
section
variable {P : Prog} {n f w c m z j K N : Nat} {S : Sto} {X : Nat → D → Sto → Prop} {xs : List Nat}
/-! ### heads -/
def cHofB : List Z.S := [.expr (.app (.v 2) (.bin .add (.ix (.v 2) (.neg (.k (.int 1)))) (.cmp .isin (.v 3) (.v 1))))]
def cHof : List Z.S := [.set 2 (.lst [(.k (.int 0))]), .fors (.nm 3) (.rg1 (.v 0)) cHofB, .ret (.tupOf (.val (.v 2)))]
def hrow (xs : List Nat) (k : Nat) : List D := (List.range k).map fun p => D.int (cnt xs p : Int)
theorem hrow_len {k : Nat} : (hrow xs k).length = k := by simp [hrow]
theorem hrow_succ {k : Nat} : hrow xs (k + 1) = hrow xs k ++ [.int (cnt xs k : Int)] := by
  unfold hrow
  rw [List.range_succ, List.map_append]
  rfl
theorem hrow_last {p : Nat} : (hrow xs (p + 1))[p]? = some (.int (cnt xs p : Int)) := by
  unfold hrow
  rw [List.getElem?_map, List.getElem?_range (by omega)]
  rfl
theorem hof_step {C : Nat → List D → M D} {p b : Nat} {a0 : Option D} (hn : xs.Nodup) (hp : p < 1000) (hb : S[b]? = some (.lst (hrow xs (p + 1)))) : wp (exs P C cHofB [a0, some (.tup (iN xs)), some (.loc b), some (.int (p : Int))]) (fun f S' => f = .next [a0, some (.tup (iN xs)), some (.loc b), some (.int (p : Int))] ∧ S' = S.set b (.lst (hrow xs (p + 1 + 1)))) X S := by
  have hb' : (cnt xs p : Int) + b2 (decide (p ∈ xs)) = (cnt xs (p + 1) : Int) := by
    rw [cnt_succ xs p hn]
    by_cases q : p ∈ xs <;> simp [q, b2]
  unfold cHofB
  rw [exs_cons, ex_expr]
  simp -implicitDefEqProofs only [bd_bd, wp_bd]
  refine app_wp rfl ?_
  simp -implicitDefEqProofs only [ev_bin, ev_ix, ev_neg, ev_k, ev_v, ev_cmp, List.getElem?_cons_zero, List.getElem?_cons_succ, ret_bd, bd_bd, ix_loc, wp_bd, wp_getL]
  refine ⟨_, hb, ?_⟩
  rw [hrow_len, place_last]
  simp -implicitDefEqProofs only [Option.bind_some, hrow_last, wp_ret, in_iN, ret_bd, add_ib, hb']
  refine ⟨_, hb, by rw [hrow_len]; unfold line; omega, ?_⟩
  try dsimp only
  rw [exs_nil, wp_ret, ← hrow_succ]
  exact ⟨rfl, rfl⟩
theorem hof_wp (h : P.fns[f]? = some ⟨2, 4, cHof⟩) (hN : N ≤ 100) (hn : xs.Nodup) : wp (callP P (n + 1) f [.int (N : Int), .tup (iN xs)]) (fun r S' => r = .tup (hdsV N xs) ∧ Ext S S') X S := by
  rw [call_eq h rfl]
  have hst := fun (S : Sto) X p b hp hb => @hof_step P S X xs (callP P n) p b (some (.int (N : Int))) hn hp hb
  unfold cHof
  generalize cHofB = cb at *
  have rg := rg_small (i := (N : Int)) (by omega)
  simp -implicitDefEqProofs only [exs_cons, ex_set, ev_lst, evs_cons, evs_nil, ev_k, List.map_cons, List.map_nil, List.cons_append, List.nil_append, List.replicate, ret_bd, bd_bd, wp_bd, wp_new]
  refine ⟨by simp [line], ?_⟩
  simp -implicitDefEqProofs only [wp_ret, List.set_cons_zero, List.set_cons_succ, ex_fors, walk_rg1, ev_v, List.getElem?_cons_zero, List.getElem?_cons_succ, ret_bd, bd_bd, wp_bd, rg, if_true, forL_fix]
  have e0 : ranges 0 (N : Int) = iN (List.range' 0 (N - 0)) := by
    have := ranges_iN 0 N
    simpa using this
  rw [e0]
  refine wp_imp (forD_wp (Q := fun f S' => ∃ x, f = .next [some (.int (N : Int)), some (.tup (iN xs)), some (.loc S.length), x] ∧ S'[S.length]? = some (.lst (hrow xs (N + 1))) ∧ Ext S S') (fun r σ S' => ∃ p x, r = iN (List.range' p (N - p)) ∧ p ≤ N ∧ σ = [some (.int (N : Int)), some (.tup (iN xs)), some (.loc S.length), x] ∧ S'[S.length]? = some (.lst (hrow xs (p + 1))) ∧ Ext S S') ?_ ?_ ?_) ?_
  · refine ⟨0, none, rfl, by omega, rfl, ?_, Ext.app _ _⟩
    rw [get_last]
    simp [hrow, cnt_zero]
  · rintro d r σ S' ⟨p, x, er, hp, rfl, g, E⟩
    have hp' : p < N := by
      rcases Nat.lt_or_ge p N with q | q
      · exact q
      · have : N - p = 0 := by omega
        rw [this] at er
        cases er
    have e1 : N - p = (N - (p + 1)) + 1 := by omega
    rw [e1, List.range'_succ] at er
    obtain ⟨rfl, rfl⟩ : d = .int (p : Int) ∧ r = iN (List.range' (p + 1) (N - (p + 1))) := by
      unfold iN at er ⊢
      rw [List.map_cons] at er
      exact List.cons.inj er
    simp -implicitDefEqProofs only [bind_nm, List.set_cons_zero, List.set_cons_succ, ret_bd]
    refine wp_imp (hst S' X p S.length (by omega) g) ?_
    rintro _ S'' ⟨rfl, rfl⟩
    exact ⟨p + 1, _, rfl, by omega, rfl, get_set g, E.set (Nat.le_refl _)⟩
  · rintro σ S' ⟨p, x, er, hp, rfl, g, E⟩
    have : p = N := by
      have := congrArg List.length er
      rw [iN_len] at this
      simp at this
      omega
    subst this
    exact ⟨x, rfl, g, E⟩
  · rintro _ S' ⟨x, rfl, g, E⟩
    dsimp only
    simp -implicitDefEqProofs only [exs_cons, ex_ret, bd_bd, wp_bd]
    refine tupOf_wp ?_
    rw [ev_vi (i := 2) rfl, wp_ret]
    refine ⟨_, _, rfl, g, by rw [hrow_len]; unfold line; omega, ?_⟩
    simp -implicitDefEqProofs only [ret_bd, wp_ret]
    exact ⟨rfl, E⟩
/-! ### from heads -/
def cSof : List Z.S := [.ret (.tupG (.rg1 (.bin .sub (.p1 .len (.v 0)) (.k (.int 1)))) (.gt (.ix (.v 0) (.add .x (.k (1)))) (.ix (.v 0) .x)) .x)]
theorem sof_eq (h : P.fns[f]? = some ⟨1, 2, cSof⟩) (hN : N ≤ 100) (hs : Std N xs) : callP P (n + 1) f [.tup (hdsV N xs)] = ret (.tup (iN xs)) := by
  rw [call_eq h rfl]
  have rg := rg_small (i := (N : Int)) (by omega)
  have e1 : ((hdsV N xs).length : Int) - 1 = (N : Int) := by rw [hdsV_len]; omega
  obtain ⟨os, g1, g2⟩ := gAll_iN (σ := [some (.tup (hdsV N xs)), none]) (t := .gt (.ix (.v 0) (.add .x (.k (1)))) (.ix (.v 0) .x)) (e := .x) (p := fun z => decide (z ∈ xs)) (xs := List.range N) fun z hz => by
    have hz := List.mem_range.mp hz
    have q1 := ix_hds (N := N) (xs := xs) (z := z) (by omega)
    have q2 := ix_hds (N := N) (xs := xs) (z := z + 1) (by omega)
    have c1 : ((z + 1 : Nat) : Int) = (z : Int) + 1 := by omega
    rw [c1] at q2
    have t : gtst [some (.tup (hdsV N xs)), none] (.int (z : Int)) (.gt (.ix (.v 0) (.add .x (.k (1)))) (.ix (.v 0) .x)) = some (decide (z ∈ xs)) := by
      have a1 : gev [some (.tup (hdsV N xs)), none] (.int (z : Int)) (.ix (.v 0) (.add .x (.k (1)))) = some (.int (cnt xs (z + 1) : Int)) := q2
      have a2 : gev [some (.tup (hdsV N xs)), none] (.int (z : Int)) (.ix (.v 0) .x) = some (.int (cnt xs z : Int)) := q1
      show (match gev _ _ _, gev _ _ _ with
        | some (.int i), some (.int j) => some (decide (j < i))
        | _, _ => none) = _
      rw [a1, a2]
      dsimp only
      rw [cnt_succ xs z (std_nodup hs)]
      by_cases q : z ∈ xs <;> simp [q]
      omega
    unfold gOne
    rw [t]
    by_cases q : z ∈ xs <;> simp [q, gev]
  rw [std_filter hs] at g2
  simp -implicitDefEqProofs only [cSof, exs_cons, ex_ret, ev_tupG, gsrc_rg1, ev_bin, ev_p1, ev_v, ev_k, len_tup, sub_int, List.map_cons, List.map_nil, List.cons_append, List.nil_append, List.replicate, List.getElem?_cons_zero, List.getElem?_cons_succ, ret_bd, bd_bd, e1, rg, if_true, ranges0_iN, g1, g2]
  rw [newT_is _ (by rw [iN_len]; have := std_len hs; unfold line; omega)]
  rfl
end
end Zp
end
section
/-! ZLq: meanings that only add to the store; what is heard one behind another. -/
namespace Zp
open Z
open PySem (Str PyData)
/-- a meaning that tells v and only adds to the store -/
def PF (m : M D) (v : D) : Prop := ∀ (X : Nat → D → Sto → Prop) (S : Sto), wp m (fun r S' => r = v ∧ Ext S S') X S
theorem PF.ret {v : D} : PF (ret v) v := fun X S => wp_ret.mpr ⟨rfl, Ext.refl _⟩
theorem PF.of {m : M D} {v : D} (h : m = Z.ret v) : PF m v := h ▸ PF.ret
theorem PF.bd {α : Type} {m : M α} {v : D} {a : α} {f : α → M D} (h : ∀ (X : Nat → D → Sto → Prop) S, wp m (fun r S' => r = a ∧ Ext S S') X S) (g : PF (f a) v) : PF (bd m f) v := fun X S => by
  rw [wp_bd]
  refine wp_imp (h X S) ?_
  rintro _ S1 ⟨rfl, E1⟩
  refine wp_imp (g X S1) ?_
  rintro _ S2 ⟨rfl, E2⟩
  exact ⟨rfl, E1.trans E2⟩
/-- several of them -/
def PFs (m : M (List D)) (vs : List D) : Prop := ∀ (X : Nat → D → Sto → Prop) (S : Sto), wp m (fun r S' => r = vs ∧ Ext S S') X S
section
variable {P : Prog} {C : Nat → List D → M D} {σ : Env} {S : Sto} {X : Nat → D → Sto → Prop}
theorem PFs.nil : PFs (evs P C [] σ) [] := fun X S => wp_ret.mpr ⟨rfl, Ext.refl _⟩
theorem PFs.cons {e : E} {es : List E} {v : D} {vs : List D} (h : PF (ev P C e σ) v) (g : PFs (evs P C es σ) vs) : PFs (evs P C (e :: es) σ) (v :: vs) := fun X S => by
  rw [evs_cons, wp_bd]
  refine wp_imp (h X S) ?_
  rintro _ S1 ⟨rfl, E1⟩
  rw [wp_bd]
  refine wp_imp (g X S1) ?_
  rintro _ S2 ⟨rfl, E2⟩
  rw [wp_ret]
  exact ⟨rfl, E1.trans E2⟩
theorem PF.tup {es : List E} {vs : List D} (h : PFs (evs P C es σ) vs) (hl : vs.length ≤ line) : PF (ev P C (.tup es) σ) (.tup vs) := fun X S => by
  rw [ev_tup, wp_bd]
  refine wp_imp (h X S) ?_
  rintro _ S1 ⟨rfl, E1⟩
  rw [wp_newT]
  exact ⟨hl, rfl, E1⟩
theorem PF.call {f : Nat} {es : List E} {ds : List D} {v : D} (h : evs P C es σ = Z.ret ds) (g : PF (C f ds) v) : PF (ev P C (.call f es) σ) v := by
  rw [ev_call, h, ret_bd]
  exact g
theorem hear_pf {hd : Heard} {m : M D} {v : D} (h : PF m v) : PF (hearM P hd m) (.tup [.str hd.told, v]) := fun X S => by
  have q := h (fun _ _ _ => False) S
  rw [wp_iff] at q ⊢
  unfold wp' at q ⊢
  unfold hearM
  cases e : m S with
  | ok a S' =>
    rw [e] at q
    obtain ⟨rfl, E⟩ := q
    exact ⟨rfl, E⟩
  | exc c w S' => rw [e] at q; exact q.elim
  | stuck => rw [e] at q; exact q.elim
theorem PF.hear {h : Nat} {hd : Heard} {e : E} {v : D} (hh : P.hears[h]? = some hd) (g : PF (ev P C e σ) v) : PF (ev P C (.heard h e) σ) (.tup [.str hd.told, v]) := by
  rw [ev_heard, hh]
  exact hear_pf g
theorem PF.hearX {h : Nat} {hd : Heard} {e : E} {c : Nat} {w : D} (hh : P.hears[h]? = some hd) (hs : P.sub c hd.root = true) (g : ev P C e σ = thr c w) : PF (ev P C (.heard h e) σ) (.tup [.str (joined P hd c), w]) := by
  rw [ev_heard, hh]
  dsimp only
  rw [g, hear_thr hd hs]
  exact PF.ret
/-- one by one -/
def AllPF (P : Prog) (C : Nat → List D → M D) (σ : Env) : List E → List D → Prop
  | [], [] => True
  | e :: es, y :: ys => PF (ev P C e σ) y ∧ AllPF P C σ es ys
  | _, _ => False
def appS (i : Nat) (e : E) : Z.S := .expr (.app (.v i) e)
theorem apps_wp {i b : Nat} {rest : List Z.S} {Q : F → Sto → Prop} {S0 : Sto} (hi : σ[i]? = some (some (.loc b))) (hb : S0.length ≤ b) : ∀ {es : List E} {ys xs : List D} {S : Sto}, AllPF P C σ es ys → Ext S0 S → S[b]? = some (.lst xs) → xs.length + ys.length ≤ line →
    (∀ S', Ext S0 S' → S'[b]? = some (.lst (xs ++ ys)) → wp (exs P C rest σ) Q X S') → wp (exs P C (es.map (appS i) ++ rest) σ) Q X S
  | [], [], xs, S, _, E, g, _, k => by
    rw [List.append_nil] at k
    exact k S E g
  | [], _ :: _, _, _, h, _, _, _, _ => h.elim
  | _ :: _, [], _, _, h, _, _, _, _ => h.elim
  | e :: es, y :: ys, xs, S, h, E, g, hl, k => by
    rw [List.map_cons, List.cons_append, exs_cons]
    show wp (bd (ex P C (.expr (.app (.v i) e)) σ) _) Q X S
    simp only [List.length_cons] at hl
    rw [ex_expr, bd_bd, wp_bd]
    refine app_wp hi (wp_imp (h.1 X S) ?_)
    rintro _ S1 ⟨rfl, E1⟩
    refine ⟨xs, E1.get g, by omega, ?_⟩
    simp -implicitDefEqProofs only [ret_bd]
    refine apps_wp hi hb h.2 ((E.trans E1).set hb) (get_set (E1.get g)) (by rw [List.length_append]; simp; omega) fun S' E' g' => k S' E' ?_
    rw [g', List.append_assoc]
    rfl
/-- what is owed: each told -/
def cOwe (i : Nat) (told : Str) (e : E) : E := .lc (.nm i) (.val e) (.tup [(.k (.str told)), (.v i)])
theorem owe_wp {i b : Nat} {told : Str} {l : List D} {Q : D → Sto → Prop} (hi : i < σ.length) {e : E} (he : wp (ev P C e σ) (fun r S' => r = .loc b ∧ S'[b]? = some (.lst l) ∧ Q (.loc S'.length) (S' ++ [.lst (l.map fun d => D.tup [.str told, d])])) X S) (hl : l.length ≤ line) : wp (ev P C (cOwe i told e) σ) Q X S := by
  unfold cOwe
  rw [ev_lc, walk_val, bd_bd, wp_bd]
  refine wp_imp he ?_
  rintro _ S' ⟨rfl, g, q⟩
  rw [wo_loc, bd_bd, wp_bd, wp_getL]
  refine ⟨l, g, ?_⟩
  rw [ret_bd]
  rw [wp_bd]
  refine wp_calm (lcL_at_wp (fun k r S'' => S'' = S' ∧ k ++ r.map (fun d => D.tup [.str told, d]) = l.map fun d => D.tup [.str told, d]) ?_ ?_ ?_ ?_)
  · rintro k r S'' ⟨rfl, _⟩
    exact g
  · rintro d r k S'' hd ⟨rfl, hk⟩
    have e1 : (wipeE σ (T.nm i).own).set i (some d) = σ.set i (some d) := by
      show (σ.set i none).set i (some d) = _
      rw [List.set_set]
    rw [bind_nm, ret_bd, e1, ev_tup, evs_cons, ev_k, ret_bd, evs_cons, ev_v, List.getElem?_set_self hi]
    dsimp only
    rw [ret_bd, evs_nil, ret_bd, ret_bd, ret_bd, newT2, ret_bd, wp_ret]
    refine ⟨rfl, ?_⟩
    rw [← hk]
    simp
  · rintro k S'' ⟨rfl, hk⟩
    rw [List.map_nil, List.append_nil] at hk
    subst hk
    rw [wp_new]
    exact ⟨by rw [List.length_map]; exact hl, q⟩
  · exact ⟨rfl, by simp⟩
end
section
variable {P : Prog} {n f w : Nat} {S : Sto} {X : Nat → D → Sto → Prop}
theorem hz0_le (H : Hz) : hz0.le H := fun a l z => by
  unfold hz0 at z
  cases z
/-- two lists that are alike -/
theorem same_self {a b : Nat} {l : List D} (hf : P.fns[f]? = some ⟨2, 7, cSame w cPair⟩) (hw : P.fns[w]? = some ⟨1, 1, cIsWhole⟩) (ha : S[a]? = some (.lst l)) (hb : S[b]? = some (.lst l)) (hl : l.length ≤ 20) (hv : ∀ x ∈ l, Lv hz0 20 3 x) : wp (callP P (n + 2) f [.loc a, .loc b]) (fun r S' => r = .bl true ∧ Ext S S') X S := by
  obtain ⟨m, hm, he⟩ := EqL.all (H := hz0) (b := lvN 20 3) fun x hx => Lv.eql (hv x hx)
  let H : Hz := (hz0.put a l).put b l
  have A : Agr H S := ((Agr.hz0 S).put ha).put hb
  have ga : H a = some l := by
    show (if a = b then some l else (hz0.put a l) a) = _
    by_cases e : a = b
    · rw [if_pos e]
    · rw [if_neg e, Hz.put_self]
  have gb : H b = some l := Hz.put_self
  have big := EqL.lst1 ga gb (he.mono (hz0_le H))
  have hm' : m ≤ 20 * 8421 := Nat.le_trans hm (Nat.mul_le_mul hl (by decide))
  exact same_wp hf hw A big (by unfold line; omega)
end
theorem lv_int {i : Int} {c k : Nat} {H : Hz} : Lv H c k (.int i) := Lv.flat rfl
theorem lv_bl {b : Bool} {c k : Nat} {H : Hz} : Lv H c k (.bl b) := Lv.flat rfl
theorem lv_str {s : Str} (h : PyData.strOk s = true) {c k : Nat} {H : Hz} : Lv H c k (.str s) := Lv.flat h
theorem lv_iN {xs : List Nat} {c k : Nat} {H : Hz} (h : xs.length ≤ c) : Lv H c (k + 1) (.tup (iN xs)) := Lv.tup (by rw [iN_len]; exact h) fun x hx => by
  obtain ⟨i, _, rfl⟩ := List.mem_map.mp hx
  exact lv_int
theorem lv_hds {N : Nat} {xs : List Nat} {c k : Nat} {H : Hz} (h : N + 1 ≤ c) : Lv H c (k + 1) (.tup (hdsV N xs)) := Lv.tup (by rw [hdsV_len]; exact h) fun x hx => by
  obtain ⟨i, _, rfl⟩ := List.mem_map.mp hx
  exact lv_int
theorem lv_two {s : Str} {d : D} {c k : Nat} {H : Hz} (hs : PyData.strOk s = true) (h : Lv H (c + 2) k d) : Lv H (c + 2) (k + 1) (.tup [.str s, d]) := Lv.tup (by simp) fun x hx => by
  rcases List.mem_cons.mp hx with rfl | hx
  · exact lv_str hs
  · cases List.mem_singleton.mp hx
    exact h
section
variable {P : Prog} {C : Nat → List D → M D} {σ : Env} {S : Sto} {X : Nat → D → Sto → Prop} {xs : List Nat}
theorem wipe_set {i : Nat} {d : D} : (wipeE σ (T.nm i).own).set i (some d) = σ.set i (some d) := by
  show (σ.set i none).set i (some d) = _
  rw [List.set_set]
/-- the numbers that pass -/
theorem lcif_iN {i : Nat} {it : I} {t : E} {p : Nat → Bool} (hi : i < σ.length) (hw : walk P C it σ = Z.ret (.fix (iN xs))) (ht : ∀ z ∈ xs, tst P C t (σ.set i (some (.int (z : Int)))) = Z.ret (p z)) (hl : xs.length ≤ line) : wp (ev P C (.lcif (.nm i) it t (.v i)) σ) (fun r S' => r = .loc S.length ∧ S' = S ++ [.lst (iN (xs.filter p))]) X S := by
  rw [ev_lcif, hw, ret_bd, lcL_fix, lcD_iN (p := p), calm_ret, ret_bd, wp_new]
  · refine ⟨?_, rfl, rfl⟩
    rw [iN_len]
    exact Nat.le_trans (List.length_filter_le _ _) hl
  · intro z hz
    rw [bind_nm, ret_bd, wipe_set, ht z hz, ret_bd, ev_v, List.getElem?_set_self hi]
    dsimp only
    rw [ret_bd]
    cases p z <;> rfl
/-- one thing of each number -/
theorem lc_iN {i : Nat} {it : I} {e : E} {g : Nat → D} (hw : walk P C it σ = Z.ret (.fix (iN xs))) (he : ∀ z ∈ xs, PF (ev P C e (σ.set i (some (.int (z : Int))))) (g z)) (hl : xs.length ≤ line) : wp (ev P C (.lc (.nm i) it e) σ) (fun r S' => ∃ b, r = .loc b ∧ S.length ≤ b ∧ S'[b]? = some (.lst (xs.map g)) ∧ Ext S S') X S := by
  rw [ev_lc, hw, ret_bd, lcL_fix, wp_bd]
  refine wp_calm (wp_imp (lcD_map_wp (g := g) fun z hz S' => ?_) ?_)
  · rw [bind_nm, ret_bd, wipe_set, wp_bd]
    refine wp_imp (he z hz _ S') ?_
    rintro _ S'' ⟨rfl, E⟩
    rw [wp_ret]
    exact ⟨rfl, E⟩
  · rintro _ S' ⟨rfl, E⟩
    rw [wp_new]
    refine ⟨by rw [List.length_map]; exact hl, _, rfl, E.len, get_last _ _, E.trans (Ext.app _ _)⟩
theorem len_loc_wp {Q : D → Sto → Prop} {b : Nat} {l : List D} (g : S[b]? = some (.lst l)) (q : Q (.int l.length) S) : wp (prim1 .len (.loc b)) Q X S := by
  rw [len_loc, wp_bd, wp_getL]
  refine ⟨l, g, ?_⟩
  rw [wp_ret]
  exact q
end
end Zp
end
section
/-! ZLr: the program of k02: what its functions tell. -/
namespace Zp
open Z
open PySem (Str PyData)
def cFull : List Z.S := [.expr (.call 2 [(.v 0)]), .expr (.call 1 [(.v 1), (.k (.int 0)), (.v 0)]), .ret (.tupOf (.rg2 (.v 1) (.v 0)))]
def cClup : List Z.S := [.expr (.call 2 [(.v 0)]), .expr (.call 1 [(.v 1), (.k (.int 0)), (.v 0)]), .ret (.tupOf (.rg1 (.v 1)))]
def cIsC : List Z.S := [.set 2 (.call 3 [(.v 0), (.v 1)]), .ret (.cmp .eq (.v 2) (.tupOf (.rg1 (.p1 .len (.v 2)))))]
def cStray : List Z.S := [.set 2 (.call 3 [(.v 0), (.v 1)]), .ret (.p1 .len (.lcif (.nm 3) (.val (.v 2)) (.cmp .ge (.v 3) (.p1 .len (.v 2))) (.v 3)))]
def cHoles : List Z.S := [.set 2 (.call 3 [(.v 0), (.v 1)]), .ifs (.nt (.v 2)) [.ret (.tup [])] [], .ret (.tupG (.rg1 (.ix (.v 2) (.neg (.k (.int 1))))) (.notin .x (.v 2)) .x)]
def cHdf : List Z.S := [.ret (.call 9 [(.v 0), (.call 3 [(.v 0), (.v 1)])])]
def cFrH : List Z.S := [.ret (.call 10 [(.call 11 [(.v 0), (.v 1)])])]
def znL2 : List E := [(.k (.int 1)), (.k (.int 1)), (.k (.int 2)), (.k (.int 2)), (.k (.int 3)), (.k (.int 3)), (.k (.int 4)), (.k (.int 5)), (.k (.int 7)), (.k (.int 12)), (.k (.int 12))]
def cFree : List Z.S := [.ret (.ite (.cmp .ne (.v 0) (.tup [])) (.tupOf (.val (.lcif (.nm 1) (.rg1 (.ix (.v 0) (.neg (.k (.int 1))))) (.cmp .notin (.v 1) (.v 0)) (.v 1)))) (.tup []))]
structure P2 (P : Prog) : Prop where
  f0 : P.fns[0]? = some ⟨3, 3, cWhole⟩
  f1 : P.fns[1]? = some ⟨3, 3, cMany 0 1⟩
  f2 : P.fns[2]? = some ⟨1, 1, cLine 1 12⟩
  f3 : P.fns[3]? = some ⟨2, 5, cAskS 2 0 2⟩
  f4 : P.fns[4]? = some ⟨2, 2, cFull⟩
  f5 : P.fns[5]? = some ⟨2, 2, cClup⟩
  f6 : P.fns[6]? = some ⟨2, 3, cIsC⟩
  f7 : P.fns[7]? = some ⟨2, 4, cStray⟩
  f8 : P.fns[8]? = some ⟨2, 4, cHoles⟩
  f9 : P.fns[9]? = some ⟨2, 4, cHof⟩
  f10 : P.fns[10]? = some ⟨1, 2, cSof⟩
  f11 : P.fns[11]? = some ⟨2, 6, cAskH 2 0 3⟩
  f12 : P.fns[12]? = some ⟨2, 2, cHdf⟩
  f13 : P.fns[13]? = some ⟨2, 2, cFrH⟩
  f14 : P.fns[14]? = some ⟨1, 5, cPool⟩
  f15 : P.fns[15]? = some ⟨2, 3, cTake⟩
  f16 : P.fns[16]? = some ⟨2, 2, cOne 15⟩
  f17 : P.fns[17]? = some ⟨1, 1, cIsWhole⟩
  f18 : P.fns[18]? = some ⟨3, 3, cIsIn 17⟩
  f19 : P.fns[19]? = some ⟨2, 7, cSame 17 cPair⟩
  f20 : P.fns[20]? = some ⟨2, 3, cFltS 18⟩
  f21 : P.fns[21]? = some ⟨2, 4, cFltH 18⟩
  f22 : P.fns[22]? = some ⟨2, 4, cHds⟩
  f23 : P.fns[23]? = some ⟨1, 1, cZn 16 znL2⟩
  f24 : P.fns[24]? = some ⟨2, 6, cZs 15 cZsNe (cZsDr 15)⟩
  f25 : P.fns[25]? = some ⟨1, 2, cFree⟩
  hd : ∃ hd, P.hears[0]? = some hd ∧ hd.told = ("told" : Str) ∧ joined P hd 1 = ("BadMany" : Str) ∧ P.sub 1 hd.root = true ∧ joined P hd 2 = ("BadStanding" : Str) ∧ P.sub 2 hd.root = true ∧ joined P hd 3 = ("BadHeads" : Str) ∧ P.sub 3 hd.root = true
section
variable {P : Prog} {n f w c z j K N : Nat} {S : Sto} {X : Nat → D → Sto → Prop} {xs : List Nat} {d e : D}
theorem isN12 (h : 1 ≤ N ∧ N ≤ 12) : isIn (.int (N : Int)) 1 12 = true := by
  simp [isIn]
  omega
/-! ### asked -/
theorem P2.askS (L : P2 P) (hN : 1 ≤ N ∧ N ≤ 12) (hd : ∀ l, d = .tup l → l.length ≤ line) : callP P (n + 4) 3 [.int (N : Int), d] = madeS N 2 d := askS_eq (n := n) L.f3 L.f2 L.f1 L.f0 (isN12 hN) hd
theorem P2.askS_ok (L : P2 P) (hN : 1 ≤ N ∧ N ≤ 12) (hs : Std N xs) : callP P (n + 4) 3 [.int (N : Int), .tup (iN xs)] = ret (.tup (iN xs)) := by
  rw [L.askS hN (fun l q => by cases q; rw [iN_len]; have := std_len hs; unfold line; omega)]
  unfold madeS
  dsimp only
  rw [fltS_std hs]
theorem P2.askH_ok (L : P2 P) (hN : 1 ≤ N ∧ N ≤ 12) (hs : Std N xs) : callP P (n + 4) 11 [.int (N : Int), .tup (hdsV N xs)] = ret (.tup (hdsV N xs)) := by
  rw [askH_eq (n := n) L.f11 L.f2 L.f1 L.f0 (isN12 hN) (fun l q => by cases q; rw [hdsV_len]; unfold line; omega)]
  unfold madeH
  rw [fltH_std (std_nodup hs)]
/-! ### told -/
theorem P2.heads (L : P2 P) (hN : 1 ≤ N ∧ N ≤ 12) (hs : Std N xs) : PF (callP P (n + 5) 12 [.int (N : Int), .tup (iN xs)]) (.tup (hdsV N xs)) := fun X S => by
  rw [call_eq L.f12 rfl]
  simp -implicitDefEqProofs only [cHdf, exs_cons, ex_ret, ev_call, evs_cons, evs_nil, ev_v, List.map_cons, List.map_nil, List.cons_append, List.nil_append, List.replicate, Nat.sub_self, List.getElem?_cons_zero, List.getElem?_cons_succ, ret_bd, bd_bd, L.askS_ok (n := n) hN hs, wp_bd]
  refine wp_imp (hof_wp (n := n + 3) L.f9 (by omega) (std_nodup hs)) ?_
  rintro _ S' ⟨rfl, E⟩
  rw [wp_ret]
  exact ⟨rfl, E⟩
theorem P2.from_heads (L : P2 P) (hN : 1 ≤ N ∧ N ≤ 12) (hs : Std N xs) : callP P (n + 5) 13 [.int (N : Int), .tup (hdsV N xs)] = ret (.tup (iN xs)) := by
  rw [call_eq L.f13 rfl]
  simp -implicitDefEqProofs only [cFrH, exs_cons, ex_ret, ev_call, evs_cons, evs_nil, ev_v, List.map_cons, List.map_nil, List.cons_append, List.nil_append, List.replicate, Nat.sub_self, List.getElem?_cons_zero, List.getElem?_cons_succ, ret_bd, bd_bd, L.askH_ok (n := n) hN hs, sof_eq (n := n + 3) L.f10 (by omega) hs]
theorem len_iN {xs : List Nat} : prim1 .len (.tup (iN xs)) = ret (.int (xs.length : Int)) := by rw [len_tup, iN_len]
theorem P2.is_closed (L : P2 P) (hN : 1 ≤ N ∧ N ≤ 12) (hs : Std N xs) : callP P (n + 5) 6 [.int (N : Int), .tup (iN xs)] = ret (.bl (decide (xs = List.range xs.length))) := by
  have hl := std_len hs
  have rg := rg_small (i := (xs.length : Int)) (by omega)
  have et : newT (iN (List.range xs.length)) = ret (.tup (iN (List.range xs.length))) := newT_is _ (by rw [iN_len, List.length_range]; unfold line; omega)
  rw [call_eq L.f6 rfl]
  simp -implicitDefEqProofs only [cIsC, exs_cons, ex_ret, ex_set, ev_call, evs_cons, evs_nil, ev_v, ev_cmp, ev_tupOf, walk_rg1, ev_p1, List.map_cons, List.map_nil, List.cons_append, List.nil_append, List.replicate, List.set_cons_zero, List.set_cons_succ, List.getElem?_cons_zero, List.getElem?_cons_succ, ret_bd, bd_bd, L.askS_ok (n := n) hN hs, len_iN, rg, if_true, ranges0_iN, et, eq_iN]
theorem P2.stray (L : P2 P) (hN : 1 ≤ N ∧ N ≤ 12) (hs : Std N xs) : PF (callP P (n + 5) 7 [.int (N : Int), .tup (iN xs)]) (.int (far xs : Int)) := fun X S => by
  have hl := std_len hs
  rw [call_eq L.f7 rfl]
  have hb : ∀ (X : Nat → D → Sto → Prop) (S : Sto), wp (ev P (callP P (n + 4)) (.lcif (.nm 3) (.val (.v 2)) (.cmp .ge (.v 3) (.p1 .len (.v 2))) (.v 3)) [some (.int (N : Int)), some (.tup (iN xs)), some (.tup (iN xs)), none]) (fun r S' => r = .loc S.length ∧ S' = S ++ [.lst (iN (xs.filter fun z => decide (xs.length ≤ z)))]) X S := fun X S => by
    refine lcif_iN (by simp) (by rw [walk_val, ev_vi (i := 2) rfl, ret_bd, wo_tup]) (fun z hz => ?_) (by unfold line; omega)
    simp -implicitDefEqProofs only [List.set_cons_zero, List.set_cons_succ, ret_bd, bd_bd, tst_cmp, ev_cmp, ev_p1, ev_v, List.getElem?_cons_zero, List.getElem?_cons_succ, len_iN, ge_int, tr_bl]
    by_cases q : xs.length ≤ z
    · have : (xs.length : Int) ≤ (z : Int) := by omega
      simp [q, this]
    · have : ¬ (xs.length : Int) ≤ (z : Int) := by omega
      simp [q, this]
  unfold cStray
  generalize E.lcif (.nm 3) (.val (.v 2)) (.cmp .ge (.v 3) (.p1 .len (.v 2))) (.v 3) = lc at *
  simp -implicitDefEqProofs only [exs_cons, ex_ret, ex_set, ev_call, evs_cons, evs_nil, ev_v, ev_p1, List.map_cons, List.map_nil, List.cons_append, List.nil_append, List.replicate, List.set_cons_zero, List.set_cons_succ, List.getElem?_cons_zero, List.getElem?_cons_succ, ret_bd, bd_bd, L.askS_ok (n := n) hN hs, wp_bd]
  refine wp_imp (hb X S) ?_
  rintro _ S1 ⟨rfl, rfl⟩
  refine len_loc_wp (get_last _ _) ?_
  rw [iN_len]
  simp -implicitDefEqProofs only [wp_ret, ret_bd]
  exact ⟨rfl, Ext.app _ _⟩
theorem gap_of {zz : Nat} (h : xs.getLast? = some zz) : gap xs = (List.range zz).filter fun i => !decide (i ∈ xs) := by
  unfold gap
  rw [h]
theorem P2.holes (L : P2 P) (hN : 1 ≤ N ∧ N ≤ 12) (hs : Std N xs) : callP P (n + 5) 8 [.int (N : Int), .tup (iN xs)] = ret (.tup (iN (gap xs))) := by
  rw [call_eq L.f8 rfl]
  cases hz : xs.getLast? with
  | none =>
    have e := List.getLast?_eq_none_iff.mp hz
    subst e
    simp -implicitDefEqProofs only [cHoles, exs_cons, ex_ret, ex_set, ex_ifs, tst_nt, tst_v, ev_call, evs_cons, evs_nil, ev_v, ev_tup, List.map_cons, List.map_nil, List.cons_append, List.nil_append, List.replicate, List.set_cons_zero, List.set_cons_succ, List.getElem?_cons_zero, List.getElem?_cons_succ, ret_bd, bd_bd, L.askS_ok (n := n) hN hs]
    have : truth (.tup (iN [])) = ret false := rfl
    simp -implicitDefEqProofs only [this, ret_bd, Bool.not_false, if_true, newT0, bd_bd]
    rfl
  | some zz =>
    have hm : zz ∈ xs := List.mem_of_getLast? hz
    have hlt := std_lt hs hm
    have rg := rg_small (i := (zz : Int)) (by omega)
    obtain ⟨os, g1, g2⟩ := gAll_iN (σ := [some (.int (N : Int)), some (.tup (iN xs)), some (.tup (iN xs)), none]) (t := .notin .x (.v 2)) (e := .x) (p := fun i => !decide (i ∈ xs)) (xs := List.range zz) fun i hi => by
      have t : gtst [some (.int (N : Int)), some (.tup (iN xs)), some (.tup (iN xs)), none] (.int (i : Int)) (.notin .x (.v 2)) = some (!decide (i ∈ xs)) := by
        show (if (flat (.int (i : Int)) && (iN xs).all flat) = true then some (!memF (.int (i : Int)) (iN xs)) else none) = _
        rw [flat_iN, memF_iN]
        rfl
      unfold gOne
      rw [t]
      by_cases q : i ∈ xs <;> simp [q, gev]
    have et : newT (iN ((List.range zz).filter fun i => !decide (i ∈ xs))) = ret (.tup (iN ((List.range zz).filter fun i => !decide (i ∈ xs)))) := newT_is _ (by
      rw [iN_len]
      have := List.length_filter_le (fun i => !decide (i ∈ xs)) (List.range zz)
      rw [List.length_range] at this
      unfold line
      omega)
    have tr : truth (.tup (iN xs)) = ret true := by
      cases xs with
      | nil => cases hm
      | cons a b => rfl
    simp -implicitDefEqProofs only [cHoles, exs_cons, exs_nil, ex_ret, ex_set, ex_ifs, tst_nt, tst_v, ev_call, evs_cons, evs_nil, ev_v, ev_k, ev_neg, ev_ix, ev_tupG, gsrc_rg1, List.map_cons, List.map_nil, List.cons_append, List.nil_append, List.replicate, List.set_cons_zero, List.set_cons_succ, List.getElem?_cons_zero, List.getElem?_cons_succ, ret_bd, bd_bd, L.askS_ok (n := n) hN hs, tr, Bool.not_true, Bool.false_eq_true, if_false, last_iN hz, rg, if_true, ranges0_iN, g1, g2, et, gap_of hz]
theorem P2.free (L : P2 P) (hs : Std N xs) (hN : N ≤ 12) : PF (callP P (n + 1) 25 [.tup (iN xs)]) (.tup (iN (gap xs))) := fun X S => by
  have e0 : (D.tup []) = .tup (iN []) := rfl
  rw [call_eq L.f25 rfl]
  cases hz : xs.getLast? with
  | none =>
    have e := List.getLast?_eq_none_iff.mp hz
    subst e
    simp -implicitDefEqProofs only [cFree, exs_cons, ex_ret, ev_ite, tst_cmp, ev_cmp, ev_v, ev_tup, evs_nil, List.map_cons, List.map_nil, List.cons_append, List.nil_append, List.replicate, List.getElem?_cons_zero, List.getElem?_cons_succ, ret_bd, bd_bd, newT0, e0, ne_iN, tr_bl, decide_true, Bool.not_true, Bool.false_eq_true, if_false, wp_ret]
    exact ⟨rfl, Ext.refl _⟩
  | some zz =>
    have hm : zz ∈ xs := List.mem_of_getLast? hz
    have hlt := std_lt hs hm
    have rg := rg_small (i := (zz : Int)) (by omega)
    have hne : decide (xs = []) = false := by
      cases xs with
      | nil => cases hm
      | cons a b => simp
    have hb : ∀ (X : Nat → D → Sto → Prop) (S : Sto), wp (ev P (callP P n) (.lcif (.nm 1) (.rg1 (.ix (.v 0) (.neg (.k (.int 1))))) (.cmp .notin (.v 1) (.v 0)) (.v 1)) [some (.tup (iN xs)), none]) (fun r S' => r = .loc S.length ∧ S' = S ++ [.lst (iN ((List.range zz).filter fun i => !decide (i ∈ xs)))]) X S := fun X S => by
      refine lcif_iN (by simp) ?_ (fun i hi => ?_) (by rw [List.length_range]; unfold line; omega)
      · simp -implicitDefEqProofs only [walk_rg1, ev_ix, ev_neg, ev_k, ev_v, List.getElem?_cons_zero, List.getElem?_cons_succ, ret_bd, bd_bd, last_iN hz, rg, if_true, ranges0_iN]
      · simp -implicitDefEqProofs only [List.set_cons_zero, List.set_cons_succ, ret_bd, bd_bd, tst_cmp, ev_cmp, ev_v, List.getElem?_cons_zero, List.getElem?_cons_succ, notin_iN, tr_bl]
    unfold cFree
    generalize E.lcif (.nm 1) (.rg1 (.ix (.v 0) (.neg (.k (.int 1))))) (.cmp .notin (.v 1) (.v 0)) (.v 1) = lc at *
    simp -implicitDefEqProofs only [exs_cons, ex_ret, ev_ite, tst_cmp, ev_cmp, ev_v, ev_tup, evs_nil, List.map_cons, List.map_nil, List.cons_append, List.nil_append, List.replicate, List.getElem?_cons_zero, List.getElem?_cons_succ, ret_bd, bd_bd, newT0, e0, ne_iN, tr_bl, hne, Bool.not_false, if_true, wp_bd]
    refine tupOf_wp (wp_imp (hb X S) ?_)
    rintro _ S1 ⟨rfl, rfl⟩
    have hl : (iN ((List.range zz).filter fun i => !decide (i ∈ xs))).length ≤ line := by
      rw [iN_len]
      have := List.length_filter_le (fun i => !decide (i ∈ xs)) (List.range zz)
      rw [List.length_range] at this
      unfold line
      omega
    refine ⟨_, _, rfl, get_last _ _, hl, ?_⟩
    simp -implicitDefEqProofs only [wp_ret, gap_of hz]
    exact ⟨trivial, Ext.app _ _⟩
end
end Zp
end
section
/-! ZLt: the program of k02: its ends, its refusals. -/
namespace Zp
open Z
open PySem (Str PyData)
section
variable {P : Prog} {n f w c z j K N : Nat} {S : Sto} {X : Nat → D → Sto → Prop} {xs : List Nat} {d e v : D}
theorem isN12n (h : 1 ≤ N ∧ N ≤ 12) : isIn (.int (N : Int)) 1 ((12 : Nat) : Int) = true := isN12 h
theorem isO12 (h : isIn e 1 12 = false) : isIn e 1 ((12 : Nat) : Int) = false := h
theorem P2.zfh (L : P2 P) (hN : N ≤ 100) (hl : xs.length ≤ line) : PF (callP P (n + 1) 22 [.int (N : Int), .tup (iN xs)]) (.tup (hdsV N xs)) := fun X S => by
  rw [call_eq L.f22 rfl]
  have rg := rg_small (i := ((N + 1 : Nat) : Int)) (by omega)
  have c1 : (N : Int) + 1 = ((N + 1 : Nat) : Int) := by omega
  have hin : ∀ p : Nat, PF (ev P (callP P n) cHdsI [some (.int (N : Int)), some (.tup (iN xs)), some (.int (p : Int)), none]) (.int (cnt xs p : Int)) := fun p X S => by
    unfold cHdsI
    rw [ev_p1, wp_bd]
    refine wp_imp (lcif_iN (xs := xs) (p := fun z => decide (z < p)) (by simp) (by rw [walk_val, ev_vi (i := 1) rfl, ret_bd, wo_tup]) (fun z hz => ?_) hl) ?_
    · simp -implicitDefEqProofs only [List.set_cons_zero, List.set_cons_succ, ret_bd, bd_bd, tst_cmp, ev_cmp, ev_v, List.getElem?_cons_zero, List.getElem?_cons_succ, lt_int, tr_bl]
      by_cases q : z < p
      · have : (z : Int) < (p : Int) := by omega
        simp [q, this]
      · have : ¬ (z : Int) < (p : Int) := by omega
        simp [q, this]
    · rintro _ S1 ⟨rfl, rfl⟩
      refine len_loc_wp (get_last _ _) ?_
      rw [iN_len]
      exact ⟨rfl, Ext.app _ _⟩
  have hb : ∀ (X : Nat → D → Sto → Prop) (S : Sto), wp (ev P (callP P n) (.lc (.nm 2) (.rg1 (.bin .add (.v 0) (.k (.int 1)))) cHdsI) [some (.int (N : Int)), some (.tup (iN xs)), none, none]) (fun r S' => ∃ b, r = .loc b ∧ S.length ≤ b ∧ S'[b]? = some (.lst (hdsV N xs)) ∧ Ext S S') X S := fun X S => by
    refine lc_iN (xs := List.range (N + 1)) (g := fun p => .int (cnt xs p : Int)) ?_ (fun p hp => hin p) (by rw [List.length_range]; unfold line; omega)
    simp -implicitDefEqProofs only [walk_rg1, ev_bin, ev_k, ev_v, List.getElem?_cons_zero, List.getElem?_cons_succ, ret_bd, bd_bd, add_int, c1, rg, if_true, ranges0_iN]
  unfold cHds
  generalize E.lc (.nm 2) (.rg1 (.bin .add (.v 0) (.k (.int 1)))) cHdsI = lc at *
  rw [exs_cons, ex_ret]
  simp -implicitDefEqProofs only [bd_bd, wp_bd]
  refine tupOf_wp (wp_imp (hb X S) ?_)
  rintro _ S1 ⟨b, rfl, hb, g, E⟩
  refine ⟨_, _, rfl, g, by rw [hdsV_len]; unfold line; omega, ?_⟩
  simp -implicitDefEqProofs only [ret_bd, wp_ret]
  exact ⟨trivial, E⟩
/-! ### the ends -/
theorem P2.full (L : P2 P) (hN : 1 ≤ N ∧ N ≤ 12) {m : Nat} (hm : m ≤ N) : callP P (n + 4) 4 [.int (N : Int), .int (m : Int)] = ret (.tup (iN (List.range' m (N - m)))) := by
  have h1 : isIn (.int (m : Int)) 0 (N : Int) = true := by simp [isIn]; omega
  have rg : (rgok (m : Int) && rgok (N : Int)) = true := by rw [rg_small (by omega), rg_small (by omega)]; rfl
  have et : newT (iN (List.range' m (N - m))) = ret (.tup (iN (List.range' m (N - m)))) := newT_is _ (by rw [iN_len]; simp [line]; omega)
  rw [call_eq L.f4 rfl]
  simp -implicitDefEqProofs only [cFull, exs_cons, ex_ret, ex_expr, ev_call, evs_cons, evs_nil, ev_v, ev_k, ev_tupOf, walk_rg2, List.map_cons, List.map_nil, List.cons_append, List.nil_append, List.replicate, Nat.sub_self, List.getElem?_cons_zero, List.getElem?_cons_succ, ret_bd, bd_bd, line_eq (n := n) L.f2 L.f1 L.f0, isN12n hN, if_true, many_eq (n := n + 1) L.f1 L.f0, h1, rg, ranges_iN, et]
theorem P2.clup (L : P2 P) (hN : 1 ≤ N ∧ N ≤ 12) {m : Nat} (hm : m ≤ N) : callP P (n + 4) 5 [.int (N : Int), .int (m : Int)] = ret (.tup (iN (List.range m))) := by
  have h1 : isIn (.int (m : Int)) 0 (N : Int) = true := by simp [isIn]; omega
  have rg : rgok (m : Int) = true := rg_small (by omega)
  have et : newT (iN (List.range m)) = ret (.tup (iN (List.range m))) := newT_is _ (by rw [iN_len]; simp [line]; omega)
  rw [call_eq L.f5 rfl]
  simp -implicitDefEqProofs only [cClup, exs_cons, ex_ret, ex_expr, ev_call, evs_cons, evs_nil, ev_v, ev_k, ev_tupOf, walk_rg1, List.map_cons, List.map_nil, List.cons_append, List.nil_append, List.replicate, Nat.sub_self, List.getElem?_cons_zero, List.getElem?_cons_succ, ret_bd, bd_bd, line_eq (n := n) L.f2 L.f1 L.f0, isN12n hN, if_true, many_eq (n := n + 1) L.f1 L.f0, h1, rg, ranges0_iN, et]
/-! ### refused -/
theorem P2.full_far (L : P2 P) (hN : 1 ≤ N ∧ N ≤ 12) (h : isIn d 0 (N : Int) = false) : callP P (n + 4) 4 [.int (N : Int), d] = thr 1 d := by
  rw [call_eq L.f4 rfl]
  simp -implicitDefEqProofs only [cFull, exs_cons, ex_ret, ex_expr, ev_call, evs_cons, evs_nil, ev_v, ev_k, List.map_cons, List.map_nil, List.cons_append, List.nil_append, List.replicate, Nat.sub_self, List.getElem?_cons_zero, List.getElem?_cons_succ, ret_bd, bd_bd, line_eq (n := n) L.f2 L.f1 L.f0, isN12n hN, if_true, many_eq (n := n + 1) L.f1 L.f0, h, Bool.false_eq_true, if_false, thr_bd]
theorem P2.clup_far (L : P2 P) (hN : 1 ≤ N ∧ N ≤ 12) (h : isIn d 0 (N : Int) = false) : callP P (n + 4) 5 [.int (N : Int), d] = thr 1 d := by
  rw [call_eq L.f5 rfl]
  simp -implicitDefEqProofs only [cClup, exs_cons, ex_ret, ex_expr, ev_call, evs_cons, evs_nil, ev_v, ev_k, List.map_cons, List.map_nil, List.cons_append, List.nil_append, List.replicate, Nat.sub_self, List.getElem?_cons_zero, List.getElem?_cons_succ, ret_bd, bd_bd, line_eq (n := n) L.f2 L.f1 L.f0, isN12n hN, if_true, many_eq (n := n + 1) L.f1 L.f0, h, Bool.false_eq_true, if_false, thr_bd]
theorem P2.full_odd (L : P2 P) (h : isIn e 1 12 = false) : callP P (n + 4) 4 [e, d] = thr 1 e := by
  rw [call_eq L.f4 rfl]
  simp -implicitDefEqProofs only [cFull, exs_cons, ex_expr, ev_call, evs_cons, evs_nil, ev_v, List.map_cons, List.map_nil, List.cons_append, List.nil_append, List.replicate, Nat.sub_self, List.getElem?_cons_zero, List.getElem?_cons_succ, ret_bd, bd_bd, line_eq (n := n) (z := 12) L.f2 L.f1 L.f0, isO12 h, Bool.false_eq_true, if_false, thr_bd]
theorem P2.clup_odd (L : P2 P) (h : isIn e 1 12 = false) : callP P (n + 4) 5 [e, d] = thr 1 e := by
  rw [call_eq L.f5 rfl]
  simp -implicitDefEqProofs only [cClup, exs_cons, ex_expr, ev_call, evs_cons, evs_nil, ev_v, List.map_cons, List.map_nil, List.cons_append, List.nil_append, List.replicate, Nat.sub_self, List.getElem?_cons_zero, List.getElem?_cons_succ, ret_bd, bd_bd, line_eq (n := n) (z := 12) L.f2 L.f1 L.f0, isO12 h, Bool.false_eq_true, if_false, thr_bd]
theorem P2.heads_thr (L : P2 P) (h : callP P n 3 [e, d] = thr c v) : callP P (n + 1) 12 [e, d] = thr c v := by
  rw [call_eq L.f12 rfl]
  simp -implicitDefEqProofs only [cHdf, exs_cons, ex_ret, ev_call, evs_cons, evs_nil, ev_v, List.map_cons, List.map_nil, List.cons_append, List.nil_append, List.replicate, Nat.sub_self, List.getElem?_cons_zero, List.getElem?_cons_succ, ret_bd, bd_bd, h, thr_bd]
theorem P2.from_thr (L : P2 P) (h : callP P n 11 [e, d] = thr c v) : callP P (n + 1) 13 [e, d] = thr c v := by
  rw [call_eq L.f13 rfl]
  simp -implicitDefEqProofs only [cFrH, exs_cons, ex_ret, ev_call, evs_cons, evs_nil, ev_v, List.map_cons, List.map_nil, List.cons_append, List.nil_append, List.replicate, Nat.sub_self, List.getElem?_cons_zero, List.getElem?_cons_succ, ret_bd, bd_bd, h, thr_bd]
theorem P2.isC_thr (L : P2 P) (h : callP P n 3 [e, d] = thr c v) : callP P (n + 1) 6 [e, d] = thr c v := by
  rw [call_eq L.f6 rfl]
  simp -implicitDefEqProofs only [cIsC, exs_cons, ex_set, ev_call, evs_cons, evs_nil, ev_v, List.map_cons, List.map_nil, List.cons_append, List.nil_append, List.replicate, List.getElem?_cons_zero, List.getElem?_cons_succ, ret_bd, bd_bd, h, thr_bd]
theorem P2.stray_thr (L : P2 P) (h : callP P n 3 [e, d] = thr c v) : callP P (n + 1) 7 [e, d] = thr c v := by
  rw [call_eq L.f7 rfl]
  simp -implicitDefEqProofs only [cStray, exs_cons, ex_set, ev_call, evs_cons, evs_nil, ev_v, List.map_cons, List.map_nil, List.cons_append, List.nil_append, List.replicate, List.getElem?_cons_zero, List.getElem?_cons_succ, ret_bd, bd_bd, h, thr_bd]
theorem P2.holes_thr (L : P2 P) (h : callP P n 3 [e, d] = thr c v) : callP P (n + 1) 8 [e, d] = thr c v := by
  rw [call_eq L.f8 rfl]
  simp -implicitDefEqProofs only [cHoles, exs_cons, ex_set, ev_call, evs_cons, evs_nil, ev_v, List.map_cons, List.map_nil, List.cons_append, List.nil_append, List.replicate, List.getElem?_cons_zero, List.getElem?_cons_succ, ret_bd, bd_bd, h, thr_bd]
theorem P2.askS_thr (L : P2 P) (hN : 1 ≤ N ∧ N ≤ 12) (hd : ∀ l, d = .tup l → l.length ≤ line) {i : Int} (h : fltSD (N : Int) d = .int i) : callP P (n + 4) 3 [.int (N : Int), d] = thr 2 (.int i) := by
  rw [L.askS hN hd, madeS_flt, h]
theorem P2.askH_thr (L : P2 P) (hN : 1 ≤ N ∧ N ≤ 12) (hd : ∀ l, d = .tup l → l.length ≤ line) {i : Int} (h : fltHD (N : Int) d = .int i) : callP P (n + 4) 11 [.int (N : Int), d] = thr 3 (.int i) := by
  rw [askH_eq (n := n) L.f11 L.f2 L.f1 L.f0 (isN12 hN) hd]
  unfold madeH
  rw [h]
theorem P2.askS_odd (L : P2 P) (h : isIn e 1 12 = false) : callP P (n + 4) 3 [e, d] = thr 1 e := Zp.askS_odd (n := n) L.f3 L.f2 L.f1 L.f0 h
theorem P2.askH_odd (L : P2 P) (h : isIn e 1 12 = false) : callP P (n + 4) 11 [e, d] = thr 1 e := Zp.askH_odd (n := n) L.f11 L.f2 L.f1 L.f0 h
end
end Zp
end
section
/-! ZLu: what the law k02 says of a standing, of the ends. -/
namespace Zp
open Z
open PySem (Str PyData)
theorem k2told : PyData.strOk "told" = true := by decide +kernel
theorem k2many : PyData.strOk "BadMany" = true := by decide +kernel
theorem k2std : PyData.strOk "BadStanding" = true := by decide +kernel
theorem k2hds : PyData.strOk "BadHeads" = true := by decide +kernel
def tdFar : E := .lcif (.nm 8) (.val (.v 1)) (.cmp .ge (.v 8) (.v 2)) (.v 8)
def tdApps : List E := [(.heard 0 (.call 13 [(.v 0), (.v 7)])), (.heard 0 (.call 6 [(.v 0), (.v 1)])), (.heard 0 (.call 7 [(.v 0), (.v 1)])), (.heard 0 (.call 8 [(.v 0), (.v 1)]))]
def tdT : E := .or (.cmp .ne (.v 6) (.cmp .eq (.v 4) (.k (.int 0)))) (.cmp .ne (.v 6) (.cmp .eq (.v 5) (.tup [])))
def tdOwe : E := cOwe 9 "told" (.lst [(.v 7), (.v 1), (.v 6), (.v 4), (.v 5)])
def cToldR (far t ow : E) : List Z.S := [.par 4 5 (.p1 .len far) (.call 25 [(.v 1)]), .set 6 (.cmp .eq (.v 1) (.tupOf (.rg1 (.v 2)))), .ifs t [.ret (.k (.bl false))] [], .ret (.call 19 [(.v 3), ow])]
def cToldP (ap : List Z.S) : List Z.S := .setT [7, 2] (.tup [(.call 22 [(.v 0), (.v 1)]), (.p1 .len (.v 1))]) :: .set 3 (.lst [(.heard 0 (.call 12 [(.v 0), (.v 1)]))]) :: ap
def cTold : List Z.S := cToldP (tdApps.map (appS 3) ++ cToldR tdFar tdT tdOwe)
section
variable {P : Prog} {n f w c z j K N : Nat} {S : Sto} {X : Nat → D → Sto → Prop} {xs : List Nat} {d e v : D}
theorem evs2 {C : Nat → List D → M D} {σ : Env} {i k : Nat} {a b : D} (h : σ[i]? = some (some a)) (g : σ[k]? = some (some b)) : evs P C [.v i, .v k] σ = ret [a, b] := by
  rw [evs_cons, ev_vi h, ret_bd, evs_cons, ev_vi g, ret_bd, evs_nil, ret_bd, ret_bd]
theorem gap_std (h : Std N xs) : (gap xs).length ≤ N := by
  cases hz : xs.getLast? with
  | none => simp [gap, hz]
  | some zz =>
    rw [gap_of hz]
    have := List.length_filter_le (fun i => !decide (i ∈ xs)) (List.range zz)
    rw [List.length_range] at this
    have := std_lt h (List.mem_of_getLast? hz)
    omega
/-- the list of what is told -/
def tdL (N : Nat) (xs : List Nat) : List D := [.tup (hdsV N xs), .tup (iN xs), .bl (decide (xs = List.range xs.length)), .int (far xs : Int), .tup (iN (gap xs))]
theorem tdL_lv (hN : N ≤ 12) (hs : Std N xs) : ∀ x ∈ (tdL N xs).map (fun d => D.tup [.str "told", d]), Lv hz0 20 3 x := fun x hx => by
  obtain ⟨d, hd, rfl⟩ := List.mem_map.mp hx
  refine lv_two (c := 18) k2told ?_
  have hl := std_len hs
  have hg := gap_std hs
  simp only [tdL, List.mem_cons, List.not_mem_nil, or_false] at hd
  rcases hd with rfl | rfl | rfl | rfl | rfl
  · exact lv_hds (by omega)
  · exact lv_iN (by omega)
  · exact lv_bl
  · exact lv_int
  · exact lv_iN (by omega)
abbrev tdE (N : Nat) (xs : List Nat) (b : Nat) (x4 x5 x6 : Option D) : Env := [some (.int (N : Int)), some (.tup (iN xs)), some (.int (xs.length : Int)), some (.loc b), x4, x5, x6, some (.tup (hdsV N xs)), none, none]
theorem tdFar_wp {C : Nat → List D → M D} {b : Nat} {x4 x5 x6 : Option D} (hs : Std N xs) (hN : N ≤ 12) : PF (ev P C (.p1 .len tdFar) (tdE N xs b x4 x5 x6)) (.int (far xs : Int)) := fun X S => by
  have hl := std_len hs
  unfold tdFar
  rw [ev_p1, wp_bd]
  refine wp_imp (lcif_iN (xs := xs) (p := fun z => decide (xs.length ≤ z)) (by simp) (by rw [walk_val, ev_vi (i := 1) rfl, ret_bd, wo_tup]) (fun z hz => ?_) (by unfold line; omega)) ?_
  · simp -implicitDefEqProofs only [List.set_cons_zero, List.set_cons_succ, ret_bd, bd_bd, tst_cmp, ev_cmp, ev_v, List.getElem?_cons_zero, List.getElem?_cons_succ, ge_int, tr_bl]
    by_cases q : xs.length ≤ z
    · have : (xs.length : Int) ≤ (z : Int) := by omega
      simp [q, this]
    · have : ¬ (xs.length : Int) ≤ (z : Int) := by omega
      simp [q, this]
  · rintro _ S1 ⟨rfl, rfl⟩
    refine len_loc_wp (get_last _ _) ?_
    rw [iN_len]
    exact ⟨rfl, Ext.app _ _⟩
theorem tdT_eq {C : Nat → List D → M D} {b : Nat} (hs : Std N xs) : tst P C tdT (tdE N xs b (some (.int (far xs : Int))) (some (.tup (iN (gap xs)))) (some (.bl (decide (xs = List.range xs.length))))) = ret false := by
  have e0 : (D.tup []) = .tup (iN []) := rfl
  have h1 : decide (xs = List.range xs.length) = ((far xs : Int) == 0) := by
    by_cases q : xs = List.range xs.length
    · have := (closed_far hs).mp q
      rw [decide_eq_true q, this]
      rfl
    · have : far xs ≠ 0 := fun z => q ((closed_far hs).mpr z)
      have e : ((far xs : Int) == 0) = false := by simp; omega
      rw [e, decide_eq_false q]
  have h2 : decide (xs = List.range xs.length) = decide (gap xs = []) := by
    by_cases q : xs = List.range xs.length
    · rw [decide_eq_true q, decide_eq_true ((closed_gap hs).mp q)]
    · rw [decide_eq_false q, decide_eq_false fun z => q ((closed_gap hs).mpr z)]
  unfold tdT
  rw [tst_or, tst_cmp, ev_cmp, ev_vi (i := 6) rfl, ret_bd, ev_cmp, ev_vi (i := 4) rfl, ret_bd, ev_k, ret_bd, eq_int, ret_bd, ret_bd, ne_bl, ← h1]
  simp -implicitDefEqProofs only [beq_self_eq_true, Bool.not_true, ret_bd, tr_bl, Bool.false_eq_true, if_false]
  rw [tst_cmp, ev_cmp, ev_vi (i := 6) rfl, ret_bd, ev_cmp, ev_vi (i := 5) rfl, ret_bd, ev_tup, evs_nil, ret_bd, newT0, ret_bd, e0, eq_iN, ret_bd, ret_bd, ne_bl, ← h2]
  simp -implicitDefEqProofs only [beq_self_eq_true, Bool.not_true, ret_bd, tr_bl]
theorem toldR_wp (L : P2 P) (hN : 1 ≤ N ∧ N ≤ 12) (hs : Std N xs) {b : Nat} (hb : S[b]? = some (.lst ((tdL N xs).map fun d => D.tup [.str "told", d]))) : wp (exs P (callP P (n + 5)) (cToldR tdFar tdT tdOwe) (tdE N xs b none none none)) (fun f S' => f = .ret (.bl true) ∧ Ext S S') X S := by
  have hf := fun X S b x4 x5 x6 => @tdFar_wp P N xs (callP P (n + 5)) b x4 x5 x6 hs hN.2 X S
  have ht := fun b => @tdT_eq P N xs (callP P (n + 5)) b hs
  have how : ∀ (S : Sto) b, wp (ev P (callP P (n + 5)) tdOwe (tdE N xs b (some (.int (far xs : Int))) (some (.tup (iN (gap xs)))) (some (.bl (decide (xs = List.range xs.length)))))) (fun r S' => ∃ b2, r = .loc b2 ∧ S'[b2]? = some (.lst ((tdL N xs).map fun d => D.tup [.str "told", d])) ∧ Ext S S') X S := fun S b => by
    unfold tdOwe
    refine owe_wp (b := S.length) (l := tdL N xs) (by simp) ?_ (by simp [tdL, line])
    have e : evs P (callP P (n + 5)) [(.v 7), (.v 1), (.v 6), (.v 4), (.v 5)] (tdE N xs b (some (.int (far xs : Int))) (some (.tup (iN (gap xs)))) (some (.bl (decide (xs = List.range xs.length))))) = ret (tdL N xs) := by
      simp -implicitDefEqProofs only [evs_cons, evs_nil, ev_v, List.getElem?_cons_zero, List.getElem?_cons_succ, ret_bd, bd_bd, tdL]
    rw [ev_lst, e, ret_bd, wp_new]
    exact ⟨by simp [tdL, line], rfl, get_last _ _, _, rfl, get_last _ _, (Ext.app _ _).trans (Ext.app _ _)⟩
  have hl := std_len hs
  have rg := rg_small (i := (xs.length : Int)) (by omega)
  have et : newT (iN (List.range xs.length)) = ret (.tup (iN (List.range xs.length))) := newT_is _ (by rw [iN_len, List.length_range]; unfold line; omega)
  unfold cToldR
  generalize tdFar = fe at *
  generalize tdT = te at *
  generalize tdOwe = oe at *
  rw [exs_cons, ex_par, bd_bd, wp_bd]
  refine wp_imp (hf X S _ _ _ _) ?_
  rintro _ S1 ⟨rfl, E1⟩
  rw [bd_bd, ev_call, evs_cons, ev_vi (i := 1) rfl, ret_bd, evs_nil, ret_bd, ret_bd, wp_bd]
  refine wp_imp (L.free (n := n + 4) hs hN.2 X S1) ?_
  rintro _ S2 ⟨rfl, E2⟩
  simp -implicitDefEqProofs only [ret_bd, List.set_cons_zero, List.set_cons_succ, exs_cons, exs_nil, ex_set, ex_ifs, ex_ret, ev_cmp, ev_tupOf, walk_rg1, ev_v, ev_call, evs_cons, evs_nil, List.getElem?_cons_zero, List.getElem?_cons_succ, bd_bd, rg, if_true, ranges0_iN, et, eq_iN, ht, Bool.false_eq_true, if_false, wp_bd]
  refine wp_imp (how S2 b) ?_
  rintro _ S3 ⟨b2, rfl, g3, E3⟩
  have hL : ((tdL N xs).map fun d => D.tup [.str "told", d]).length ≤ 20 := by simp [tdL]
  refine wp_imp (same_self (n := n + 3) L.f19 L.f17 (((E1.trans E2).trans E3).get hb) g3 hL (tdL_lv hN.2 hs)) ?_
  rintro _ S4 ⟨rfl, E4⟩
  rw [wp_ret]
  exact ⟨rfl, ((E1.trans E2).trans E3).trans E4⟩
theorem told_pf (L : P2 P) (h : P.fns[f]? = some ⟨2, 10, cTold⟩) (hN : 1 ≤ N ∧ N ≤ 12) (hs : Std N xs) : PF (callP P (n + 6) f [.int (N : Int), .tup (iN xs)]) (.bl true) := fun X S => by
  obtain ⟨hd, hh, ht, _⟩ := L.hd
  rw [call_eq h rfl]
  have hl := std_len hs
  have hr := fun (S : Sto) X b hb => @toldR_wp P n N S X xs L hN hs b hb
  unfold cTold
  generalize cToldR tdFar tdT tdOwe = rr at *
  unfold cToldP
  rw [exs_cons, ex_setT, ev_tup]
  simp -implicitDefEqProofs only [List.map_cons, List.map_nil, List.cons_append, List.nil_append, List.replicate, evs_cons, evs_nil, ev_call, ev_v, ev_p1, List.getElem?_cons_zero, List.getElem?_cons_succ, ret_bd, bd_bd, len_iN, wp_bd]
  refine wp_imp (L.zfh (n := n + 4) (by omega) (by unfold line; omega) X S) ?_
  rintro _ S1 ⟨rfl, E1⟩
  simp -implicitDefEqProofs only [newT2, ret_bd, bindT, setAll, List.set_cons_zero, List.set_cons_succ, wp_ret, wp_bd]
  rw [exs_cons, ex_set, ev_lst, evs_cons, evs_nil]
  simp -implicitDefEqProofs only [bd_bd, wp_bd]
  refine wp_imp (PF.hear hh (PF.call (evs2 (i := 0) (k := 1) rfl rfl) (L.heads (n := n) hN hs)) X S1) ?_
  rintro _ S2 ⟨rfl, E2⟩
  simp -implicitDefEqProofs only [ret_bd, wp_new, List.set_cons_zero, List.set_cons_succ, wp_ret]
  refine ⟨by simp [line], ?_⟩
  have E3 := (E1.trans E2).trans (Ext.app S2 [O.lst [D.tup [.str hd.told, .tup (hdsV N xs)]]])
  refine wp_imp (Q := fun f S' => f = .ret (.bl true) ∧ Ext S S') (apps_wp (S0 := S) (i := 3) (b := S2.length) (ys := [.tup [.str hd.told, .tup (iN xs)], .tup [.str hd.told, .bl (decide (xs = List.range xs.length))], .tup [.str hd.told, .int (far xs : Int)], .tup [.str hd.told, .tup (iN (gap xs))]]) rfl (E1.trans E2).len ?_ E3 (get_last _ _) (by simp [line]) fun S' E' g' => ?_) ?_
  · exact ⟨PF.hear hh (PF.call (evs2 (i := 0) (k := 7) rfl rfl) (PF.of (L.from_heads (n := n) hN hs))), PF.hear hh (PF.call (evs2 (i := 0) (k := 1) rfl rfl) (PF.of (L.is_closed (n := n) hN hs))), PF.hear hh (PF.call (evs2 (i := 0) (k := 1) rfl rfl) (L.stray (n := n) hN hs)), PF.hear hh (PF.call (evs2 (i := 0) (k := 1) rfl rfl) (PF.of (L.holes (n := n) hN hs))), trivial⟩
  · rw [ht] at g'
    refine wp_imp (hr S' X S2.length g') ?_
    rintro _ S4 ⟨rfl, E4⟩
    exact ⟨rfl, E'.trans E4⟩
  · rintro _ S4 ⟨rfl, E4⟩
    rw [wp_ret]
    exact ⟨rfl, E4⟩
end
end Zp
end
section
/-! ZLv: what the law k02 says of the ends. -/
namespace Zp
open Z
open PySem (Str PyData)
def edApps : List E := [(.heard 0 (.call 5 [(.v 0), (.v 3)])), (.heard 0 (.call 12 [(.v 0), (.v 4)])), (.heard 0 (.call 12 [(.v 0), (.v 5)]))]
def edMx : E := .tupOf (.val (.lc (.nm 6) (.rg1 (.bin .add (.v 0) (.k (.int 1)))) (.p2 .max (.k (.int 0)) (.bin .sub (.v 6) (.v 3)))))
def edMn : E := .tupOf (.val (.lc (.nm 6) (.rg1 (.bin .add (.v 0) (.k (.int 1)))) (.p2 .min (.v 6) (.v 3))))
def edOwe : E := cOwe 7 "told" (.v 2)
def cEndsR (mx mn ow : E) : List Z.S := [.set 2 (.lst [(.v 4), (.v 5), mx, mn]), .ifs (.nt (.call 19 [(.v 1), ow])) [.ret (.k (.bl false))] []]
def cEndsP (ap : List Z.S) : List Z.S := .setT [4, 5] (.tup [(.tupOf (.rg2 (.v 3) (.v 0))), (.tupOf (.rg1 (.v 3)))]) :: .set 1 (.lst [(.heard 0 (.call 4 [(.v 0), (.v 3)]))]) :: ap
def cEndsB : List Z.S := cEndsP (edApps.map (appS 1) ++ cEndsR edMx edMn edOwe)
def cEndsL (b : List Z.S) : List Z.S := [.fors (.nm 3) (.rg1 (.bin .add (.v 0) (.k (.int 1)))) b, .ret (.k (.bl true))]
def cEnds : List Z.S := cEndsL cEndsB
section
variable {P : Prog} {n f w c z j K N m : Nat} {S : Sto} {X : Nat → D → Sto → Prop} {xs : List Nat} {d e v : D}
def edL (N m : Nat) : List D := [.tup (iN (List.range' m (N - m))), .tup (iN (List.range m)), .tup (hdsV N (List.range' m (N - m))), .tup (hdsV N (List.range m))]
theorem edL_lv (hN : N ≤ 12) (hm : m ≤ N) : ∀ x ∈ (edL N m).map (fun d => D.tup [.str "told", d]), Lv hz0 20 3 x := fun x hx => by
  obtain ⟨d, hd, rfl⟩ := List.mem_map.mp hx
  refine lv_two (c := 18) k2told ?_
  simp only [edL, List.mem_cons, List.not_mem_nil, or_false] at hd
  rcases hd with rfl | rfl | rfl | rfl
  · exact lv_iN (by simp; omega)
  · exact lv_iN (by simp; omega)
  · exact lv_hds (by omega)
  · exact lv_hds (by omega)
abbrev edE (N m : Nat) (x1 x2 x6 x7 : Option D) : Env := [some (.int (N : Int)), x1, x2, some (.int (m : Int)), some (.tup (iN (List.range' m (N - m)))), some (.tup (iN (List.range m))), x6, x7]
theorem row_pf {C : Nat → List D → M D} {σ : Env} {b : E} {i : Nat} {g : Nat → D} (h0 : σ[0]? = some (some (.int (N : Int)))) (hN : N ≤ 100) (he : ∀ p, p ≤ N → PF (ev P C b (σ.set i (some (.int (p : Int))))) (g p)) : PF (ev P C (.tupOf (.val (.lc (.nm i) (.rg1 (.bin .add (.v 0) (.k (.int 1)))) b))) σ) (.tup ((List.range (N + 1)).map g)) := fun X S => by
  have rg := rg_small (i := ((N + 1 : Nat) : Int)) (by omega)
  have c1 : (N : Int) + 1 = ((N + 1 : Nat) : Int) := by omega
  refine tupOf_wp (wp_imp (lc_iN (xs := List.range (N + 1)) (g := g) ?_ (fun p hp => he p (by have := List.mem_range.mp hp; omega)) (by rw [List.length_range]; unfold line; omega)) ?_)
  · rw [walk_rg1, ev_bin, ev_vi h0, ret_bd, ev_k, ret_bd, add_int, c1, ret_bd]
    dsimp only
    rw [if_pos rg, ranges0_iN]
  · rintro _ S1 ⟨b, rfl, hb, g', E⟩
    exact ⟨_, _, rfl, g', by simp [line]; omega, rfl, E⟩
theorem hdsV_of {g : Nat → Nat} (h : ∀ p, p ≤ N → g p = cnt xs p) : (List.range (N + 1)).map (fun p => D.int (g p : Int)) = hdsV N xs := by
  unfold hdsV
  apply List.map_congr_left
  intro p hp
  rw [h p (by have := List.mem_range.mp hp; omega)]
theorem edMx_pf {C : Nat → List D → M D} {x1 x2 x6 x7 : Option D} (hN : N ≤ 12) (hm : m ≤ N) : PF (ev P C edMx (edE N m x1 x2 x6 x7)) (.tup (hdsV N (List.range' m (N - m)))) := by
  rw [← hdsV_of (N := N) (g := fun p => p - m) (fun p hp => by rw [cnt_range']; omega)]
  refine row_pf rfl (by omega) fun p hp => PF.of ?_
  simp -implicitDefEqProofs only [List.set_cons_zero, List.set_cons_succ, ev_p2, ev_k, ev_bin, ev_v, List.getElem?_cons_zero, List.getElem?_cons_succ, ret_bd, bd_bd, sub_int, max_int]
  congr 2
  split <;> omega
theorem edMn_pf {C : Nat → List D → M D} {x1 x2 x6 x7 : Option D} (hN : N ≤ 12) (hm : m ≤ N) : PF (ev P C edMn (edE N m x1 x2 x6 x7)) (.tup (hdsV N (List.range m))) := by
  rw [← hdsV_of (N := N) (g := fun p => min p m) (fun p hp => by rw [List.range_eq_range', cnt_range']; omega)]
  refine row_pf rfl (by omega) fun p hp => PF.of ?_
  simp -implicitDefEqProofs only [List.set_cons_zero, List.set_cons_succ, ev_p2, ev_k, ev_bin, ev_v, List.getElem?_cons_zero, List.getElem?_cons_succ, ret_bd, bd_bd, min_int]
  congr 2
  split <;> omega
theorem endsR_wp (L : P2 P) (hN : 1 ≤ N ∧ N ≤ 12) (hm : m ≤ N) {b : Nat} {x2 x6 x7 : Option D} (hb : S[b]? = some (.lst ((edL N m).map fun d => D.tup [.str "told", d]))) : wp (exs P (callP P (n + 5)) (cEndsR edMx edMn edOwe) (edE N m (some (.loc b)) x2 x6 x7)) (fun f S' => (∃ x2, f = .next (edE N m (some (.loc b)) x2 x6 x7)) ∧ Ext S S') X S := by
  have h1 := fun X S x1 x2 => @edMx_pf P N m (callP P (n + 5)) x1 x2 x6 x7 hN.2 hm X S
  have h2 := fun X S x1 x2 => @edMn_pf P N m (callP P (n + 5)) x1 x2 x6 x7 hN.2 hm X S
  have how : ∀ (S : Sto) b b1, S[b1]? = some (.lst (edL N m)) → wp (ev P (callP P (n + 5)) edOwe (edE N m (some (.loc b)) (some (.loc b1)) x6 x7)) (fun r S' => ∃ b2, r = .loc b2 ∧ S'[b2]? = some (.lst ((edL N m).map fun d => D.tup [.str "told", d])) ∧ Ext S S') X S := fun S b b1 g => by
    unfold edOwe
    refine owe_wp (b := b1) (l := edL N m) (by simp) ?_ (by simp [edL, line])
    rw [ev_vi (i := 2) rfl, wp_ret]
    exact ⟨rfl, g, _, rfl, get_last _ _, Ext.app _ _⟩
  unfold cEndsR
  generalize edMx = mx at *
  generalize edMn = mn at *
  generalize edOwe = oe at *
  rw [exs_cons, ex_set, ev_lst]
  simp -implicitDefEqProofs only [evs_cons, evs_nil, ev_v, List.getElem?_cons_zero, List.getElem?_cons_succ, ret_bd, bd_bd, wp_bd]
  refine wp_imp (h1 X S _ _) ?_
  rintro _ S1 ⟨rfl, E1⟩
  refine wp_imp (h2 X S1 _ _) ?_
  rintro _ S2 ⟨rfl, E2⟩
  rw [wp_new]
  refine ⟨by simp [line], ?_⟩
  have g3 := get_last S2 (O.lst (edL N m))
  have E3 := (E1.trans E2).trans (Ext.app S2 [O.lst (edL N m)])
  show wp _ _ X (S2 ++ [O.lst (edL N m)])
  generalize S2 ++ [O.lst (edL N m)] = S3 at *
  simp -implicitDefEqProofs only [ret_bd, wp_ret, List.set_cons_zero, List.set_cons_succ, exs_cons, exs_nil, ex_ifs, tst_nt, tst_call, ev_call, evs_cons, evs_nil, ev_v, List.getElem?_cons_zero, List.getElem?_cons_succ, bd_bd, wp_bd]
  refine wp_imp (how S3 b _ g3) ?_
  rintro _ S4 ⟨b2, rfl, g4, E4⟩
  have hL : ((edL N m).map fun d => D.tup [.str "told", d]).length ≤ 20 := by simp [edL]
  refine wp_imp (same_self (n := n + 3) L.f19 L.f17 ((E3.trans E4).get hb) g4 hL (edL_lv hN.2 hm)) ?_
  rintro _ S5 ⟨rfl, E5⟩
  simp -implicitDefEqProofs only [tr_bl, wp_ret, Bool.not_true, Bool.false_eq_true, if_false]
  exact ⟨⟨_, rfl⟩, (E3.trans E4).trans E5⟩
theorem endsB_wp (L : P2 P) (hN : 1 ≤ N ∧ N ≤ 12) (hm : m ≤ N) {x1 x2 x4 x5 x6 x7 : Option D} : wp (exs P (callP P (n + 5)) cEndsB [some (.int (N : Int)), x1, x2, some (.int (m : Int)), x4, x5, x6, x7]) (fun f S' => (∃ x1 x2 x4 x5 x6 x7, f = .next [some (.int (N : Int)), x1, x2, some (.int (m : Int)), x4, x5, x6, x7]) ∧ Ext S S') X S := by
  obtain ⟨hd, hh, ht, _⟩ := L.hd
  have hr := fun (S : Sto) X b hb => @endsR_wp P n N m S X L hN hm b x2 x6 x7 hb
  have rg1 : rgok (N : Int) = true := rg_small (by omega)
  have rg2 : rgok (m : Int) = true := rg_small (by omega)
  have et1 : newT (iN (List.range' m (N - m))) = ret (.tup (iN (List.range' m (N - m)))) := newT_is _ (by rw [iN_len]; simp [line]; omega)
  have et2 : newT (iN (List.range m)) = ret (.tup (iN (List.range m))) := newT_is _ (by rw [iN_len]; simp [line]; omega)
  unfold cEndsB
  generalize cEndsR edMx edMn edOwe = rr at *
  unfold cEndsP
  rw [exs_cons, ex_setT, ev_tup]
  simp -implicitDefEqProofs only [evs_cons, evs_nil, ev_v, ev_tupOf, walk_rg2, walk_rg1, List.getElem?_cons_zero, List.getElem?_cons_succ, ret_bd, bd_bd, rg1, rg2, Bool.and_self, if_true, ranges_iN, ranges0_iN, et1, et2, newT2, bindT, setAll, List.set_cons_zero, List.set_cons_succ]
  rw [exs_cons, ex_set, ev_lst, evs_cons, evs_nil]
  simp -implicitDefEqProofs only [bd_bd, wp_bd]
  refine wp_imp (PF.hear hh (PF.call (evs2 (i := 0) (k := 3) rfl rfl) (PF.of (L.full (n := n + 1) hN hm))) X S) ?_
  rintro _ S1 ⟨rfl, E1⟩
  simp -implicitDefEqProofs only [ret_bd, wp_new, List.set_cons_zero, List.set_cons_succ, wp_ret]
  refine ⟨by simp [line], ?_⟩
  have E2 := E1.trans (Ext.app S1 [O.lst [D.tup [.str hd.told, .tup (iN (List.range' m (N - m)))]]])
  refine apps_wp (S0 := S) (i := 1) (b := S1.length) (ys := [.tup [.str hd.told, .tup (iN (List.range m))], .tup [.str hd.told, .tup (hdsV N (List.range' m (N - m)))], .tup [.str hd.told, .tup (hdsV N (List.range m))]]) rfl E1.len ?_ E2 (get_last _ _) (by simp [line]) fun S' E' g' => ?_
  · exact ⟨PF.hear hh (PF.call (evs2 (i := 0) (k := 3) rfl rfl) (PF.of (L.clup (n := n + 1) hN hm))), PF.hear hh (PF.call (evs2 (i := 0) (k := 4) rfl rfl) (L.heads (n := n) hN (std_range' hm))), PF.hear hh (PF.call (evs2 (i := 0) (k := 5) rfl rfl) (L.heads (n := n) hN (std_range hm))), trivial⟩
  · rw [ht] at g'
    refine wp_imp (hr S' X S1.length g') ?_
    rintro _ S4 ⟨⟨x2, rfl⟩, E4⟩
    exact ⟨⟨_, _, _, _, _, _, rfl⟩, E'.trans E4⟩
theorem ends_pf (L : P2 P) (h : P.fns[f]? = some ⟨1, 8, cEnds⟩) (hN : 1 ≤ N ∧ N ≤ 12) : PF (callP P (n + 6) f [.int (N : Int)]) (.bl true) := fun X S => by
  rw [call_eq h rfl]
  have hb := fun (S : Sto) X m x1 x2 x4 x5 x6 x7 hm => @endsB_wp P n N m S X L hN hm x1 x2 x4 x5 x6 x7
  unfold cEnds
  generalize cEndsB = bb at *
  unfold cEndsL
  have rg := rg_small (i := ((N + 1 : Nat) : Int)) (by omega)
  have c1 : (N : Int) + 1 = ((N + 1 : Nat) : Int) := by omega
  rw [exs_cons, ex_fors, walk_rg1]
  simp -implicitDefEqProofs only [List.map_cons, List.map_nil, List.cons_append, List.nil_append, List.replicate, ev_bin, ev_v, ev_k, List.getElem?_cons_zero, List.getElem?_cons_succ, ret_bd, bd_bd, add_int, c1, rg, if_true, forL_fix, ranges0_iN, wp_bd]
  refine wp_imp (forD_mem_wp (Q := fun f S' => (∃ σ', f = .next σ') ∧ Ext S S') (fun r σ S' => (∃ x1 x2 x3 x4 x5 x6 x7, σ = [some (.int (N : Int)), x1, x2, x3, x4, x5, x6, x7]) ∧ Ext S S') ⟨⟨_, _, _, _, _, _, _, rfl⟩, Ext.refl _⟩ ?_ ?_) ?_
  · rintro q r σ S' hq ⟨⟨x1, x2, x3, x4, x5, x6, x7, rfl⟩, E⟩
    obtain ⟨m, hm, rfl⟩ := List.mem_map.mp hq
    have hm := List.mem_range.mp hm
    rw [bind_nm, ret_bd]
    refine wp_imp (hb S' X m _ _ _ _ _ _ (by omega)) ?_
    rintro _ S'' ⟨⟨_, _, _, _, _, _, rfl⟩, E'⟩
    exact ⟨⟨_, _, _, _, _, _, _, rfl⟩, E.trans E'⟩
  · rintro σ S' ⟨⟨x1, x2, x3, x4, x5, x6, x7, rfl⟩, E⟩
    exact ⟨⟨_, rfl⟩, E⟩
  · rintro _ S' ⟨⟨σ', rfl⟩, E⟩
    simp -implicitDefEqProofs only [exs_cons, ex_ret, ev_k, ret_bd, bd_bd, wp_ret]
    exact ⟨trivial, E⟩
end
end Zp
end
section
/-! ZLw: what the law k02 draws that is wrong. -/
namespace Zp
open Z
open PySem (Str PyData)
theorem fltS_none : ∀ {l : List D} {i : Nat} {least hi : Int}, fltS l i least hi = none → ∀ d ∈ l, ∃ lo, isIn d lo hi = true
  | [], _, _, _, _, d, hd => nomatch hd
  | x :: l, i, least, hi, h, d, hd => by
    unfold fltS at h
    split at h
    · rename_i hx
      rcases List.mem_cons.mp hd with rfl | hd
      · exact ⟨_, hx⟩
      · exact fltS_none h d hd
    · cases h
/-- what is no standing -/
def BadS (N : Nat) (d : D) : Prop := (∃ i, fltSD (N : Int) d = .int i) ∧ ∀ l, d = .tup l → l.length ≤ line
def BadH (N : Nat) (d : D) : Prop := (∃ i, fltHD (N : Int) d = .int i) ∧ ∀ l, d = .tup l → l.length ≤ line
def BadM (d : D) : Prop := isIn d 1 12 = false ∧ Lv hz0 18 2 d
def BadF (N : Nat) (d : D) : Prop := isIn d 0 (N : Int) = false ∧ Lv hz0 18 2 d
theorem badS_mem {N : Nat} {l : List D} {d : D} (hl : l.length ≤ 1000) (hd : d ∈ l) (h : ∀ lo, isIn d lo ((N : Int) - 1) = false) : BadS N (.tup l) := by
  refine ⟨?_, fun k q => by cases q; unfold line; omega⟩
  unfold fltSD
  dsimp only
  cases e : fltS l 0 0 ((N : Int) - 1) with
  | some i => exact ⟨_, rfl⟩
  | none =>
    obtain ⟨lo, q⟩ := fltS_none e d hd
    rw [h lo] at q
    cases q
theorem badS_else {N : Nat} {d : D} (h : ∀ l, d ≠ .tup l) : BadS N d := by
  refine ⟨?_, fun k q => absurd q (h k)⟩
  cases d <;> first | exact ⟨_, rfl⟩ | exact absurd rfl (h _)
theorem badH_else {N : Nat} {d : D} (h : ∀ l, d ≠ .tup l) : BadH N d := by
  refine ⟨?_, fun k q => absurd q (h k)⟩
  cases d <;> first | exact ⟨_, rfl⟩ | exact absurd rfl (h _)
theorem badH_len {N : Nat} {l : List D} (hl : l.length ≤ 1000) (h : l.length ≠ N + 1) : BadH N (.tup l) := by
  refine ⟨?_, fun k q => by cases q; unfold line; omega⟩
  unfold fltHD
  dsimp only
  rw [if_neg (by omega)]
  exact ⟨_, rfl⟩
theorem fltH_rep {x : D} (h : isIn x 0 1 = false) : ∀ (k i : Nat), ∃ j, fltH (List.replicate k (D.int 0) ++ [x]) i 0 1 = some j
  | 0, i => by
    refine ⟨i, ?_⟩
    show fltH [x] i 0 1 = _
    unfold fltH
    rw [h]
    rfl
  | k + 1, i => by
    rw [List.replicate_succ, List.cons_append]
    unfold fltH
    have : isIn (.int 0) 0 1 = true := by decide
    rw [if_pos this]
    exact fltH_rep h k (i + 1)
theorem badH_rep {N : Nat} {x : D} (h : isIn x 0 1 = false) (hN : 1 ≤ N ∧ N ≤ 12) : BadH N (.tup (List.replicate N (D.int 0) ++ [x])) := by
  refine ⟨?_, fun k q => by cases q; simp [line]; omega⟩
  unfold fltHD
  dsimp only
  rw [if_pos (by simp)]
  obtain ⟨k, rfl⟩ : ∃ k, N = k + 1 := ⟨N - 1, by omega⟩
  obtain ⟨j, e⟩ := fltH_rep h k 1
  have : fltH (List.replicate (k + 1) (D.int 0) ++ [x]) 0 0 0 = some j := by
    rw [List.replicate_succ, List.cons_append]
    unfold fltH
    have : isIn (.int 0) 0 0 = true := by decide
    rw [if_pos this]
    exact e
  rw [this]
  exact ⟨_, rfl⟩
theorem badH_one {N : Nat} (hN : 1 ≤ N ∧ N ≤ 12) : BadH N (.tup (List.replicate (N + 1) (D.int 1))) := by
  refine ⟨?_, fun k q => by cases q; simp [line]; omega⟩
  unfold fltHD
  dsimp only
  rw [if_pos (by simp)]
  have : fltH (List.replicate (N + 1) (D.int 1)) 0 0 0 = some 0 := by
    rw [List.replicate_succ]
    unfold fltH
    have : isIn (.int 1) 0 0 = false := by decide
    rw [this]
    rfl
  rw [this]
  exact ⟨_, rfl⟩
theorem mul_rep {a : D} {k : Nat} (h : 1 ≤ k ∧ k ≤ 1000) : binop .mul (.tup [a]) (.int (k : Int)) = ret (.tup (List.replicate k a)) := by
  funext S
  show (if [a] ≠ [] ∧ 1 ≤ (k : Int) ∧ (k : Int) ≤ 1000 ∧ [a].length ≤ 1000 then R.ok (D.tup (List.replicate (k : Int).toNat [a]).flatten) S else .stuck) = _
  rw [if_pos (by simp; omega)]
  have : (k : Int).toNat = k := by omega
  rw [this]
  show R.ok _ S = R.ok _ S
  congr 2
  simp
/-! ### lists that are made -/
section
variable {P : Prog} {C : Nat → List D → M D} {σ : Env}
/-- behind S0: a list -/
def LF (P : Prog) (C : Nat → List D → M D) (σ : Env) (S0 : Sto) (e : E) (l : List D) : Prop := ∀ (X : Nat → D → Sto → Prop) (S : Sto), Ext S0 S → wp (ev P C e σ) (fun r S' => ∃ b, r = .loc b ∧ S'[b]? = some (.lst l) ∧ Ext S S') X S
variable {S0 : Sto}
theorem LF.v {i b : Nat} {l : List D} (h : σ[i]? = some (some (.loc b))) (g : S0[b]? = some (.lst l)) : LF P C σ S0 (.v i) l := fun X S E => by
  rw [ev_vi h, wp_ret]
  exact ⟨b, rfl, E.get g, Ext.refl _⟩
theorem LF.lst {es : List E} {vs : List D} (h : PFs (evs P C es σ) vs) (hl : vs.length ≤ line) : LF P C σ S0 (.lst es) vs := fun X S E => by
  rw [ev_lst, wp_bd]
  refine wp_imp (h X S) ?_
  rintro _ S1 ⟨rfl, E1⟩
  rw [wp_new]
  exact ⟨hl, _, rfl, get_last _ _, E1.trans (Ext.app _ _)⟩
theorem LF.add {a b : E} {l k : List D} (h : LF P C σ S0 a l) (g : LF P C σ S0 b k) (hl : l.length + k.length ≤ line) : LF P C σ S0 (.bin .add a b) (l ++ k) := fun X S E => by
  rw [ev_bin, wp_bd]
  refine wp_imp (h X S E) ?_
  rintro _ S1 ⟨p, rfl, g1, E1⟩
  rw [wp_bd]
  refine wp_imp (g X S1 (E.trans E1)) ?_
  rintro _ S2 ⟨q, rfl, g2, E2⟩
  rw [add_loc, wp_bd, wp_getL]
  refine ⟨_, E2.get g1, ?_⟩
  rw [wp_bd, wp_getL]
  refine ⟨_, g2, ?_⟩
  rw [wp_new]
  exact ⟨by rw [List.length_append]; exact hl, _, rfl, get_last _ _, (E1.trans E2).trans (Ext.app _ _)⟩
theorem LF.mul {a : E} {l : List D} {j : Nat} (h : LF P C σ S0 a l) (hj : j ≤ 1000) (hl : l.length ≤ 1000) : LF P C σ S0 (.bin .mul a (.k (.int (j : Int)))) (List.replicate j l).flatten := fun X S E => by
  have hz : l.length * j ≤ 1000 * 1000 := Nat.mul_le_mul hl hj
  rw [ev_bin, wp_bd]
  refine wp_imp (h X S E) ?_
  rintro _ S1 ⟨p, rfl, g1, E1⟩
  rw [ev_k, ret_bd]
  show wp (bd (getL p) fun y => fun S => if -(2 ^ 63) ≤ (j : Int) ∧ (j : Int) < 2 ^ 63 ∧ y.length * (j : Int).toNat ≤ line then new (List.replicate (j : Int).toNat y).flatten S else .stuck) _ X _
  rw [wp_bd, wp_getL]
  refine ⟨_, g1, ?_⟩
  have ej : (j : Int).toNat = j := by omega
  have e : (fun S => if -(2 ^ 63) ≤ (j : Int) ∧ (j : Int) < 2 ^ 63 ∧ l.length * (j : Int).toNat ≤ line then new (List.replicate (j : Int).toNat l).flatten S else .stuck) = new (List.replicate j l).flatten := by
    funext S
    rw [ej, if_pos ⟨by omega, by omega, by unfold line; omega⟩]
  rw [e, wp_new]
  refine ⟨?_, _, rfl, get_last _ _, E1.trans (Ext.app _ _)⟩
  rw [List.length_flatten, List.map_replicate, List.sum_replicate_nat, Nat.mul_comm]
  unfold line
  omega
end
section
variable {P : Prog} {n f w c z j K N m : Nat} {S : Sto} {X : Nat → D → Sto → Prop} {xs : List Nat} {d e v : D} {σ : Env}
/-- one of a display -/
theorem drw_wp (L : P2 P) {ls : List E} {p : D → Prop} (h0 : σ[0]? = some (some (.loc j))) (he : wp (evs P (callP P (n + 2)) ls σ) (fun ys S' => Ext S S' ∧ 0 < ys.length ∧ ys.length ≤ 1000 ∧ ∀ y ∈ ys, p y) X S) (hJ : Jar j K S) (hK : K < 2 ^ 64) : wp (ev P (callP P (n + 2)) (.call 16 [(.v 0), (.lst ls)]) σ) (fun r S' => p r ∧ Frj j S S' ∧ Jar j (K + 1) S') X S := by
  rw [ev_call, evs_cons, ev_vi h0, ret_bd, evs_cons, ev_lst, evs_nil]
  simp -implicitDefEqProofs only [bd_bd, wp_bd]
  refine wp_imp he ?_
  rintro ys S1 ⟨E1, h1, h2, hp⟩
  rw [wp_new]
  refine ⟨by unfold line; omega, ?_⟩
  simp -implicitDefEqProofs only [wp_ret]
  have hj := hJ.lt
  have hl := E1.len
  refine wp_imp (one_wp (n := n) L.f16 L.f15 (get_last S1 (O.lst ys)) h1 h2 (by omega) ((hJ.ext E1).ext (Ext.app _ _)) hK) ?_
  rintro r S2 ⟨hr, hF, hJ2⟩
  exact ⟨hp r hr, ((E1.trans (Ext.app _ _)).frj j).trans hF, hJ2⟩
def rfMv : List E := [(.k (.int 0)), (.k (.int 13)), (.neg (.k (.int 1))), (.k (.bl true)), (.k .non), (.k (.str "3")), (.tup [(.k (.int 3))]), (.bin .pow (.k (.int 10)) (.k (.int 20)))]
def rfBad : List E := [(.k .non), (.lstOf (.val (.v 2))), (.bin .add (.v 2) (.tup [(.v 1)])), (.bin .add (.bin .add (.v 2) (.slo (.v 2) (.neg (.k (.int 1))))) (.tup [(.v 1)])), (.tup [(.k (.bl true))]), (.bin .add (.tup [(.neg (.k (.int 1)))]) (.v 2)), (.tup [(.k (.str "0"))])]
def rfNone : List E := [(.k .non), (.lstOf (.val (.v 2))), (.bin .mul (.tup [(.k (.int 0))]) (.v 1)), (.bin .mul (.tup [(.k (.int 0))]) (.bin .add (.v 1) (.k (.int 2)))), (.bin .mul (.tup [(.k (.int 1))]) (.bin .add (.v 1) (.k (.int 1)))), (.bin .add (.bin .mul (.tup [(.k (.int 0))]) (.v 1)) (.tup [(.k (.int 2))])), (.bin .add (.bin .mul (.tup [(.k (.int 0))]) (.v 1)) (.tup [(.k (.bl true))]))]
def rfFar : List E := [(.bin .add (.v 1) (.k (.int 1))), (.neg (.k (.int 1))), (.k (.bl true)), (.k (.bl false)), (.k .non), (.k (.str "0")), (.tup [(.k (.int 0))]), (.bin .pow (.k (.int 10)) (.k (.int 20)))]
theorem k2s3 : PyData.strOk "3" = true := by decide +kernel
theorem k2s0 : PyData.strOk "0" = true := by decide +kernel
theorem pow1020 : binop .pow (.int 10) (.int 20) = ret (.int (10 ^ 20)) := pow_int (by simp)
theorem lvT1 {d : D} (h : fl d = true) : Lv hz0 18 2 (.tup [d]) := Lv.tup (by simp) fun x hx => by
  cases List.mem_singleton.mp hx
  exact Lv.flat h
theorem rfMv_wp {C : Nat → List D → M D} : wp (evs P C rfMv σ) (fun ys S' => Ext S S' ∧ 0 < ys.length ∧ ys.length ≤ 1000 ∧ ∀ y ∈ ys, BadM y) X S := by
  simp -implicitDefEqProofs only [rfMv, evs_cons, evs_nil, ev_k, ev_neg, ev_tup, ev_bin, pow1020, newT1, ret_bd, bd_bd, wp_ret]
  refine ⟨Ext.refl _, by simp, by simp, fun y hy => ?_⟩
  simp only [List.mem_cons, List.not_mem_nil, or_false] at hy
  rcases hy with rfl | rfl | rfl | rfl | rfl | rfl | rfl | rfl
  · exact ⟨rfl, lv_int⟩
  · exact ⟨rfl, lv_int⟩
  · exact ⟨rfl, lv_int⟩
  · exact ⟨rfl, lv_bl⟩
  · exact ⟨rfl, Lv.flat rfl⟩
  · exact ⟨rfl, lv_str k2s3⟩
  · exact ⟨rfl, lvT1 rfl⟩
  · exact ⟨by decide, lv_int⟩
theorem rfFar_wp {C : Nat → List D → M D} (h1 : σ[1]? = some (some (.int (N : Int)))) (hN : 1 ≤ N ∧ N ≤ 12) : wp (evs P C rfFar σ) (fun ys S' => Ext S S' ∧ 0 < ys.length ∧ ys.length ≤ 1000 ∧ ∀ y ∈ ys, BadF N y) X S := by
  simp -implicitDefEqProofs only [rfFar, evs_cons, evs_nil, ev_k, ev_neg, ev_tup, ev_bin, ev_vi h1, add_int, pow1020, newT1, ret_bd, bd_bd, wp_ret]
  refine ⟨Ext.refl _, by simp, by simp, fun y hy => ?_⟩
  simp only [List.mem_cons, List.not_mem_nil, or_false] at hy
  rcases hy with rfl | rfl | rfl | rfl | rfl | rfl | rfl | rfl
  · exact ⟨by simp [isIn]; omega, lv_int⟩
  · exact ⟨rfl, lv_int⟩
  · exact ⟨rfl, lv_bl⟩
  · exact ⟨rfl, lv_bl⟩
  · exact ⟨rfl, Lv.flat rfl⟩
  · exact ⟨rfl, lv_str k2s0⟩
  · exact ⟨rfl, lvT1 rfl⟩
  · exact ⟨by simp [isIn]; omega, lv_int⟩
theorem add_tup' {l k : List D} (h : l.length + k.length ≤ 1000) : binop .add (.tup l) (.tup k) = ret (.tup (l ++ k)) := by
  rw [add_tup, newT_is _ (by rw [List.length_append]; unfold line; omega)]
theorem isIn_N {lo : Int} : isIn (.int (N : Int)) lo ((N : Int) - 1) = false := by
  simp [isIn]
  intro _
  omega
theorem rfBad_wp {C : Nat → List D → M D} (h1 : σ[1]? = some (some (.int (N : Int)))) (h2 : σ[2]? = some (some (.tup (iN xs)))) (hs : Std N xs) (hN : 1 ≤ N ∧ N ≤ 12) : wp (evs P C rfBad σ) (fun ys S' => Ext S S' ∧ 0 < ys.length ∧ ys.length ≤ 1000 ∧ ∀ y ∈ ys, BadS N y) X S := by
  have hl := std_len hs
  have hi : (iN xs).length ≤ 12 := by rw [iN_len]; omega
  have hc : (cut (iN xs) (some (-1)) none).length ≤ 12 := Nat.le_trans cut_len hi
  have sl : slice (.tup (iN xs)) (some (-1)) none = ret (.tup (cut (iN xs) (some (-1)) none)) := rfl
  simp -implicitDefEqProofs only [rfBad, evs_cons, evs_nil, ev_k, ev_neg, ev_tup, ev_bin, ev_slo, ev_vi h1, ev_vi h2, ev_lstOf, walk_val, wo_tup, sl, newT1, ret_bd, bd_bd]
  rw [wp_bd, wp_new]
  refine ⟨by unfold line; omega, ?_⟩
  rw [add_tup' (l := iN xs) (k := [.int (N : Int)]) (by simp; omega), add_tup' (l := iN xs) (k := cut (iN xs) (some (-1)) none) (by omega)]
  simp -implicitDefEqProofs only [ret_bd, bd_bd]
  rw [add_tup' (l := iN xs ++ cut (iN xs) (some (-1)) none) (k := [.int (N : Int)]) (by rw [List.length_append]; simp; omega), add_tup' (l := [.int (-1)]) (k := iN xs) (by simp; omega)]
  simp -implicitDefEqProofs only [ret_bd, bd_bd, wp_ret]
  refine ⟨Ext.app _ _, by simp, by simp, fun y hy => ?_⟩
  simp only [List.mem_cons, List.not_mem_nil, or_false] at hy
  rcases hy with rfl | rfl | rfl | rfl | rfl | rfl | rfl
  · exact badS_else fun _ z => nomatch z
  · exact badS_else fun _ z => nomatch z
  · exact badS_mem (by simp; omega) (List.mem_append_right _ List.mem_cons_self) fun lo => isIn_N
  · exact badS_mem (by rw [List.length_append, List.length_append]; simp; omega) (List.mem_append_right _ List.mem_cons_self) fun lo => isIn_N
  · exact badS_mem (by simp) List.mem_cons_self fun lo => rfl
  · refine ⟨⟨0, ?_⟩, fun l q => by cases q; simp [line]; omega⟩
    have : isIn (.int (-1)) 0 ((N : Int) - 1) = false := rfl
    have e : fltS (D.int (-1) :: iN xs) 0 0 ((N : Int) - 1) = some 0 := by
      unfold fltS
      rw [this]
      rfl
    show (match fltS (D.int (-1) :: iN xs) 0 0 ((N : Int) - 1) with
      | none => D.non
      | some i => .int i) = _
    rw [e]
    rfl
  · exact badS_mem (by simp) List.mem_cons_self fun lo => rfl
theorem rfNone_wp {C : Nat → List D → M D} (h1 : σ[1]? = some (some (.int (N : Int)))) (h2 : σ[2]? = some (some (.tup (iN xs)))) (hs : Std N xs) (hN : 1 ≤ N ∧ N ≤ 12) : wp (evs P C rfNone σ) (fun ys S' => Ext S S' ∧ 0 < ys.length ∧ ys.length ≤ 1000 ∧ ∀ y ∈ ys, BadH N y) X S := by
  have hl := std_len hs
  have hi : (iN xs).length ≤ 12 := by rw [iN_len]; omega
  have c1 : (N : Int) + 1 = ((N + 1 : Nat) : Int) := by omega
  have c2 : (N : Int) + 2 = ((N + 2 : Nat) : Int) := by omega
  simp -implicitDefEqProofs only [rfNone, evs_cons, evs_nil, ev_k, ev_neg, ev_tup, ev_bin, ev_vi h1, ev_vi h2, ev_lstOf, walk_val, wo_tup, newT1, ret_bd, bd_bd, add_int, c1, c2]
  rw [wp_bd, wp_new]
  refine ⟨by unfold line; omega, ?_⟩
  rw [mul_rep (k := N) (by omega), mul_rep (k := N + 2) (by omega), mul_rep (k := N + 1) (by omega)]
  simp -implicitDefEqProofs only [ret_bd, bd_bd]
  rw [add_tup' (l := List.replicate N (D.int 0)) (k := [.int 2]) (by simp; omega), add_tup' (l := List.replicate N (D.int 0)) (k := [.bl true]) (by simp; omega)]
  simp -implicitDefEqProofs only [ret_bd, bd_bd, wp_ret]
  refine ⟨Ext.app _ _, by simp, by simp, fun y hy => ?_⟩
  simp only [List.mem_cons, List.not_mem_nil, or_false] at hy
  rcases hy with rfl | rfl | rfl | rfl | rfl | rfl | rfl
  · exact badH_else fun _ z => nomatch z
  · exact badH_else fun _ z => nomatch z
  · exact badH_len (by simp; omega) (by simp)
  · exact badH_len (by simp; omega) (by simp)
  · exact badH_one hN
  · exact badH_rep rfl hN
  · exact badH_rep rfl hN
end
end Zp
end
section
/-! ZLx: what the law k02 says of what is refused. -/
namespace Zp
open Z
open PySem (Str PyData)
def rfApps : List E := [(.heard 0 (.call 13 [(.v 8), (.v 9)])), (.heard 0 (.call 4 [(.v 8), (.v 7)])), (.heard 0 (.call 5 [(.v 8), (.v 7)])), (.heard 0 (.call 6 [(.v 8), (.v 6)])), (.heard 0 (.call 7 [(.v 8), (.v 6)])), (.heard 0 (.call 8 [(.v 8), (.v 6)])), (.heard 0 (.call 12 [(.v 1), (.v 6)])), (.heard 0 (.call 6 [(.v 1), (.v 6)])), (.heard 0 (.call 7 [(.v 1), (.v 6)])), (.heard 0 (.call 8 [(.v 1), (.v 6)])), (.heard 0 (.call 13 [(.v 1), (.v 9)])), (.heard 0 (.call 4 [(.v 1), (.v 7)])), (.heard 0 (.call 5 [(.v 1), (.v 7)]))]
def rfO1 : E := .bin .add (.bin .mul (.lst [(.tup [(.k (.str "BadMany")), (.v 8)])]) (.k (.int 7))) (.bin .mul (.lst [(.tup [(.k (.str "BadStanding")), (.call 20 [(.v 1), (.v 6)])])]) (.k (.int 4)))
def rfO2 : E := .bin .add (.bin .add (.v 5) (.lst [(.tup [(.k (.str "BadHeads")), (.call 21 [(.v 1), (.v 9)])])])) (.bin .mul (.lst [(.tup [(.k (.str "BadMany")), (.v 7)])]) (.k (.int 2)))
def cRefE (o1 o2 : E) : List Z.S := [.set 5 o1, .ret (.call 19 [(.v 4), o2])]
def cRefR (ap : List Z.S) : List Z.S := .set 4 (.lst [(.heard 0 (.call 12 [(.v 8), (.v 6)]))]) :: ap
def cRefT : List Z.S := cRefR (rfApps.map (appS 4) ++ cRefE rfO1 rfO2)
def cRefP (a b c d : List E) (rr : List Z.S) : List Z.S := .set 8 (.call 16 [(.v 0), (.lst a)]) :: .set 6 (.call 16 [(.v 0), (.lst b)]) :: .set 3 (.lst c) :: .set 9 (.call 16 [(.v 0), (.v 3)]) :: .set 7 (.call 16 [(.v 0), (.lst d)]) :: rr
def cRef : List Z.S := cRefP rfMv rfBad rfNone rfFar cRefT
section
variable {P : Prog} {n f w c z j K N m : Nat} {S : Sto} {X : Nat → D → Sto → Prop} {xs : List Nat} {d e v mv bad none far : D} {σ : Env}
theorem callX {C : Nat → List D → M D} {f : Nat} {es : List E} {ds : List D} {c : Nat} {w : D} (h : evs P C es σ = ret ds) (g : C f ds = thr c w) : ev P C (.call f es) σ = thr c w := by
  rw [ev_call, h, ret_bd, g]
abbrev rfE (j N : Nat) (xs : List Nat) (s3 x4 x5 : Option D) (mv bad none far : D) : Env := [some (.loc j), some (.int (N : Int)), some (.tup (iN xs)), s3, x4, x5, some bad, some far, some mv, some none]
def rfL (mv far : D) (i1 i2 : Int) : List D := [.tup [.str "BadMany", mv], .tup [.str "BadMany", mv], .tup [.str "BadMany", mv], .tup [.str "BadMany", mv], .tup [.str "BadMany", mv], .tup [.str "BadMany", mv], .tup [.str "BadMany", mv], .tup [.str "BadStanding", .int i1], .tup [.str "BadStanding", .int i1], .tup [.str "BadStanding", .int i1], .tup [.str "BadStanding", .int i1], .tup [.str "BadHeads", .int i2], .tup [.str "BadMany", far], .tup [.str "BadMany", far]]
theorem rfL_lv {i1 i2 : Int} (h1 : Lv hz0 18 2 mv) (h2 : Lv hz0 18 2 far) : ∀ x ∈ rfL mv far i1 i2, Lv hz0 20 3 x := fun x hx => by
  have a1 : Lv hz0 20 3 (.tup [.str "BadMany", mv]) := lv_two (c := 18) k2many (h1.mono (Hz.le_refl _) (by omega) (by omega))
  have a2 : Lv hz0 20 3 (.tup [.str "BadMany", far]) := lv_two (c := 18) k2many (h2.mono (Hz.le_refl _) (by omega) (by omega))
  have a3 : Lv hz0 20 3 (.tup [.str "BadStanding", .int i1]) := lv_two (c := 18) k2std lv_int
  have a4 : Lv hz0 20 3 (.tup [.str "BadHeads", .int i2]) := lv_two (c := 18) k2hds lv_int
  simp only [rfL, List.mem_cons, List.not_mem_nil, or_false] at hx
  rcases hx with rfl | rfl | rfl | rfl | rfl | rfl | rfl | rfl | rfl | rfl | rfl | rfl | rfl | rfl <;> assumption
theorem pf_k {C : Nat → List D → M D} {d : D} : PF (ev P C (.k d) σ) d := PF.ret
theorem pf_v {C : Nat → List D → M D} {i : Nat} {d : D} (h : σ[i]? = some (some d)) : PF (ev P C (.v i) σ) d := PF.of (ev_vi h)
theorem lf_one {C : Nat → List D → M D} {S0 : Sto} {e : E} {s : Str} {d : D} (h : PF (ev P C e σ) d) : LF P C σ S0 (.lst [.tup [.k (.str s), e]]) [.tup [.str s, d]] := LF.lst (PFs.cons (PF.tup (PFs.cons pf_k (PFs.cons h PFs.nil)) (by simp [line])) PFs.nil) (by simp [line])
theorem refE_wp (L : P2 P) (hN : 1 ≤ N ∧ N ≤ 12) {b : Nat} {s3 x5 : Option D} {i1 i2 : Int} (hm : BadM mv) (hb : fltSD (N : Int) bad = .int i1 ∧ ∀ l, bad = .tup l → l.length ≤ line) (hn : fltHD (N : Int) none = .int i2 ∧ ∀ l, none = .tup l → l.length ≤ line) (hf : BadF N far) (g : S[b]? = some (.lst (rfL mv far i1 i2))) : wp (exs P (callP P (n + 5)) (cRefE rfO1 rfO2) (rfE j N xs s3 (some (.loc b)) x5 mv bad none far)) (fun f S' => f = .ret (.bl true) ∧ Ext S S') X S := by
  have o1 : ∀ X S x4 x5, wp (ev P (callP P (n + 5)) rfO1 (rfE j N xs s3 x4 x5 mv bad none far)) (fun r S' => ∃ b, r = .loc b ∧ S'[b]? = some (.lst ((List.replicate 7 [D.tup [.str "BadMany", mv]]).flatten ++ (List.replicate 4 [D.tup [.str "BadStanding", .int i1]]).flatten)) ∧ Ext S S') X S := fun X S x4 x5 => by
    refine LF.add (S0 := S) (LF.mul (j := 7) (lf_one (pf_v (i := 8) rfl)) (by omega) (by simp)) (LF.mul (j := 4) (lf_one (PF.call (evs2 (i := 1) (k := 6) rfl rfl) (PF.of ?_))) (by omega) (by simp)) (by simp [line]) X S (Ext.refl _)
    rw [fltS_eq (n := n + 2) L.f20 L.f18 L.f17 hb.2, hb.1]
  have o2 : ∀ X S x4 b5 l5, l5.length ≤ 1000 → S[b5]? = some (.lst l5) → wp (ev P (callP P (n + 5)) rfO2 (rfE j N xs s3 x4 (some (.loc b5)) mv bad none far)) (fun r S' => ∃ b, r = .loc b ∧ S'[b]? = some (.lst (l5 ++ [D.tup [.str "BadHeads", .int i2]] ++ (List.replicate 2 [D.tup [.str "BadMany", far]]).flatten)) ∧ Ext S S') X S := fun X S x4 b5 l5 h5 g5 => by
    refine LF.add (S0 := S) (LF.add (LF.v (i := 5) rfl g5) (lf_one (PF.call (evs2 (i := 1) (k := 9) rfl rfl) (PF.of ?_))) (by simp [line]; omega)) (LF.mul (j := 2) (lf_one (pf_v (i := 7) rfl)) (by omega) (by simp)) (by simp [line]; omega) X S (Ext.refl _)
    rw [fltH_eq (n := n + 2) L.f21 L.f18 L.f17 hn.2, hn.1]
  unfold cRefE
  generalize rfO1 = q1 at *
  generalize rfO2 = q2 at *
  rw [exs_cons, ex_set, bd_bd, wp_bd]
  refine wp_imp (o1 X S _ _) ?_
  rintro _ S1 ⟨b5, rfl, g5, E1⟩
  simp -implicitDefEqProofs only [ret_bd, List.set_cons_zero, List.set_cons_succ, exs_cons, ex_ret, ev_call, evs_cons, evs_nil, ev_v, List.getElem?_cons_zero, List.getElem?_cons_succ, bd_bd, wp_bd]
  refine wp_imp (o2 X S1 _ b5 _ (by simp) g5) ?_
  rintro _ S2 ⟨b2, rfl, g2, E2⟩
  refine wp_imp (same_self (n := n + 3) (l := rfL mv far i1 i2) L.f19 L.f17 ((E1.trans E2).get g) g2 (by simp [rfL]) (rfL_lv hm.2 hf.2)) ?_
  rintro _ S3 ⟨rfl, E3⟩
  rw [wp_ret]
  exact ⟨rfl, (E1.trans E2).trans E3⟩
theorem refT_wp (L : P2 P) (hN : 1 ≤ N ∧ N ≤ 12) {s3 x4 x5 : Option D} (hm : BadM mv) (hb : BadS N bad) (hn : BadH N none) (hf : BadF N far) : wp (exs P (callP P (n + 5)) cRefT (rfE j N xs s3 x4 x5 mv bad none far)) (fun f S' => f = .ret (.bl true) ∧ Ext S S') X S := by
  obtain ⟨hd, hh, ht, j1, u1, j2, u2, j3, u3⟩ := L.hd
  obtain ⟨⟨i1, hb1⟩, hb2⟩ := hb
  obtain ⟨⟨i2, hn1⟩, hn2⟩ := hn
  have hr := fun (S : Sto) X b g => @refE_wp P n j N S X xs mv bad none far L hN b s3 x5 i1 i2 hm ⟨hb1, hb2⟩ ⟨hn1, hn2⟩ hf g
  unfold cRefT
  generalize cRefE rfO1 rfO2 = rr at *
  unfold cRefR
  have s1 := L.askS_odd (n := n) (d := bad) hm.1
  have s2 := L.askS_thr (n := n) hN hb2 hb1
  have s3' := L.askH_odd (n := n) (d := none) hm.1
  have s4 := L.askH_thr (n := n) hN hn2 hn1
  rw [exs_cons, ex_set, ev_lst, evs_cons, evs_nil]
  simp -implicitDefEqProofs only [bd_bd, wp_bd]
  refine wp_imp (PF.hearX hh u1 (callX (evs2 (i := 8) (k := 6) rfl rfl) (L.heads_thr (n := n + 4) s1)) X S) ?_
  rintro _ S1 ⟨rfl, E1⟩
  simp -implicitDefEqProofs only [ret_bd, wp_new, List.set_cons_zero, List.set_cons_succ, wp_ret]
  refine ⟨by simp [line], ?_⟩
  have E2 := E1.trans (Ext.app S1 [O.lst [D.tup [.str (joined P hd 1), mv]]])
  rw [j1] at E2 ⊢
  refine apps_wp (S0 := S) (i := 4) (b := S1.length) (ys := (rfL mv far i1 i2).tail) rfl E1.len ?_ E2 (get_last _ _) (by simp [line, rfL]) fun S' E' g' => ?_
  · refine ⟨?_, ?_, ?_, ?_, ?_, ?_, ?_, ?_, ?_, ?_, ?_, ?_, ?_, trivial⟩
    · have z := PF.hearX hh u1 (callX (C := callP P (n + 5)) (σ := rfE j N xs s3 (some (.loc S1.length)) x5 mv bad none far) (evs2 (i := 8) (k := 9) rfl rfl) (L.from_thr (n := n + 4) s3'))
      rw [j1] at z
      exact z
    · have z := PF.hearX hh u1 (callX (C := callP P (n + 5)) (σ := rfE j N xs s3 (some (.loc S1.length)) x5 mv bad none far) (evs2 (i := 8) (k := 7) rfl rfl) (L.full_odd (n := n + 1) hm.1))
      rw [j1] at z
      exact z
    · have z := PF.hearX hh u1 (callX (C := callP P (n + 5)) (σ := rfE j N xs s3 (some (.loc S1.length)) x5 mv bad none far) (evs2 (i := 8) (k := 7) rfl rfl) (L.clup_odd (n := n + 1) hm.1))
      rw [j1] at z
      exact z
    · have z := PF.hearX hh u1 (callX (C := callP P (n + 5)) (σ := rfE j N xs s3 (some (.loc S1.length)) x5 mv bad none far) (evs2 (i := 8) (k := 6) rfl rfl) (L.isC_thr (n := n + 4) s1))
      rw [j1] at z
      exact z
    · have z := PF.hearX hh u1 (callX (C := callP P (n + 5)) (σ := rfE j N xs s3 (some (.loc S1.length)) x5 mv bad none far) (evs2 (i := 8) (k := 6) rfl rfl) (L.stray_thr (n := n + 4) s1))
      rw [j1] at z
      exact z
    · have z := PF.hearX hh u1 (callX (C := callP P (n + 5)) (σ := rfE j N xs s3 (some (.loc S1.length)) x5 mv bad none far) (evs2 (i := 8) (k := 6) rfl rfl) (L.holes_thr (n := n + 4) s1))
      rw [j1] at z
      exact z
    · have z := PF.hearX hh u2 (callX (C := callP P (n + 5)) (σ := rfE j N xs s3 (some (.loc S1.length)) x5 mv bad none far) (evs2 (i := 1) (k := 6) rfl rfl) (L.heads_thr (n := n + 4) s2))
      rw [j2] at z
      exact z
    · have z := PF.hearX hh u2 (callX (C := callP P (n + 5)) (σ := rfE j N xs s3 (some (.loc S1.length)) x5 mv bad none far) (evs2 (i := 1) (k := 6) rfl rfl) (L.isC_thr (n := n + 4) s2))
      rw [j2] at z
      exact z
    · have z := PF.hearX hh u2 (callX (C := callP P (n + 5)) (σ := rfE j N xs s3 (some (.loc S1.length)) x5 mv bad none far) (evs2 (i := 1) (k := 6) rfl rfl) (L.stray_thr (n := n + 4) s2))
      rw [j2] at z
      exact z
    · have z := PF.hearX hh u2 (callX (C := callP P (n + 5)) (σ := rfE j N xs s3 (some (.loc S1.length)) x5 mv bad none far) (evs2 (i := 1) (k := 6) rfl rfl) (L.holes_thr (n := n + 4) s2))
      rw [j2] at z
      exact z
    · have z := PF.hearX hh u3 (callX (C := callP P (n + 5)) (σ := rfE j N xs s3 (some (.loc S1.length)) x5 mv bad none far) (evs2 (i := 1) (k := 9) rfl rfl) (L.from_thr (n := n + 4) s4))
      rw [j3] at z
      exact z
    · have z := PF.hearX hh u1 (callX (C := callP P (n + 5)) (σ := rfE j N xs s3 (some (.loc S1.length)) x5 mv bad none far) (evs2 (i := 1) (k := 7) rfl rfl) (L.full_far (n := n + 1) hN hf.1))
      rw [j1] at z
      exact z
    · have z := PF.hearX hh u1 (callX (C := callP P (n + 5)) (σ := rfE j N xs s3 (some (.loc S1.length)) x5 mv bad none far) (evs2 (i := 1) (k := 7) rfl rfl) (L.clup_far (n := n + 1) hN hf.1))
      rw [j1] at z
      exact z
  · refine wp_imp (hr S' X S1.length g') ?_
    rintro _ S4 ⟨rfl, E4⟩
    exact ⟨rfl, E'.trans E4⟩
theorem ref_wp (L : P2 P) (h : P.fns[f]? = some ⟨3, 10, cRef⟩) (hN : 1 ≤ N ∧ N ≤ 12) (hs : Std N xs) (hJ : Jar j K S) (hK : K + 10 < 2 ^ 64) : wp (callP P (n + 6) f [.loc j, .int (N : Int), .tup (iN xs)]) (fun r S' => r = .bl true ∧ Frj j S S' ∧ Jar j (K + 4) S') X S := by
  rw [call_eq h rfl]
  have hr := fun (S : Sto) X mv bad none far s3 x4 x5 h1 h2 h3 h4 => @refT_wp P n j N S X xs mv bad none far L hN s3 x4 x5 h1 h2 h3 h4
  have a1 := fun (C : Nat → List D → M D) (S : Sto) X σ => @rfMv_wp P S X σ C
  have a2 := fun (C : Nat → List D → M D) (S : Sto) X σ h1 h2 => @rfBad_wp P N S X xs σ C h1 h2 hs hN
  have a3 := fun (C : Nat → List D → M D) (S : Sto) X σ h1 h2 => @rfNone_wp P N S X xs σ C h1 h2 hs hN
  have a4 := fun (C : Nat → List D → M D) (S : Sto) X σ h1 => @rfFar_wp P N S X σ C h1 hN
  unfold cRef
  generalize cRefT = rr at *
  generalize rfMv = m1 at *
  generalize rfBad = m2 at *
  generalize rfNone = m3 at *
  generalize rfFar = m4 at *
  unfold cRefP
  rw [exs_cons, ex_set]
  simp -implicitDefEqProofs only [List.map_cons, List.map_nil, List.cons_append, List.nil_append, List.replicate, bd_bd, wp_bd]
  refine wp_imp (drw_wp (n := n + 3) L (p := BadM) (j := j) rfl (a1 _ S X _) hJ (by omega)) ?_
  rintro mv S1 ⟨hm, F1, J1⟩
  simp -implicitDefEqProofs only [ret_bd, wp_ret, List.set_cons_zero, List.set_cons_succ]
  rw [exs_cons, ex_set]
  simp -implicitDefEqProofs only [bd_bd, wp_bd]
  refine wp_imp (drw_wp (n := n + 3) L (p := BadS N) (j := j) rfl (a2 _ S1 X _ rfl rfl) J1 (by omega)) ?_
  rintro bad S2 ⟨hb, F2, J2⟩
  simp -implicitDefEqProofs only [ret_bd, wp_ret, List.set_cons_zero, List.set_cons_succ]
  rw [exs_cons, ex_set, ev_lst]
  simp -implicitDefEqProofs only [bd_bd, wp_bd]
  refine wp_imp (a3 _ S2 X _ rfl rfl) ?_
  rintro ys S3 ⟨E3, l1, l2, hp⟩
  rw [wp_new]
  refine ⟨by unfold line; omega, ?_⟩
  simp -implicitDefEqProofs only [ret_bd, wp_ret, List.set_cons_zero, List.set_cons_succ]
  have hj2 := J2.lt
  have hl3 := E3.len
  rw [exs_cons, ex_set, ev_call]
  simp -implicitDefEqProofs only [evs_cons, evs_nil, ev_v, List.getElem?_cons_zero, List.getElem?_cons_succ, ret_bd, bd_bd, wp_bd]
  refine wp_imp (one_wp (n := n + 3) L.f16 L.f15 (get_last S3 (O.lst ys)) l1 l2 (by omega) ((J2.ext E3).ext (Ext.app _ _)) (by omega)) ?_
  rintro none S4 ⟨hno, F4, J4⟩
  simp -implicitDefEqProofs only [ret_bd, wp_ret, List.set_cons_zero, List.set_cons_succ]
  rw [exs_cons, ex_set]
  simp -implicitDefEqProofs only [bd_bd, wp_bd]
  refine wp_imp (drw_wp (n := n + 3) L (p := BadF N) (j := j) rfl (a4 _ S4 X _ rfl) J4 (by omega)) ?_
  rintro far S5 ⟨hf, F5, J5⟩
  simp -implicitDefEqProofs only [ret_bd, wp_ret, List.set_cons_zero, List.set_cons_succ]
  refine wp_imp (hr S5 X mv bad none far _ _ _ hm hb (hp none hno) hf) ?_
  rintro _ S6 ⟨rfl, E6⟩
  rw [wp_ret]
  exact ⟨rfl, ((((F1.trans F2).trans ((E3.trans (Ext.app _ _)).frj j)).trans F4).trans F5).trans (E6.frj j), J5.ext E6⟩
end
end Zp
end
section
/-! ZK02: the law k02, plain, whole. -/
namespace Zp
open Z
open PySem (Str PyData)
def k2Turn : List Z.S := [.set 3 (.call 23 [(.v 1)]), .set 4 (.call 24 [(.v 1), (.v 3)]), .ifs (.or (.nt (.call 26 [(.v 3), (.v 4)])) (.or (.nt (.call 27 [(.v 3)])) (.nt (.call 28 [(.v 1), (.v 3), (.v 4)])))) [.ret (.k (.bl false))] []]
def k2Gr : List Z.S := [.set 5 (.bin .add (.v 5) (.lc (.nm 4) (.val (.v 5)) (.bin .add (.v 4) (.tup [(.v 6)]))))]
def k2Ev : List Z.S := [.ifs (.nt (.call 26 [(.v 3), (.v 4)])) [.ret (.k (.bl false))] []]
def k2SmP (gr ev : List Z.S) : List Z.S := [.set 5 (.lst [(.tup [])]), .fors (.nm 6) (.rg1 (.v 3)) gr, .fors (.nm 4) (.val (.v 5)) ev]
def k2Sm : List Z.S := k2SmP k2Gr k2Ev
def k2H1 : E := .heard 0 (.tup [(.call 12 [(.k (.int 5)), (.tup [(.k (.int 1)), (.k (.int 3)), (.k (.int 4))])]), (.call 7 [(.k (.int 5)), (.tup [(.k (.int 1)), (.k (.int 3)), (.k (.int 4))])]), (.call 8 [(.k (.int 5)), (.tup [(.k (.int 1)), (.k (.int 3)), (.k (.int 4))])])])
def k2H2 : E := .heard 0 (.tup [(.call 7 [(.k (.int 3)), (.tup [(.k (.int 1)), (.k (.int 2))])]), (.call 6 [(.k (.int 3)), (.tup [(.k (.int 0)), (.k (.int 2))])]), (.call 8 [(.k (.int 3)), (.tup [(.k (.int 0)), (.k (.int 2))])]), (.call 8 [(.k (.int 3)), (.tup [])])])
def k2H3 : E := .heard 0 (.tup [(.call 12 [(.k (.int 1)), (.tup [])]), (.call 12 [(.k (.int 1)), (.tup [(.k (.int 0))])]), (.call 4 [(.k (.int 1)), (.k (.int 1))]), (.call 5 [(.k (.int 1)), (.k (.int 1))])])
def k2O : List E := [(.tup [(.tup [(.k (.int 0)), (.k (.int 0)), (.k (.int 1)), (.k (.int 1)), (.k (.int 2)), (.k (.int 3))]), (.k (.int 2)), (.tup [(.k (.int 0)), (.k (.int 2))])]), (.tup [(.k (.int 1)), (.k (.bl false)), (.tup [(.k (.int 1))]), (.tup [])]), (.tup [(.tup [(.k (.int 0)), (.k (.int 0))]), (.tup [(.k (.int 0)), (.k (.int 1))]), (.tup []), (.tup [(.k (.int 0))])])]
def k2End (h1 h2 h3 : E) (o : List E) (ow : E) : List Z.S := .set 7 (.lst [h1]) :: ([h2, h3].map (appS 7) ++ [.set 8 (.lst o), .ret (.call 19 [(.v 7), ow])])
def k2Owe : E := cOwe 9 "told" (.v 8)
def k2LawP (tn sm en : List Z.S) : List Z.S := .set 1 (.call 14 [(.v 0)]) :: .fors (.nm 2) (.rg1 (.k (.int 10))) tn :: .fors (.nm 3) (.rg2 (.k (.int 1)) (.k (.int 5))) sm :: en
def cLaw02 : List Z.S := k2LawP k2Turn k2Sm (k2End k2H1 k2H2 k2H3 k2O k2Owe)
structure L2 (P : Prog) : Prop extends P2 P where
  f26 : P.fns[26]? = some ⟨2, 10, cTold⟩
  f27 : P.fns[27]? = some ⟨1, 8, cEnds⟩
  f28 : P.fns[28]? = some ⟨3, 10, cRef⟩
  f29 : P.fns[29]? = some ⟨1, 10, cLaw02⟩
section
variable {P : Prog} {n f w c z j K N m : Nat} {S : Sto} {X : Nat → D → Sto → Prop} {xs : List Nat} {d e v : D} {σ : Env}
/-! ### by hand -/
def hV1 : D := .tup [.tup (hdsV 5 [1, 3, 4]), .int (far [1, 3, 4] : Int), .tup (iN (gap [1, 3, 4]))]
def hV2 : D := .tup [.int (far [1, 2] : Int), .bl (decide ([0, 2] = List.range [0, 2].length)), .tup (iN (gap [0, 2])), .tup (iN (gap []))]
def hV3 : D := .tup [.tup (hdsV 1 []), .tup (hdsV 1 [0]), .tup (iN (List.range' 1 (1 - 1))), .tup (iN (List.range 1))]
theorem k2h1 (L : P2 P) {hd : Heard} (hh : P.hears[0]? = some hd) : PF (ev P (callP P (n + 5)) k2H1 σ) (.tup [.str hd.told, hV1]) := by
  have e1 : evs P (callP P (n + 5)) [(.k (.int 5)), (.tup [(.k (.int 1)), (.k (.int 3)), (.k (.int 4))])] σ = ret [.int (5 : Nat), .tup (iN [1, 3, 4])] := by
    simp -implicitDefEqProofs only [evs_cons, evs_nil, ev_k, ev_tup, newT3, ret_bd, bd_bd]
    rfl
  have hs : Std 5 [1, 3, 4] := by unfold Std; decide
  exact PF.hear hh (PF.tup (PFs.cons (PF.call e1 (L.heads (n := n) (by omega) hs)) (PFs.cons (PF.call e1 (L.stray (n := n) (by omega) hs)) (PFs.cons (PF.call e1 (PF.of (L.holes (n := n) (by omega) hs))) PFs.nil))) (by simp [line]))
theorem k2h2 (L : P2 P) {hd : Heard} (hh : P.hears[0]? = some hd) : PF (ev P (callP P (n + 5)) k2H2 σ) (.tup [.str hd.told, hV2]) := by
  have e1 : evs P (callP P (n + 5)) [(.k (.int 3)), (.tup [(.k (.int 1)), (.k (.int 2))])] σ = ret [.int (3 : Nat), .tup (iN [1, 2])] := by
    simp -implicitDefEqProofs only [evs_cons, evs_nil, ev_k, ev_tup, newT2, ret_bd, bd_bd]
    rfl
  have e2 : evs P (callP P (n + 5)) [(.k (.int 3)), (.tup [(.k (.int 0)), (.k (.int 2))])] σ = ret [.int (3 : Nat), .tup (iN [0, 2])] := by
    simp -implicitDefEqProofs only [evs_cons, evs_nil, ev_k, ev_tup, newT2, ret_bd, bd_bd]
    rfl
  have e3 : evs P (callP P (n + 5)) [(.k (.int 3)), (.tup [])] σ = ret [.int (3 : Nat), .tup (iN [])] := by
    simp -implicitDefEqProofs only [evs_cons, evs_nil, ev_k, ev_tup, newT0, ret_bd, bd_bd]
    rfl
  have h1 : Std 3 [1, 2] := by unfold Std; decide
  have h2 : Std 3 [0, 2] := by unfold Std; decide
  exact PF.hear hh (PF.tup (PFs.cons (PF.call e1 (L.stray (n := n) (by omega) h1)) (PFs.cons (PF.call e2 (PF.of (L.is_closed (n := n) (by omega) h2))) (PFs.cons (PF.call e2 (PF.of (L.holes (n := n) (by omega) h2))) (PFs.cons (PF.call e3 (PF.of (L.holes (n := n) (by omega) std_nil))) PFs.nil)))) (by simp [line]))
theorem k2h3 (L : P2 P) {hd : Heard} (hh : P.hears[0]? = some hd) : PF (ev P (callP P (n + 5)) k2H3 σ) (.tup [.str hd.told, hV3]) := by
  have e1 : evs P (callP P (n + 5)) [(.k (.int 1)), (.tup [])] σ = ret [.int (1 : Nat), .tup (iN [])] := by
    simp -implicitDefEqProofs only [evs_cons, evs_nil, ev_k, ev_tup, newT0, ret_bd, bd_bd]
    rfl
  have e2 : evs P (callP P (n + 5)) [(.k (.int 1)), (.tup [(.k (.int 0))])] σ = ret [.int (1 : Nat), .tup (iN [0])] := by
    simp -implicitDefEqProofs only [evs_cons, evs_nil, ev_k, ev_tup, newT1, ret_bd, bd_bd]
    rfl
  have e3 : evs P (callP P (n + 5)) [(.k (.int 1)), (.k (.int 1))] σ = ret [.int (1 : Nat), .int (1 : Nat)] := by
    simp -implicitDefEqProofs only [evs_cons, evs_nil, ev_k, ret_bd, bd_bd]
    rfl
  have h2 : Std 1 [0] := by unfold Std; decide
  exact PF.hear hh (PF.tup (PFs.cons (PF.call e1 (L.heads (n := n) (by omega) std_nil)) (PFs.cons (PF.call e2 (L.heads (n := n) (by omega) h2)) (PFs.cons (PF.call e3 (PF.of (L.full (n := n + 1) (by omega) (by omega)))) (PFs.cons (PF.call e3 (PF.of (L.clup (n := n + 1) (by omega) (by omega)))) PFs.nil)))) (by simp [line]))
theorem k2o {C : Nat → List D → M D} : evs P C k2O σ = ret [hV1, hV2, hV3] := by
  have t6 : ∀ a b c d e f : D, newT [a, b, c, d, e, f] = ret (.tup [a, b, c, d, e, f]) := fun a b c d e f => newT_is _ (by simp [line])
  simp -implicitDefEqProofs only [k2O, evs_cons, evs_nil, ev_k, ev_tup, newT0, newT1, newT2, newT3, newT4, t6, ret_bd, bd_bd]
  rfl
theorem hV_lv : ∀ x ∈ [hV1, hV2, hV3].map (fun d => D.tup [.str "told", d]), Lv hz0 20 3 x := fun x hx => by
  obtain ⟨d, hd, rfl⟩ := List.mem_map.mp hx
  refine lv_two (c := 18) k2told ?_
  simp only [List.mem_cons, List.not_mem_nil, or_false] at hd
  rcases hd with rfl | rfl | rfl
  · refine Lv.tup (by simp) fun x hx => ?_
    simp only [List.mem_cons, List.not_mem_nil, or_false] at hx
    rcases hx with rfl | rfl | rfl
    · exact lv_hds (by omega)
    · exact lv_int
    · exact lv_iN (by decide)
  · refine Lv.tup (by simp) fun x hx => ?_
    simp only [List.mem_cons, List.not_mem_nil, or_false] at hx
    rcases hx with rfl | rfl | rfl | rfl
    · exact lv_int
    · exact lv_bl
    · exact lv_iN (by decide)
    · exact lv_iN (by decide)
  · refine Lv.tup (by simp) fun x hx => ?_
    simp only [List.mem_cons, List.not_mem_nil, or_false] at hx
    rcases hx with rfl | rfl | rfl | rfl
    · exact lv_hds (by omega)
    · exact lv_hds (by omega)
    · exact lv_iN (by decide)
    · exact lv_iN (by decide)
theorem k2end_wp (L : P2 P) {x0 x1 x2 x3 x4 x5 x6 x7 x8 x9 : Option D} : wp (exs P (callP P (n + 5)) (k2End k2H1 k2H2 k2H3 k2O k2Owe) [x0, x1, x2, x3, x4, x5, x6, x7, x8, x9]) (fun f S' => f = .ret (.bl true)) X S := by
  obtain ⟨hd, hh, ht, _⟩ := L.hd
  have h1 := fun σ X S => @k2h1 P n σ L hd hh X S
  have h2 := fun σ => @k2h2 P n σ L hd hh
  have h3 := fun σ => @k2h3 P n σ L hd hh
  have ho := fun σ => @k2o P σ (callP P (n + 5))
  have how : ∀ (S : Sto) b b1, S[b1]? = some (.lst [hV1, hV2, hV3]) → wp (ev P (callP P (n + 5)) k2Owe [x0, x1, x2, x3, x4, x5, x6, some (.loc b), some (.loc b1), x9]) (fun r S' => ∃ b2, r = .loc b2 ∧ S'[b2]? = some (.lst ([hV1, hV2, hV3].map fun d => D.tup [.str "told", d])) ∧ Ext S S') X S := fun S b b1 g => by
    unfold k2Owe
    refine owe_wp (b := b1) (l := [hV1, hV2, hV3]) (by simp) ?_ (by simp [line])
    rw [ev_vi (i := 8) rfl, wp_ret]
    exact ⟨rfl, g, _, rfl, get_last _ _, Ext.app _ _⟩
  have hL := hV_lv
  generalize k2H1 = a1 at *
  generalize k2H2 = a2 at *
  generalize k2H3 = a3 at *
  generalize k2O = oo at *
  generalize k2Owe = ow at *
  generalize hV1 = v1 at *
  generalize hV2 = v2 at *
  generalize hV3 = v3 at *
  unfold k2End
  rw [exs_cons, ex_set, ev_lst, evs_cons, evs_nil]
  simp -implicitDefEqProofs only [bd_bd, wp_bd]
  refine wp_imp (h1 _ X S) ?_
  rintro _ S1 ⟨rfl, E1⟩
  simp -implicitDefEqProofs only [ret_bd, wp_new, List.set_cons_zero, List.set_cons_succ, wp_ret]
  refine ⟨by simp [line], ?_⟩
  have E2 := E1.trans (Ext.app S1 [O.lst [D.tup [.str hd.told, v1]]])
  refine apps_wp (S0 := S) (i := 7) (b := S1.length) (ys := [.tup [.str hd.told, v2], .tup [.str hd.told, v3]]) rfl E1.len ⟨h2 _, h3 _, trivial⟩ E2 (get_last _ _) (by simp [line]) fun S' E' g' => ?_
  rw [ht] at g'
  simp -implicitDefEqProofs only [exs_cons, exs_nil, ex_set, ev_lst, ho, ret_bd, bd_bd, wp_bd, wp_new]
  refine ⟨by simp [line], ?_⟩
  have g2 := (Ext.app S' [O.lst [v1, v2, v3]]).get g'
  have g3 := get_last S' (O.lst [v1, v2, v3])
  generalize S' ++ [O.lst [v1, v2, v3]] = S2 at *
  simp -implicitDefEqProofs only [wp_ret, List.set_cons_zero, List.set_cons_succ, ex_ret, ev_call, evs_cons, evs_nil, ev_v, List.getElem?_cons_zero, List.getElem?_cons_succ, ret_bd, bd_bd, wp_bd]
  refine wp_imp (how S2 _ _ g3) ?_
  rintro _ S3 ⟨b2, rfl, g4, E4⟩
  refine wp_imp (same_self (n := n + 3) (l := [v1, v2, v3].map fun d => D.tup [.str "told", d]) L.f19 L.f17 (E4.get g2) g4 (by simp) hL) ?_
  rintro _ S4 ⟨rfl, E5⟩
  first
    | rfl
    | rw [wp_ret]
/-! ### all standings of few zones -/
def Every (p : Nat) (l : List D) : Prop := l.length ≤ 2 ^ p ∧ ∀ x ∈ l, ∃ xs, x = .tup (iN xs) ∧ Std p xs
theorem std_up {p : Nat} (h : Std p xs) : Std (p + 1) xs := List.Sublist.trans h (by rw [List.range_succ]; exact List.sublist_append_left _ _)
theorem std_add {p : Nat} (h : Std p xs) : Std (p + 1) (xs ++ [p]) := by
  unfold Std
  rw [List.range_succ]
  exact List.Sublist.append h (List.Sublist.refl _)
theorem gr_wp {C : Nat → List D → M D} {p b : Nat} {l : List D} {x0 x1 x2 x3 x4 x7 x8 x9 : Option D} (hp : p ≤ 8) (hb : S[b]? = some (.lst l)) (hl : Every p l) : wp (exs P C k2Gr [x0, x1, x2, x3, x4, some (.loc b), some (.int (p : Int)), x7, x8, x9]) (fun f S' => ∃ b' l', f = .next [x0, x1, x2, x3, x4, some (.loc b'), some (.int (p : Int)), x7, x8, x9] ∧ S'[b']? = some (.lst l') ∧ Every (p + 1) l') X S := by
  have h2 : 2 ^ p ≤ 256 := Nat.le_trans (Nat.pow_le_pow_right (by omega) hp) (by decide)
  have hlc : ∀ (X : Nat → D → Sto → Prop), wp (ev P C (.lc (.nm 4) (.val (.v 5)) (.bin .add (.v 4) (.tup [(.v 6)]))) [x0, x1, x2, x3, x4, some (.loc b), some (.int (p : Int)), x7, x8, x9]) (fun r S' => ∃ k, r = .loc S.length ∧ S' = S ++ [.lst k] ∧ k.length = l.length ∧ ∀ x ∈ k, ∃ xs, x = .tup (iN xs) ∧ Std (p + 1) xs) X S := fun X => by
    rw [ev_lc, walk_val, ev_vi (i := 5) rfl, ret_bd, wo_loc, bd_bd, wp_bd, wp_getL]
    refine ⟨l, hb, ?_⟩
    rw [ret_bd, wp_bd]
    refine wp_calm (lcL_at_wp (fun k r S'' => S'' = S ∧ k.length + r.length = l.length ∧ ∀ x ∈ k, ∃ xs, x = .tup (iN xs) ∧ Std (p + 1) xs) ?_ ?_ ?_ ?_)
    · rintro k r S'' ⟨rfl, _⟩
      exact hb
    · rintro d r k S'' hd ⟨rfl, hk, hx⟩
      obtain ⟨xs, rfl, hs⟩ := hl.2 d hd
      have hlen := std_len hs
      rw [bind_nm, ret_bd, wipe_set]
      simp -implicitDefEqProofs only [List.set_cons_zero, List.set_cons_succ, ev_bin, ev_tup, evs_cons, evs_nil, ev_v, List.getElem?_cons_zero, List.getElem?_cons_succ, newT1, ret_bd, bd_bd]
      rw [add_tup' (by rw [iN_len]; simp; omega), ret_bd, wp_ret]
      refine ⟨rfl, by simp at hk ⊢; omega, fun x hx' => ?_⟩
      rcases List.mem_append.mp hx' with q | q
      · exact hx x q
      · cases List.mem_singleton.mp q
        exact ⟨xs ++ [p], by rw [iN_app]; rfl, std_add hs⟩
    · rintro k S'' ⟨rfl, hk, hx⟩
      rw [wp_new]
      simp at hk
      exact ⟨by have := hl.1; unfold line; omega, k, rfl, rfl, hk, hx⟩
    · exact ⟨rfl, by simp, fun x hx => nomatch hx⟩
  unfold k2Gr
  generalize E.lc (.nm 4) (.val (.v 5)) (.bin .add (.v 4) (.tup [(.v 6)])) = lc at *
  rw [exs_cons, ex_set, ev_bin, ev_vi (i := 5) rfl, ret_bd]
  simp -implicitDefEqProofs only [bd_bd, wp_bd]
  refine wp_imp (hlc X) ?_
  rintro _ S1 ⟨k, rfl, rfl, hk, hx⟩
  rw [add_loc, wp_bd, wp_getL]
  refine ⟨_, (Ext.app _ _).get hb, ?_⟩
  rw [wp_bd, wp_getL]
  refine ⟨_, get_last _ _, ?_⟩
  rw [wp_new]
  have hl1 := hl.1
  have hp2 : 2 ^ (p + 1) = 2 ^ p + 2 ^ p := by rw [Nat.pow_succ]; omega
  refine ⟨by rw [List.length_append]; unfold line; omega, ?_⟩
  simp -implicitDefEqProofs only [ret_bd, wp_ret, exs_nil, List.set_cons_zero, List.set_cons_succ]
  refine ⟨_, _, rfl, get_last _ _, by rw [List.length_append]; omega, fun x hx' => ?_⟩
  rcases List.mem_append.mp hx' with q | q
  · obtain ⟨xs, rfl, hs⟩ := hl.2 x q
    exact ⟨xs, rfl, std_up hs⟩
  · exact hx x q
theorem sm_wp (L : L2 P) (hN : 1 ≤ N ∧ N ≤ 4) {x0 x1 x2 x4 x5 x6 x7 x8 x9 : Option D} : wp (exs P (callP P (n + 6)) k2Sm [x0, x1, x2, some (.int (N : Int)), x4, x5, x6, x7, x8, x9]) (fun f S' => ∃ x4 x5 x6, f = .next [x0, x1, x2, some (.int (N : Int)), x4, x5, x6, x7, x8, x9]) X S := by
  have hg := fun (S : Sto) X p b l x4 hp hb hl => @gr_wp P S X (callP P (n + 6)) p b l x0 x1 x2 (some (.int (N : Int))) x4 x7 x8 x9 hp hb hl
  have rg := rg_small (i := (N : Int)) (by omega)
  unfold k2Sm
  generalize k2Gr = gr at *
  unfold k2SmP
  rw [exs_cons, ex_set, ev_lst]
  simp -implicitDefEqProofs only [evs_cons, evs_nil, ev_tup, newT0, ret_bd, bd_bd, wp_bd, wp_new]
  refine ⟨by simp [line], ?_⟩
  simp -implicitDefEqProofs only [wp_ret, List.set_cons_zero, List.set_cons_succ]
  rw [exs_cons, ex_fors, walk_rg1, ev_vi (i := 3) rfl, ret_bd]
  dsimp only
  rw [if_pos rg, ret_bd, ranges0_iN, forL_fix, List.range_eq_range', wp_bd]
  refine wp_imp (forD_wp (Q := fun f S' => ∃ x4 b x6 l, f = .next [x0, x1, x2, some (.int (N : Int)), x4, some (.loc b), x6, x7, x8, x9] ∧ S'[b]? = some (.lst l) ∧ Every N l) (fun r σ S' => ∃ p x4 b x6 l, r = iN (List.range' p (N - p)) ∧ p ≤ N ∧ σ = [x0, x1, x2, some (.int (N : Int)), x4, some (.loc b), x6, x7, x8, x9] ∧ S'[b]? = some (.lst l) ∧ Every p l) ?_ ?_ ?_) ?_
  · refine ⟨0, _, _, _, _, rfl, by omega, rfl, get_last _ _, by simp, fun x hx => ?_⟩
    cases List.mem_singleton.mp hx
    exact ⟨[], rfl, std_nil⟩
  · rintro d r σ S' ⟨p, x4, b, x6, l, er, hp, rfl, g, hl⟩
    have hp' : p < N := by
      rcases Nat.lt_or_ge p N with q | q
      · exact q
      · have : N - p = 0 := by omega
        rw [this] at er
        cases er
    have e1 : N - p = (N - (p + 1)) + 1 := by omega
    rw [e1, List.range'_succ] at er
    obtain ⟨rfl, rfl⟩ : d = .int (p : Int) ∧ r = iN (List.range' (p + 1) (N - (p + 1))) := by
      unfold iN at er ⊢
      rw [List.map_cons] at er
      exact List.cons.inj er
    simp -implicitDefEqProofs only [bind_nm, List.set_cons_zero, List.set_cons_succ, ret_bd]
    refine wp_imp (hg S' X p b l _ (by omega) g hl) ?_
    rintro _ S'' ⟨b', l', rfl, g', hl'⟩
    exact ⟨p + 1, _, _, _, _, rfl, by omega, rfl, g', hl'⟩
  · rintro σ S' ⟨p, x4, b, x6, l, er, hp, rfl, g, hl⟩
    have : p = N := by
      have := congrArg List.length er
      rw [iN_len] at this
      simp at this
      omega
    subst this
    exact ⟨_, _, _, _, rfl, g, hl⟩
  · rintro _ S' ⟨x4, b, x6, l, rfl, g, hl⟩
    simp -implicitDefEqProofs only [exs_cons, exs_nil, ex_fors, walk_val, ev_v, List.getElem?_cons_zero, List.getElem?_cons_succ, ret_bd, bd_bd, wo_loc, wp_bd, wp_getL]
    refine ⟨l, g, ?_⟩
    refine wp_imp (forL_at_wp (Q := fun f S' => ∃ x4, f = .next [x0, x1, x2, some (.int (N : Int)), x4, some (.loc b), x6, x7, x8, x9]) (fun r σ S'' => (∃ x4, σ = [x0, x1, x2, some (.int (N : Int)), x4, some (.loc b), x6, x7, x8, x9]) ∧ Ext S' S'') (fun _ _ _ h => h.2.get g) ?_ ?_ ⟨⟨_, rfl⟩, Ext.refl _⟩) ?_
    · rintro q r σ S'' hq ⟨⟨x4, rfl⟩, E⟩
      obtain ⟨xs, rfl, hs⟩ := hl.2 q hq
      simp -implicitDefEqProofs only [bind_nm, List.set_cons_zero, List.set_cons_succ, ret_bd, k2Ev, exs_cons, exs_nil, ex_ifs, tst_nt, tst_call, ev_call, evs_cons, evs_nil, ev_v, List.getElem?_cons_zero, List.getElem?_cons_succ, bd_bd, wp_bd]
      refine wp_imp (told_pf (n := n) L.toP2 L.f26 (by omega) hs X S'') ?_
      rintro _ S3 ⟨rfl, E3⟩
      simp -implicitDefEqProofs only [tr_bl, wp_ret, Bool.not_true, Bool.false_eq_true, if_false]
      exact ⟨⟨_, rfl⟩, E.trans E3⟩
    · rintro σ S'' ⟨⟨x4, rfl⟩, E⟩
      exact ⟨_, rfl⟩
    · rintro _ S'' ⟨x4, rfl⟩
      rw [wp_ret]
      exact ⟨_, _, _, rfl⟩
/-! ### a turn -/
theorem znL2_eq (C : Nat → List D → M D) (σ : Env) : evs P C znL2 σ = ret [.int 1, .int 1, .int 2, .int 2, .int 3, .int 3, .int 4, .int 5, .int 7, .int 12, .int 12] := rfl
theorem turn2_wp (L : L2 P) (hJ : Jar j K S) (hK : K + 2000 < 2 ^ 63) {x0 x2 x3 x4 x5 x6 x7 x8 x9 : Option D} : wp (exs P (callP P (n + 6)) k2Turn [x0, some (.loc j), x2, x3, x4, x5, x6, x7, x8, x9]) (fun f S' => (∃ x3 x4, f = .next [x0, some (.loc j), x2, x3, x4, x5, x6, x7, x8, x9]) ∧ Jar j (K + 107) S') X S := by
  unfold k2Turn
  rw [exs_cons, ex_set]
  simp -implicitDefEqProofs only [ev_call, evs_cons, evs_nil, ev_v, List.getElem?_cons_zero, List.getElem?_cons_succ, ret_bd, bd_bd, wp_bd]
  refine wp_imp (zn_wp (n := n + 3) L.f23 L.f16 L.f15 znL2_eq (by simp) (by simp) hJ (by omega)) ?_
  rintro r S1 ⟨hr, hF1, hJ1⟩
  have hN : ∃ N : Nat, r = .int (N : Int) ∧ 1 ≤ N ∧ N ≤ 12 := by
    simp only [List.mem_cons, List.not_mem_nil, or_false] at hr
    rcases hr with rfl | rfl | rfl | rfl | rfl | rfl | rfl | rfl | rfl | rfl | rfl
    · exact ⟨1, rfl, by omega, by omega⟩
    · exact ⟨1, rfl, by omega, by omega⟩
    · exact ⟨2, rfl, by omega, by omega⟩
    · exact ⟨2, rfl, by omega, by omega⟩
    · exact ⟨3, rfl, by omega, by omega⟩
    · exact ⟨3, rfl, by omega, by omega⟩
    · exact ⟨4, rfl, by omega, by omega⟩
    · exact ⟨5, rfl, by omega, by omega⟩
    · exact ⟨7, rfl, by omega, by omega⟩
    · exact ⟨12, rfl, by omega, by omega⟩
    · exact ⟨12, rfl, by omega, by omega⟩
  obtain ⟨N, rfl, hN⟩ := hN
  simp -implicitDefEqProofs only [wp_ret, List.set_cons_zero, List.set_cons_succ]
  rw [exs_cons, ex_set]
  simp -implicitDefEqProofs only [ev_call, evs_cons, evs_nil, ev_v, List.getElem?_cons_zero, List.getElem?_cons_succ, ret_bd, bd_bd, wp_bd]
  refine wp_imp (zs_sub (n := n + 4) L.f24 L.f15 hJ1 (by omega) (by omega) (by omega)) ?_
  rintro _ S2 ⟨⟨k, rfl, hk⟩, hF2, hJ2⟩
  rw [ranges0_iN] at hk
  obtain ⟨xs, hs, rfl⟩ := List.sublist_map_iff.mp hk
  have hs : Std N xs := hs
  show wp _ _ X S2
  simp -implicitDefEqProofs only [wp_ret, List.set_cons_zero, List.set_cons_succ, exs_cons, exs_nil, ex_ifs, tst_or, tst_nt, tst_call, ev_call, evs_cons, evs_nil, ev_v, List.getElem?_cons_zero, List.getElem?_cons_succ, ret_bd, bd_bd, wp_bd]
  refine wp_imp (told_pf (n := n) L.toP2 L.f26 hN hs X S2) ?_
  rintro _ S3 ⟨rfl, E3⟩
  simp -implicitDefEqProofs only [tr_bl, wp_ret, Bool.not_true, Bool.false_eq_true, if_false, wp_bd]
  refine wp_imp (ends_pf (n := n) L.toP2 L.f27 hN X S3) ?_
  rintro _ S4 ⟨rfl, E4⟩
  simp -implicitDefEqProofs only [tr_bl, wp_ret, Bool.not_true, Bool.false_eq_true, if_false, wp_bd]
  refine wp_imp (ref_wp (n := n) L.toP2 L.f28 hN hs ((hJ2.ext E3).ext E4) (by omega)) ?_
  rintro _ S5 ⟨rfl, hF5, hJ5⟩
  simp -implicitDefEqProofs only [tr_bl, wp_ret, Bool.not_true, Bool.false_eq_true, if_false, wp_bd]
  exact ⟨⟨_, _, rfl⟩, hJ5.more (by omega)⟩
theorem L2.law (L : L2 P) {l : List D} (hd : Rd S d l) (hl : l.length ≤ 63) (hi : ∀ x ∈ l, ∃ v, x = .int v) : wp (callP P (n + 7) 29 [d]) (fun r S' => r = .bl true) X S := by
  rw [call_eq L.f29 rfl]
  have ht := fun (S : Sto) K X j hJ hK (x0 x2 x3 x4 x5 x6 x7 x8 x9 : Option D) => @turn2_wp P n j K S X L hJ hK x0 x2 x3 x4 x5 x6 x7 x8 x9
  have hs := fun (S : Sto) X N hN (x0 x1 x2 x4 x5 x6 x7 x8 x9 : Option D) => @sm_wp P n N S X L hN x0 x1 x2 x4 x5 x6 x7 x8 x9
  have he := fun (S : Sto) X (x0 x1 x2 x3 x4 x5 x6 x7 x8 x9 : Option D) => @k2end_wp P (n + 1) S X L.toP2 x0 x1 x2 x3 x4 x5 x6 x7 x8 x9
  unfold cLaw02
  generalize k2Turn = tn at *
  generalize k2Sm = sm at *
  generalize k2End k2H1 k2H2 k2H3 k2O k2Owe = en at *
  unfold k2LawP
  rw [exs_cons, ex_set]
  simp -implicitDefEqProofs only [List.map_cons, List.map_nil, List.cons_append, List.nil_append, List.replicate, ev_call, evs_cons, evs_nil, ev_v, List.getElem?_cons_zero, List.getElem?_cons_succ, ret_bd, bd_bd, wp_bd]
  refine wp_imp (pool_wp (n := n + 5) L.f14 hd hl hi) ?_
  rintro _ S1 ⟨rfl, hE, hJ⟩
  simp -implicitDefEqProofs only [wp_ret, List.set_cons_zero, List.set_cons_succ]
  have r10 := rg_small (i := 10) (by omega)
  have r15 : (rgok 1 && rgok 5) = true := by rw [rg_small (by omega), rg_small (by omega)]; rfl
  rw [exs_cons, ex_fors, walk_rg1, ev_k, ret_bd]
  dsimp only
  rw [if_pos r10, ret_bd, forL_fix, wp_bd]
  refine wp_imp (forD_wp (Q := fun f S' => ∃ x2 x3 x4, f = .next [some d, some (.loc S.length), x2, x3, x4, none, none, none, none, none]) (fun r σ S' => (∃ x2 x3 x4, σ = [some d, some (.loc S.length), x2, x3, x4, none, none, none, none, none]) ∧ ∃ K', Jar S.length K' S' ∧ K' + 107 * r.length ≤ 107 * 10) ⟨⟨_, _, _, rfl⟩, 0, hJ, by simp [ranges_len]⟩ ?_ ?_) ?_
  · rintro q r σ S' ⟨⟨x2, x3, x4, rfl⟩, K', hJ', hK'⟩
    simp only [List.length_cons] at hK'
    simp -implicitDefEqProofs only [bind_nm, List.set_cons_zero, List.set_cons_succ, ret_bd]
    refine wp_imp (ht S' K' X S.length hJ' (by omega) _ _ _ _ _ _ _ _ _) ?_
    rintro _ S'' ⟨⟨_, _, rfl⟩, hJ''⟩
    exact ⟨⟨_, _, _, rfl⟩, _, hJ'', by omega⟩
  · rintro σ S' ⟨⟨x2, x3, x4, rfl⟩, _⟩
    exact ⟨_, _, _, rfl⟩
  · rintro _ S' ⟨x2, x3, x4, rfl⟩
    dsimp only
    rw [exs_cons, ex_fors, walk_rg2, ev_k, ret_bd, ev_k, ret_bd]
    dsimp only
    rw [if_pos r15, ret_bd, forL_fix, wp_bd]
    have e15 : ranges 1 5 = iN (List.range' 1 4) := ranges_iN 1 5
    rw [e15]
    refine wp_imp (forD_mem_wp (Q := fun f S' => ∃ x2 x3 x4 x5 x6, f = .next [some d, some (.loc S.length), x2, x3, x4, x5, x6, none, none, none]) (fun r σ S' => ∃ x2 x3 x4 x5 x6, σ = [some d, some (.loc S.length), x2, x3, x4, x5, x6, none, none, none]) ⟨_, _, _, _, _, rfl⟩ ?_ ?_) ?_
    · rintro q r σ S'' hq ⟨x2, x3, x4, x5, x6, rfl⟩
      obtain ⟨N, hN, rfl⟩ := List.mem_map.mp hq
      have hN := List.mem_range'_1.mp hN
      simp -implicitDefEqProofs only [bind_nm, List.set_cons_zero, List.set_cons_succ, ret_bd]
      refine wp_imp (hs S'' X N (by omega) _ _ _ _ _ _ _ _ _) ?_
      rintro _ S3 ⟨_, _, _, rfl⟩
      exact ⟨_, _, _, _, _, rfl⟩
    · rintro σ S'' ⟨x2, x3, x4, x5, x6, rfl⟩
      exact ⟨_, _, _, _, _, rfl⟩
    · rintro _ S'' ⟨x2, x3, x4, x5, x6, rfl⟩
      dsimp only
      refine wp_imp (he S'' X _ _ _ _ _ _ _ _ _ _) ?_
      rintro _ S3 rfl
      dsimp only
      rw [wp_ret]
end
end Zp
end
set_option maxHeartbeats 0
namespace K02
open PySem PySem.Spec PyProof.Rows L2 Z
def top (i : Nat) : Stmt := PySem.Challenge.pw_zonesclose_k02_heads_there_and_back.main.body.getD i (.Pass ⟨0, 0, 0, 0⟩)
def inCls (st : Stmt) (i : Nat) : Stmt := match st with
  | .ClassDef _ _ _ b _ _ _ _ _ _ _ => b.getD i (.Pass ⟨0, 0, 0, 0⟩)
  | _ => .Pass ⟨0, 0, 0, 0⟩
def gl_0 : List (Str × GRef) := [("whole", .fn 0 3), ("many", .fn 1 3), ("line_of", .fn 2 1), ("asked_standing", .fn 3 2), ("full_from", .fn 4 2), ("closed_up", .fn 5 2), ("is_closed", .fn 6 2), ("stray", .fn 7 2), ("holes", .fn 8 2), ("heads_of", .fn 9 2), ("standing_of", .fn 10 1), ("asked_heads", .fn 11 2), ("heads", .fn 12 2), ("from_heads", .fn 13 2), ("_law_pool", .fn 14 1), ("_law_take", .fn 15 2), ("_law_one", .fn 16 2), ("_law_zf_is_whole", .fn 17 1), ("_law_zf_is_in", .fn 18 3), ("_law_zf_same", .fn 19 2)]
def gl_1 : List (Str × GRef) := [("_law_zf_standing_fault", .fn 20 2), ("_law_zf_heads_fault", .fn 21 2), ("_law_zf_heads", .fn 22 2), ("_law_zf_n", .fn 23 1), ("_law_zf_standing", .fn 24 2), ("_law_z2_free_ahead", .fn 25 1), ("_law_z2_told_right", .fn 26 2), ("_law_z2_ends_right", .fn 27 1), ("_law_z2_refused_right", .fn 28 3), ("law", .fn 29 1), ("Refused", .cls 0), ("BadMany", .cls 1), ("BadStanding", .cls 2), ("BadHeads", .cls 3), ("MOST_ZONES", .con (.int 12)), ("_law_z2_heard", .heard 0)]
def gl : List (Str × GRef) := gl_0 ++ gl_1
/-- whole -/
def t0 : FnT := ⟨⟨("whole", none), "whole", "whole", defArgs (top 5), defBody (top 5), defScope (top 5), [], []⟩, ["thing", "low", "high"], ["thing", "low", "high"],
  [.ret (.an (.p1 .isInt (.v 0)) (.an (.nt (.p1 .isBool (.v 0))) (.ch .le .le (.v 1) (.v 0) (.v 2))))], false⟩
/-- many -/
def t1 : FnT := ⟨⟨("many", none), "many", "many", defArgs (top 6), defBody (top 6), defScope (top 6), [], []⟩, ["thing", "low", "high"], ["thing", "low", "high"],
  [.ifs (.nt (.call 0 [(.v 0), (.v 1), (.v 2)])) [.rais 1 (.v 0)] []], false⟩
/-- line_of -/
def t2 : FnT := ⟨⟨("line_of", none), "line_of", "line_of", defArgs (top 9), defBody (top 9), defScope (top 9), [], []⟩, ["n"], ["n"],
  [.expr (.call 1 [(.v 0), (.k (.int 1)), (.k (.int 12))])], false⟩
/-- asked_standing -/
def t3 : FnT := ⟨⟨("asked_standing", none), "asked_standing", "asked_standing", defArgs (top 11), defBody (top 11), defScope (top 11), [], []⟩, ["n", "standing", "least", "at", "zone"], ["n", "standing"],
  [.expr (.call 2 [(.v 0)]), .ifs (.nt (.p1 .isTup (.v 1))) [.rais 2 (.neg (.k (.int 1)))] [], .set 2 (.k (.int 0)), .fors (.tp [3, 4]) (.enum (.v 1)) [.ifs (.nt (.call 0 [(.v 4), (.v 2), (.bin .sub (.v 0) (.k (.int 1)))])) [.rais 2 (.v 3)] [], .set 2 (.bin .add (.v 4) (.k (.int 1)))], .ret (.tupOf (.val (.v 1)))], false⟩
/-- full_from -/
def t4 : FnT := ⟨⟨("full_from", none), "full_from", "full_from", defArgs (top 12), defBody (top 12), defScope (top 12), [], []⟩, ["n", "j"], ["n", "j"],
  [.expr (.call 2 [(.v 0)]), .expr (.call 1 [(.v 1), (.k (.int 0)), (.v 0)]), .ret (.tupOf (.rg2 (.v 1) (.v 0)))], false⟩
/-- closed_up -/
def t5 : FnT := ⟨⟨("closed_up", none), "closed_up", "closed_up", defArgs (top 13), defBody (top 13), defScope (top 13), [], []⟩, ["n", "m"], ["n", "m"],
  [.expr (.call 2 [(.v 0)]), .expr (.call 1 [(.v 1), (.k (.int 0)), (.v 0)]), .ret (.tupOf (.rg1 (.v 1)))], false⟩
/-- is_closed -/
def t6 : FnT := ⟨⟨("is_closed", none), "is_closed", "is_closed", defArgs (top 14), defBody (top 14), defScope (top 14), [], []⟩, ["n", "standing", "parcels"], ["n", "standing"],
  [.set 2 (.call 3 [(.v 0), (.v 1)]), .ret (.cmp .eq (.v 2) (.tupOf (.rg1 (.p1 .len (.v 2)))))], false⟩
/-- stray -/
def t7 : FnT := ⟨⟨("stray", none), "stray", "stray", defArgs (top 15), defBody (top 15), defScope (top 15), [], []⟩, ["n", "standing", "parcels", "zone"], ["n", "standing"],
  [.set 2 (.call 3 [(.v 0), (.v 1)]), .ret (.p1 .len (.lcif (.nm 3) (.val (.v 2)) (.cmp .ge (.v 3) (.p1 .len (.v 2))) (.v 3)))], false⟩
/-- holes -/
def t8 : FnT := ⟨⟨("holes", none), "holes", "holes", defArgs (top 16), defBody (top 16), defScope (top 16), [], []⟩, ["n", "standing", "parcels", "zone"], ["n", "standing"],
  [.set 2 (.call 3 [(.v 0), (.v 1)]), .ifs (.nt (.v 2)) [.ret (.tup [])] [], .ret (.tupG (.rg1 (.ix (.v 2) (.neg (.k (.int 1))))) (.notin .x (.v 2)) .x)], true⟩
/-- heads_of -/
def t9 : FnT := ⟨⟨("heads_of", none), "heads_of", "heads_of", defArgs (top 18), defBody (top 18), defScope (top 18), [], []⟩, ["n", "standing", "row", "zone"], ["n", "standing"],
  [.set 2 (.lst [(.k (.int 0))]), .fors (.nm 3) (.rg1 (.v 0)) [.expr (.app (.v 2) (.bin .add (.ix (.v 2) (.neg (.k (.int 1)))) (.cmp .isin (.v 3) (.v 1))))], .ret (.tupOf (.val (.v 2)))], false⟩
/-- standing_of -/
def t10 : FnT := ⟨⟨("standing_of", none), "standing_of", "standing_of", defArgs (top 19), defBody (top 19), defScope (top 19), [], []⟩, ["row", "zone"], ["row"],
  [.ret (.tupG (.rg1 (.bin .sub (.p1 .len (.v 0)) (.k (.int 1)))) (.gt (.ix (.v 0) (.add .x (.k (1)))) (.ix (.v 0) .x)) .x)], true⟩
/-- asked_heads -/
def t11 : FnT := ⟨⟨("asked_heads", none), "asked_heads", "asked_heads", defArgs (top 20), defBody (top 20), defScope (top 20), [], []⟩, ["n", "row", "low", "high", "at", "one"], ["n", "row"],
  [.expr (.call 2 [(.v 0)]), .ifs (.or (.nt (.p1 .isTup (.v 1))) (.cmp .ne (.p1 .len (.v 1)) (.bin .add (.v 0) (.k (.int 1))))) [.rais 3 (.neg (.k (.int 1)))] [], .setT [2, 3] (.tup [(.k (.int 0)), (.k (.int 0))]), .fors (.tp [4, 5]) (.enum (.v 1)) [.ifs (.nt (.call 0 [(.v 5), (.v 2), (.v 3)])) [.rais 3 (.v 4)] [], .par 2 3 (.v 5) (.bin .add (.v 5) (.k (.int 1)))], .ret (.tupOf (.val (.v 1)))], false⟩
/-- heads -/
def t12 : FnT := ⟨⟨("heads", none), "heads", "heads", defArgs (top 21), defBody (top 21), defScope (top 21), [], []⟩, ["n", "standing"], ["n", "standing"],
  [.ret (.call 9 [(.v 0), (.call 3 [(.v 0), (.v 1)])])], false⟩
/-- from_heads -/
def t13 : FnT := ⟨⟨("from_heads", none), "from_heads", "from_heads", defArgs (top 22), defBody (top 22), defScope (top 22), [], []⟩, ["n", "row"], ["n", "row"],
  [.ret (.call 10 [(.call 11 [(.v 0), (.v 1)])])], false⟩
/-- _law_pool -/
def t14 : FnT := ⟨⟨("_law_pool", none), "_law_pool", "_law_pool", defArgs (top 24), defBody (top 24), defScope (top 24), [], []⟩, ["script", "digits", "stirred", "at", "cell"], ["script"],
  [.setT [1, 2] (.tup [(.k (.int 0)), (.k (.int 7))]), .fors (.nm 3) (.rg1 (.p1 .len (.v 0))) [.set 4 (.p1 .int (.p2 .max (.ix (.v 0) (.v 3)) (.bin .sub (.neg (.k (.int 1))) (.ix (.v 0) (.v 3))))), .set 2 (.bin .mod (.p1 .int (.bin .add (.bin .add (.bin .mul (.v 2) (.k (.int 48271))) (.bin .mod (.v 4) (.k (.int 2147483629)))) (.k (.int 11)))) (.k (.int 2147483647))), .set 1 (.ite (.an (.cmp .ge (.v 4) (.bin .pow (.k (.int 10)) (.k (.int 12)))) (.cmp .lt (.v 1) (.bin .pow (.k (.int 10)) (.k (.int 60))))) (.p1 .int (.bin .add (.bin .mul (.v 1) (.bin .pow (.k (.int 10)) (.k (.int 60)))) (.bin .mod (.v 4) (.bin .pow (.k (.int 10)) (.k (.int 60)))))) (.v 1))], .ret (.lst [(.v 1), (.v 2), (.k (.int 0))])], false⟩
/-- _law_take -/
def t15 : FnT := ⟨⟨("_law_take", none), "_law_take", "_law_take", defArgs (top 25), defBody (top 25), defScope (top 25), [], []⟩, ["jar", "many_v", "made_now"], ["jar", "many_v"],
  [.ifs (.cmp .gt (.ix (.v 0) (.k (.int 0))) (.k (.int 0))) [.set 2 (.bin .mod (.p1 .int (.ix (.v 0) (.k (.int 0)))) (.v 1)), .put (.v 0) (.k (.int 0)) (.bin .div (.ix (.v 0) (.k (.int 0))) (.v 1)), .ret (.v 2)] [], .put (.v 0) (.k (.int 2)) (.bin .add (.ix (.v 0) (.k (.int 2))) (.k (.int 1))), .put (.v 0) (.k (.int 1)) (.bin .mod (.p1 .int (.bin .add (.bin .add (.bin .mul (.ix (.v 0) (.k (.int 1))) (.k (.int 39373))) (.bin .mul (.k (.int 7919)) (.ix (.v 0) (.k (.int 2))))) (.k (.int 7)))) (.k (.int 2147483647))), .ret (.bin .mod (.p1 .int (.bin .div (.bin .mod (.p1 .int (.bin .mul (.ix (.v 0) (.k (.int 1))) (.ix (.v 0) (.k (.int 1))))) (.k (.int 2147483629))) (.k (.int 32)))) (.v 1))], false⟩
/-- _law_one -/
def t16 : FnT := ⟨⟨("_law_one", none), "_law_one", "_law_one", defArgs (top 26), defBody (top 26), defScope (top 26), [], []⟩, ["jar", "things"], ["jar", "things"],
  [.ret (.ix (.v 1) (.call 15 [(.v 0), (.p1 .len (.v 1))]))], false⟩
/-- _law_zf_is_whole -/
def t17 : FnT := ⟨⟨("_law_zf_is_whole", none), "_law_zf_is_whole", "_law_zf_is_whole", defArgs (top 27), defBody (top 27), defScope (top 27), [], []⟩, ["thing"], ["thing"],
  [.ret (.an (.p1 .isInt (.v 0)) (.nt (.p1 .isBool (.v 0))))], false⟩
/-- _law_zf_is_in -/
def t18 : FnT := ⟨⟨("_law_zf_is_in", none), "_law_zf_is_in", "_law_zf_is_in", defArgs (top 28), defBody (top 28), defScope (top 28), [], []⟩, ["thing", "low", "high"], ["thing", "low", "high"],
  [.ret (.an (.call 17 [(.v 0)]) (.ch .le .le (.v 1) (.v 0) (.v 2)))], false⟩
/-- _law_zf_same -/
def t19 : FnT := ⟨⟨("_law_zf_same", none), "_law_zf_same", "_law_zf_same", defArgs (top 29), defBody (top 29), defScope (top 29), [], []⟩, ["heard", "owed", "todo", "one", "due", "is_so", "at"], ["heard", "owed"],
  [.set 2 (.lst [(.tup [(.v 0), (.v 1)])]), .whil (.cmp .ne (.v 2) (.lst [])) [.setT [3, 4] (.pop (.v 2)), .ifs (.cmp .is (.v 4) (.k .non)) [.set 5 (.cmp .is (.v 3) (.k .non))] [.ifs (.p1 .isBool (.v 4)) [.set 5 (.an (.p1 .isBool (.v 3)) (.cmp .eq (.v 3) (.v 4)))] [.ifs (.p1 .isInt (.v 4)) [.set 5 (.an (.call 17 [(.v 3)]) (.cmp .eq (.v 3) (.v 4)))] [.ifs (.p1 .isStr (.v 4)) [.set 5 (.an (.p1 .isStr (.v 3)) (.cmp .eq (.v 3) (.v 4)))] [.set 5 (.ite (.p1 .isTup (.v 4)) (.p1 .isTup (.v 3)) (.p1 .isLst (.v 3))), .set 5 (.an (.v 5) (.cmp .eq (.p1 .len (.v 3)) (.p1 .len (.v 4)))), .expr (.ext (.v 2) (.ite (.v 5) (.lc (.nm 6) (.rg1 (.p1 .len (.v 4))) (.tup [(.ix (.v 3) (.v 6)), (.ix (.v 4) (.v 6))])) (.lst [])))]]]], .ifs (.nt (.v 5)) [.ret (.k (.bl false))] []], .ret (.k (.bl true))], false⟩
/-- _law_zf_standing_fault -/
def t20 : FnT := ⟨⟨("_law_zf_standing_fault", none), "_law_zf_standing_fault", "_law_zf_standing_fault", defArgs (top 30), defBody (top 30), defScope (top 30), [], []⟩, ["n", "thing", "at"], ["n", "thing"],
  [.ifs (.nt (.p1 .isTup (.v 1))) [.ret (.neg (.k (.int 1)))] [], .fors (.nm 2) (.rg1 (.p1 .len (.v 1))) [.ifs (.or (.nt (.call 18 [(.ix (.v 1) (.v 2)), (.k (.int 0)), (.bin .sub (.v 0) (.k (.int 1)))])) (.an (.cmp .gt (.v 2) (.k (.int 0))) (.cmp .le (.ix (.v 1) (.v 2)) (.ix (.v 1) (.bin .sub (.v 2) (.k (.int 1))))))) [.ret (.v 2)] []], .ret (.k .non)], false⟩
/-- _law_zf_heads_fault -/
def t21 : FnT := ⟨⟨("_law_zf_heads_fault", none), "_law_zf_heads_fault", "_law_zf_heads_fault", defArgs (top 31), defBody (top 31), defScope (top 31), [], []⟩, ["n", "thing", "at", "low"], ["n", "thing"],
  [.ifs (.or (.nt (.p1 .isTup (.v 1))) (.cmp .ne (.p1 .len (.v 1)) (.bin .add (.v 0) (.k (.int 1))))) [.ret (.neg (.k (.int 1)))] [], .fors (.nm 2) (.rg1 (.bin .add (.v 0) (.k (.int 1)))) [.set 3 (.ite (.cmp .gt (.v 2) (.k (.int 0))) (.ix (.v 1) (.bin .sub (.v 2) (.k (.int 1)))) (.k (.int 0))), .ifs (.nt (.call 18 [(.ix (.v 1) (.v 2)), (.v 3), (.bin .add (.v 3) (.p1 .int (.cmp .gt (.v 2) (.k (.int 0)))))])) [.ret (.v 2)] []], .ret (.k .non)], false⟩
/-- _law_zf_heads -/
def t22 : FnT := ⟨⟨("_law_zf_heads", none), "_law_zf_heads", "_law_zf_heads", defArgs (top 32), defBody (top 32), defScope (top 32), [], []⟩, ["n", "one", "p", "zone"], ["n", "one"],
  [.ret (.tupOf (.val (.lc (.nm 2) (.rg1 (.bin .add (.v 0) (.k (.int 1)))) (.p1 .len (.lcif (.nm 3) (.val (.v 1)) (.cmp .lt (.v 3) (.v 2)) (.v 3))))))], false⟩
/-- _law_zf_n -/
def t23 : FnT := ⟨⟨("_law_zf_n", none), "_law_zf_n", "_law_zf_n", defArgs (top 33), defBody (top 33), defScope (top 33), [], []⟩, ["jar"], ["jar"],
  [.ret (.call 16 [(.v 0), (.lst [(.k (.int 1)), (.k (.int 1)), (.k (.int 2)), (.k (.int 2)), (.k (.int 3)), (.k (.int 3)), (.k (.int 4)), (.k (.int 5)), (.k (.int 7)), (.k (.int 12)), (.k (.int 12))])])], false⟩
/-- _law_zf_standing -/
def t24 : FnT := ⟨⟨("_law_zf_standing", none), "_law_zf_standing", "_law_zf_standing", defArgs (top 34), defBody (top 34), defScope (top 34), [], []⟩, ["jar", "n", "form", "some", "m", "zone"], ["jar", "n"],
  [.setT [2, 3] (.tup [(.call 15 [(.v 0), (.k (.int 6))]), (.lstOf (.rg1 (.v 1)))]), .ifs (.cmp .lt (.v 2) (.k (.int 3))) [.set 4 (.call 15 [(.v 0), (.bin .add (.v 1) (.k (.int 1)))]), .ret (.tupOf (.val (.ite (.cmp .eq (.v 2) (.k (.int 0))) (.slo (.v 3) (.v 4)) (.ite (.cmp .eq (.v 2) (.k (.int 1))) (.shi (.v 3) (.v 4)) (.lcif (.nm 5) (.val (.v 3)) (.cmp .ne (.v 5) (.v 4)) (.v 5))))))] [], .ret (.tupOf (.val (.lcif (.nm 5) (.val (.v 3)) (.cmp .eq (.call 15 [(.v 0), (.bin .sub (.k (.int 6)) (.v 2))]) (.k (.int 0))) (.v 5))))], false⟩
/-- _law_z2_free_ahead -/
def t25 : FnT := ⟨⟨("_law_z2_free_ahead", none), "_law_z2_free_ahead", "_law_z2_free_ahead", defArgs (top 36), defBody (top 36), defScope (top 36), [], []⟩, ["one", "zone"], ["one"],
  [.ret (.ite (.cmp .ne (.v 0) (.tup [])) (.tupOf (.val (.lcif (.nm 1) (.rg1 (.ix (.v 0) (.neg (.k (.int 1))))) (.cmp .notin (.v 1) (.v 0)) (.v 1)))) (.tup []))], false⟩
/-- _law_z2_told_right -/
def t26 : FnT := ⟨⟨("_law_z2_told_right", none), "_law_z2_told_right", "_law_z2_told_right", defArgs (top 37), defBody (top 37), defScope (top 37), [], []⟩, ["n", "one", "m", "heard", "far", "free", "is_one", "counts_now", "zone", "each"], ["n", "one"],
  [.setT [7, 2] (.tup [(.call 22 [(.v 0), (.v 1)]), (.p1 .len (.v 1))]), .set 3 (.lst [(.heard 0 (.call 12 [(.v 0), (.v 1)]))]), .expr (.app (.v 3) (.heard 0 (.call 13 [(.v 0), (.v 7)]))), .expr (.app (.v 3) (.heard 0 (.call 6 [(.v 0), (.v 1)]))), .expr (.app (.v 3) (.heard 0 (.call 7 [(.v 0), (.v 1)]))), .expr (.app (.v 3) (.heard 0 (.call 8 [(.v 0), (.v 1)]))), .par 4 5 (.p1 .len (.lcif (.nm 8) (.val (.v 1)) (.cmp .ge (.v 8) (.v 2)) (.v 8))) (.call 25 [(.v 1)]), .set 6 (.cmp .eq (.v 1) (.tupOf (.rg1 (.v 2)))), .ifs (.or (.cmp .ne (.v 6) (.cmp .eq (.v 4) (.k (.int 0)))) (.cmp .ne (.v 6) (.cmp .eq (.v 5) (.tup [])))) [.ret (.k (.bl false))] [], .ret (.call 19 [(.v 3), (.lc (.nm 9) (.val (.lst [(.v 7), (.v 1), (.v 6), (.v 4), (.v 5)])) (.tup [(.k (.str "told")), (.v 9)]))])], false⟩
/-- _law_z2_ends_right -/
def t27 : FnT := ⟨⟨("_law_z2_ends_right", none), "_law_z2_ends_right", "_law_z2_ends_right", defArgs (top 38), defBody (top 38), defScope (top 38), [], []⟩, ["n", "heard", "owed", "m", "one", "other", "p", "each"], ["n"],
  [.fors (.nm 3) (.rg1 (.bin .add (.v 0) (.k (.int 1)))) [.setT [4, 5] (.tup [(.tupOf (.rg2 (.v 3) (.v 0))), (.tupOf (.rg1 (.v 3)))]), .set 1 (.lst [(.heard 0 (.call 4 [(.v 0), (.v 3)]))]), .expr (.app (.v 1) (.heard 0 (.call 5 [(.v 0), (.v 3)]))), .expr (.app (.v 1) (.heard 0 (.call 12 [(.v 0), (.v 4)]))), .expr (.app (.v 1) (.heard 0 (.call 12 [(.v 0), (.v 5)]))), .set 2 (.lst [(.v 4), (.v 5), (.tupOf (.val (.lc (.nm 6) (.rg1 (.bin .add (.v 0) (.k (.int 1)))) (.p2 .max (.k (.int 0)) (.bin .sub (.v 6) (.v 3)))))), (.tupOf (.val (.lc (.nm 6) (.rg1 (.bin .add (.v 0) (.k (.int 1)))) (.p2 .min (.v 6) (.v 3)))))]), .ifs (.nt (.call 19 [(.v 1), (.lc (.nm 7) (.val (.v 2)) (.tup [(.k (.str "told")), (.v 7)]))])) [.ret (.k (.bl false))] []], .ret (.k (.bl true))], false⟩
/-- _law_z2_refused_right -/
def t28 : FnT := ⟨⟨("_law_z2_refused_right", none), "_law_z2_refused_right", "_law_z2_refused_right", defArgs (top 39), defBody (top 39), defScope (top 39), [], []⟩, ["jar", "n", "one", "some", "heard", "owed", "bad", "far", "many_v", "none"], ["jar", "n", "one"],
  [.set 8 (.call 16 [(.v 0), (.lst [(.k (.int 0)), (.k (.int 13)), (.neg (.k (.int 1))), (.k (.bl true)), (.k .non), (.k (.str "3")), (.tup [(.k (.int 3))]), (.bin .pow (.k (.int 10)) (.k (.int 20)))])]), .set 6 (.call 16 [(.v 0), (.lst [(.k .non), (.lstOf (.val (.v 2))), (.bin .add (.v 2) (.tup [(.v 1)])), (.bin .add (.bin .add (.v 2) (.slo (.v 2) (.neg (.k (.int 1))))) (.tup [(.v 1)])), (.tup [(.k (.bl true))]), (.bin .add (.tup [(.neg (.k (.int 1)))]) (.v 2)), (.tup [(.k (.str "0"))])])]), .set 3 (.lst [(.k .non), (.lstOf (.val (.v 2))), (.bin .mul (.tup [(.k (.int 0))]) (.v 1)), (.bin .mul (.tup [(.k (.int 0))]) (.bin .add (.v 1) (.k (.int 2)))), (.bin .mul (.tup [(.k (.int 1))]) (.bin .add (.v 1) (.k (.int 1)))), (.bin .add (.bin .mul (.tup [(.k (.int 0))]) (.v 1)) (.tup [(.k (.int 2))])), (.bin .add (.bin .mul (.tup [(.k (.int 0))]) (.v 1)) (.tup [(.k (.bl true))]))]), .set 9 (.call 16 [(.v 0), (.v 3)]), .set 7 (.call 16 [(.v 0), (.lst [(.bin .add (.v 1) (.k (.int 1))), (.neg (.k (.int 1))), (.k (.bl true)), (.k (.bl false)), (.k .non), (.k (.str "0")), (.tup [(.k (.int 0))]), (.bin .pow (.k (.int 10)) (.k (.int 20)))])]), .set 4 (.lst [(.heard 0 (.call 12 [(.v 8), (.v 6)]))]), .expr (.app (.v 4) (.heard 0 (.call 13 [(.v 8), (.v 9)]))), .expr (.app (.v 4) (.heard 0 (.call 4 [(.v 8), (.v 7)]))), .expr (.app (.v 4) (.heard 0 (.call 5 [(.v 8), (.v 7)]))), .expr (.app (.v 4) (.heard 0 (.call 6 [(.v 8), (.v 6)]))), .expr (.app (.v 4) (.heard 0 (.call 7 [(.v 8), (.v 6)]))), .expr (.app (.v 4) (.heard 0 (.call 8 [(.v 8), (.v 6)]))), .expr (.app (.v 4) (.heard 0 (.call 12 [(.v 1), (.v 6)]))), .expr (.app (.v 4) (.heard 0 (.call 6 [(.v 1), (.v 6)]))), .expr (.app (.v 4) (.heard 0 (.call 7 [(.v 1), (.v 6)]))), .expr (.app (.v 4) (.heard 0 (.call 8 [(.v 1), (.v 6)]))), .expr (.app (.v 4) (.heard 0 (.call 13 [(.v 1), (.v 9)]))), .expr (.app (.v 4) (.heard 0 (.call 4 [(.v 1), (.v 7)]))), .expr (.app (.v 4) (.heard 0 (.call 5 [(.v 1), (.v 7)]))), .set 5 (.bin .add (.bin .mul (.lst [(.tup [(.k (.str "BadMany")), (.v 8)])]) (.k (.int 7))) (.bin .mul (.lst [(.tup [(.k (.str "BadStanding")), (.call 20 [(.v 1), (.v 6)])])]) (.k (.int 4)))), .ret (.call 19 [(.v 4), (.bin .add (.bin .add (.v 5) (.lst [(.tup [(.k (.str "BadHeads")), (.call 21 [(.v 1), (.v 9)])])])) (.bin .mul (.lst [(.tup [(.k (.str "BadMany")), (.v 7)])]) (.k (.int 2))))])], false⟩
/-- law -/
def t29 : FnT := ⟨⟨("law", none), "law", "law", defArgs (top 40), defBody (top 40), defScope (top 40), [], []⟩, ["script", "jar", "go", "n", "one", "every", "zone", "heard", "owed", "each"], ["script"],
  [.set 1 (.call 14 [(.v 0)]), .fors (.nm 2) (.rg1 (.k (.int 10))) [.set 3 (.call 23 [(.v 1)]), .set 4 (.call 24 [(.v 1), (.v 3)]), .ifs (.or (.nt (.call 26 [(.v 3), (.v 4)])) (.or (.nt (.call 27 [(.v 3)])) (.nt (.call 28 [(.v 1), (.v 3), (.v 4)])))) [.ret (.k (.bl false))] []], .fors (.nm 3) (.rg2 (.k (.int 1)) (.k (.int 5))) [.set 5 (.lst [(.tup [])]), .fors (.nm 6) (.rg1 (.v 3)) [.set 5 (.bin .add (.v 5) (.lc (.nm 4) (.val (.v 5)) (.bin .add (.v 4) (.tup [(.v 6)]))))], .fors (.nm 4) (.val (.v 5)) [.ifs (.nt (.call 26 [(.v 3), (.v 4)])) [.ret (.k (.bl false))] []]], .set 7 (.lst [(.heard 0 (.tup [(.call 12 [(.k (.int 5)), (.tup [(.k (.int 1)), (.k (.int 3)), (.k (.int 4))])]), (.call 7 [(.k (.int 5)), (.tup [(.k (.int 1)), (.k (.int 3)), (.k (.int 4))])]), (.call 8 [(.k (.int 5)), (.tup [(.k (.int 1)), (.k (.int 3)), (.k (.int 4))])])]))]), .expr (.app (.v 7) (.heard 0 (.tup [(.call 7 [(.k (.int 3)), (.tup [(.k (.int 1)), (.k (.int 2))])]), (.call 6 [(.k (.int 3)), (.tup [(.k (.int 0)), (.k (.int 2))])]), (.call 8 [(.k (.int 3)), (.tup [(.k (.int 0)), (.k (.int 2))])]), (.call 8 [(.k (.int 3)), (.tup [])])]))), .expr (.app (.v 7) (.heard 0 (.tup [(.call 12 [(.k (.int 1)), (.tup [])]), (.call 12 [(.k (.int 1)), (.tup [(.k (.int 0))])]), (.call 4 [(.k (.int 1)), (.k (.int 1))]), (.call 5 [(.k (.int 1)), (.k (.int 1))])]))), .set 8 (.lst [(.tup [(.tup [(.k (.int 0)), (.k (.int 0)), (.k (.int 1)), (.k (.int 1)), (.k (.int 2)), (.k (.int 3))]), (.k (.int 2)), (.tup [(.k (.int 0)), (.k (.int 2))])]), (.tup [(.k (.int 1)), (.k (.bl false)), (.tup [(.k (.int 1))]), (.tup [])]), (.tup [(.tup [(.k (.int 0)), (.k (.int 0))]), (.tup [(.k (.int 0)), (.k (.int 1))]), (.tup []), (.tup [(.k (.int 0))])])]), .ret (.call 19 [(.v 7), (.lc (.nm 9) (.val (.v 8)) (.tup [(.k (.str "told")), (.v 9)]))])], false⟩
/-- _law_z2_heard -/
def h0 : HrT := ⟨"_law_z2_heard", ⟨("_law_z2_heard", none), "_law_z2_heard", "_law_z2_heard", defArgs (top 35), defBody (top 35), defScope (top 35), [], []⟩, ⟨"told", 0, [("BadHeads", 3), ("BadMany", 1), ("BadStanding", 2)]⟩, ["call", "refused_one", "some", "name", "is_one"], "call", "Refused", "refused_one", "some", [("BadHeads", 3), ("BadMany", 1), ("BadStanding", 2)], [("BadHeads", "BadHeads"), ("BadMany", "BadMany")], [("BadStanding", "BadStanding")], ((hParts (defBody (top 35))).map (·.xs)).getD [], ((hParts (defBody (top 35))).map (·.rest)).getD []⟩
def dI : He.DefD := ⟨("Refused", some "__init__"), "__init__", "Refused.__init__", defArgs (inCls (top 1) 0), defBody (inCls (top 1) 0), defScope (inCls (top 1) 0), [], []⟩
def fns_0 : List (FnT) := [t0, t1, t2, t3, t4, t5, t6, t7, t8, t9, t10, t11, t12, t13, t14, t15, t16, t17, t18, t19]
def fns_1 : List (FnT) := [t20, t21, t22, t23, t24, t25, t26, t27, t28, t29]
def fns : List (FnT) := fns_0 ++ fns_1
def clss_0 : List (Str) := ["Refused", "BadMany", "BadStanding", "BadHeads"]
def clss : List (Str) := clss_0
def subs_0 : List (List Nat) := [[0], [1, 0], [2, 0], [3, 0]]
def subs : List (List Nat) := subs_0
def tx : Txt := ⟨fns, clss, 0, subs, gl, dI, [h0], 60⟩
theorem b0 : Bnd t0.d t0.ps := fun _ _ _ _ _ _ us hl => match us, hl with | [_, _, _], _ => by kernel_rfl
theorem o0 : t0.Ok tx := FnT.okB_ok (by decide +kernel) b0 rfl (by kernel_rfl)
theorem b1 : Bnd t1.d t1.ps := fun _ _ _ _ _ _ us hl => match us, hl with | [_, _, _], _ => by kernel_rfl
theorem o1 : t1.Ok tx := FnT.okB_ok (by decide +kernel) b1 rfl (by kernel_rfl)
theorem b2 : Bnd t2.d t2.ps := fun _ _ _ _ _ _ us hl => match us, hl with | [_], _ => by kernel_rfl
theorem o2 : t2.Ok tx := FnT.okB_ok (by decide +kernel) b2 rfl (by kernel_rfl)
theorem b3 : Bnd t3.d t3.ps := fun _ _ _ _ _ _ us hl => match us, hl with | [_, _], _ => by kernel_rfl
theorem o3 : t3.Ok tx := FnT.okB_ok (by decide +kernel) b3 rfl (by kernel_rfl)
theorem b4 : Bnd t4.d t4.ps := fun _ _ _ _ _ _ us hl => match us, hl with | [_, _], _ => by kernel_rfl
theorem o4 : t4.Ok tx := FnT.okB_ok (by decide +kernel) b4 rfl (by kernel_rfl)
theorem b5 : Bnd t5.d t5.ps := fun _ _ _ _ _ _ us hl => match us, hl with | [_, _], _ => by kernel_rfl
theorem o5 : t5.Ok tx := FnT.okB_ok (by decide +kernel) b5 rfl (by kernel_rfl)
theorem b6 : Bnd t6.d t6.ps := fun _ _ _ _ _ _ us hl => match us, hl with | [_, _], _ => by kernel_rfl
theorem o6 : t6.Ok tx := FnT.okB_ok (by decide +kernel) b6 rfl (by kernel_rfl)
theorem b7 : Bnd t7.d t7.ps := fun _ _ _ _ _ _ us hl => match us, hl with | [_, _], _ => by kernel_rfl
theorem o7 : t7.Ok tx := FnT.okB_ok (by decide +kernel) b7 rfl (by kernel_rfl)
theorem b8 : Bnd t8.d t8.ps := fun _ _ _ _ _ _ us hl => match us, hl with | [_, _], _ => by kernel_rfl
theorem o8 : t8.Ok tx := FnT.okB_ok (by decide +kernel) b8 rfl (by kernel_rfl)
theorem b9 : Bnd t9.d t9.ps := fun _ _ _ _ _ _ us hl => match us, hl with | [_, _], _ => by kernel_rfl
theorem o9 : t9.Ok tx := FnT.okB_ok (by decide +kernel) b9 rfl (by kernel_rfl)
theorem b10 : Bnd t10.d t10.ps := fun _ _ _ _ _ _ us hl => match us, hl with | [_], _ => by kernel_rfl
theorem o10 : t10.Ok tx := FnT.okB_ok (by decide +kernel) b10 rfl (by kernel_rfl)
theorem b11 : Bnd t11.d t11.ps := fun _ _ _ _ _ _ us hl => match us, hl with | [_, _], _ => by kernel_rfl
theorem o11 : t11.Ok tx := FnT.okB_ok (by decide +kernel) b11 rfl (by kernel_rfl)
theorem b12 : Bnd t12.d t12.ps := fun _ _ _ _ _ _ us hl => match us, hl with | [_, _], _ => by kernel_rfl
theorem o12 : t12.Ok tx := FnT.okB_ok (by decide +kernel) b12 rfl (by kernel_rfl)
theorem b13 : Bnd t13.d t13.ps := fun _ _ _ _ _ _ us hl => match us, hl with | [_, _], _ => by kernel_rfl
theorem o13 : t13.Ok tx := FnT.okB_ok (by decide +kernel) b13 rfl (by kernel_rfl)
theorem b14 : Bnd t14.d t14.ps := fun _ _ _ _ _ _ us hl => match us, hl with | [_], _ => by kernel_rfl
theorem o14 : t14.Ok tx := FnT.okB_ok (by decide +kernel) b14 rfl (by kernel_rfl)
theorem b15 : Bnd t15.d t15.ps := fun _ _ _ _ _ _ us hl => match us, hl with | [_, _], _ => by kernel_rfl
theorem o15 : t15.Ok tx := FnT.okB_ok (by decide +kernel) b15 rfl (by kernel_rfl)
theorem b16 : Bnd t16.d t16.ps := fun _ _ _ _ _ _ us hl => match us, hl with | [_, _], _ => by kernel_rfl
theorem o16 : t16.Ok tx := FnT.okB_ok (by decide +kernel) b16 rfl (by kernel_rfl)
theorem b17 : Bnd t17.d t17.ps := fun _ _ _ _ _ _ us hl => match us, hl with | [_], _ => by kernel_rfl
theorem o17 : t17.Ok tx := FnT.okB_ok (by decide +kernel) b17 rfl (by kernel_rfl)
theorem b18 : Bnd t18.d t18.ps := fun _ _ _ _ _ _ us hl => match us, hl with | [_, _, _], _ => by kernel_rfl
theorem o18 : t18.Ok tx := FnT.okB_ok (by decide +kernel) b18 rfl (by kernel_rfl)
theorem b19 : Bnd t19.d t19.ps := fun _ _ _ _ _ _ us hl => match us, hl with | [_, _], _ => by kernel_rfl
theorem o19 : t19.Ok tx := FnT.okB_ok (by decide +kernel) b19 rfl (by kernel_rfl)
theorem b20 : Bnd t20.d t20.ps := fun _ _ _ _ _ _ us hl => match us, hl with | [_, _], _ => by kernel_rfl
theorem o20 : t20.Ok tx := FnT.okB_ok (by decide +kernel) b20 rfl (by kernel_rfl)
theorem b21 : Bnd t21.d t21.ps := fun _ _ _ _ _ _ us hl => match us, hl with | [_, _], _ => by kernel_rfl
theorem o21 : t21.Ok tx := FnT.okB_ok (by decide +kernel) b21 rfl (by kernel_rfl)
theorem b22 : Bnd t22.d t22.ps := fun _ _ _ _ _ _ us hl => match us, hl with | [_, _], _ => by kernel_rfl
theorem o22 : t22.Ok tx := FnT.okB_ok (by decide +kernel) b22 rfl (by kernel_rfl)
theorem b23 : Bnd t23.d t23.ps := fun _ _ _ _ _ _ us hl => match us, hl with | [_], _ => by kernel_rfl
theorem o23 : t23.Ok tx := FnT.okB_ok (by decide +kernel) b23 rfl (by kernel_rfl)
theorem b24 : Bnd t24.d t24.ps := fun _ _ _ _ _ _ us hl => match us, hl with | [_, _], _ => by kernel_rfl
theorem o24 : t24.Ok tx := FnT.okB_ok (by decide +kernel) b24 rfl (by kernel_rfl)
theorem b25 : Bnd t25.d t25.ps := fun _ _ _ _ _ _ us hl => match us, hl with | [_], _ => by kernel_rfl
theorem o25 : t25.Ok tx := FnT.okB_ok (by decide +kernel) b25 rfl (by kernel_rfl)
theorem b26 : Bnd t26.d t26.ps := fun _ _ _ _ _ _ us hl => match us, hl with | [_, _], _ => by kernel_rfl
theorem o26 : t26.Ok tx := FnT.okB_ok (by decide +kernel) b26 rfl (by kernel_rfl)
theorem b27 : Bnd t27.d t27.ps := fun _ _ _ _ _ _ us hl => match us, hl with | [_], _ => by kernel_rfl
theorem o27 : t27.Ok tx := FnT.okB_ok (by decide +kernel) b27 rfl (by kernel_rfl)
theorem b28 : Bnd t28.d t28.ps := fun _ _ _ _ _ _ us hl => match us, hl with | [_, _, _], _ => by kernel_rfl
theorem o28 : t28.Ok tx := FnT.okB_ok (by decide +kernel) b28 rfl (by kernel_rfl)
theorem b29 : Bnd t29.d t29.ps := fun _ _ _ _ _ _ us hl => match us, hl with | [_], _ => by kernel_rfl
theorem o29 : t29.Ok tx := FnT.okB_ok (by decide +kernel) b29 rfl (by kernel_rfl)
theorem bh0 : Bnd h0.d [h0.a] := fun _ _ _ _ _ _ us hl => match us, hl with | [_], _ => by kernel_rfl
theorem oh0 : h0.Ok tx := HrT.okB_ok (by decide +kernel) rfl bh0 ⟨_, by rfl, rfl, rfl⟩
theorem bi : Bnd tx.init ["self", "what"] := fun _ _ _ _ _ _ us hl => match us, hl with | [_, _], _ => by kernel_rfl
theorem ok : tx.Ok := txt_ok ⟨o0, o1, o2, o3, o4, o5, o6, o7, o8, o9, o10, o11, o12, o13, o14, o15, o16, o17, o18, o19, o20, o21, o22, o23, o24, o25, o26, o27, o28, o29, trivial⟩ (by decide +kernel) rfl rfl (by decide +kernel) (by decide +kernel) bi ⟨oh0, trivial⟩
def names_0 : List (Str) := ["Refused", "BadMany", "BadStanding", "BadHeads", "whole", "many", "MOST_ZONES", "line_of", "asked_standing", "full_from", "closed_up", "is_closed", "stray", "holes", "heads_of", "standing_of", "asked_heads", "heads", "from_heads", "_law_pool"]
def names_1 : List (Str) := ["_law_take", "_law_one", "_law_zf_is_whole", "_law_zf_is_in", "_law_zf_same", "_law_zf_standing_fault", "_law_zf_heads_fault", "_law_zf_heads", "_law_zf_n", "_law_zf_standing", "_law_z2_heard", "_law_z2_free_ahead", "_law_z2_told_right", "_law_z2_ends_right", "_law_z2_refused_right"]
def names : List (Str) := names_0 ++ names_1
-- lawIx (some 40) lawNo (some 29)

abbrev R : PySem.W.OpenRow := PySem.W.OpenLaw.row PySem.Challenge.rw_zonesclose_k02_heads_there_and_back
abbrev hk : PySem.W.Hook := He.hookX 6 tx.fa tx.dn [] tx.tf tx.exK
def ob (s : PySem.W.SharedT) : He.AlX := He.obsX 6 tx.fa tx.dn [] tx.tf tx.exK (HandSHeadRun.getT s)
theorem ob_eq (s : PySem.W.SharedT) : ob s = hk.obs s.abs := He.obsX_eq (HandSHeadRun.getT_eq s)
theorem run (w : World) : HandSHeadRun.RunEq R (PySem.W.view R.prog [40]) hk ob 4000 names w := by
  intro os
  kernel_rfl
end K02
theorem K02.plain : Zp.P2 K02.tx.P := ⟨rfl, rfl, rfl, rfl, rfl, rfl, rfl, rfl, rfl, rfl, rfl, rfl, rfl, rfl, rfl, rfl, rfl, rfl, rfl, rfl, rfl, rfl, rfl, rfl, rfl, rfl, ⟨_, rfl, rfl, by decide +kernel, by decide +kernel, by decide +kernel, by decide +kernel, by decide +kernel, by decide +kernel⟩⟩
theorem K02.plain2 : Zp.L2 K02.tx.P := ⟨K02.plain, rfl, rfl, rfl, rfl⟩
theorem K02.law_true : Z.LawD K02.tx.P 30 29 := fun ns hn _ S d h => by
  have hd : Zp.Rd S d (Z.scrD ns) := by
    rcases h with ⟨rfl, rfl⟩ | ⟨rfl, rfl⟩
    · exact .inr (.inr ⟨0, rfl, rfl⟩)
    · exact .inl rfl
  have hi : ∀ x ∈ Z.scrD ns, ∃ v, x = .int v := fun x hx => by
    obtain ⟨v, _, rfl⟩ := List.mem_map.mp hx
    exact ⟨v, rfl⟩
  obtain ⟨r, S', e, rfl⟩ := Zp.wp_ok (K02.plain2.law (n := 23) hd (by rw [show (Z.scrD ns).length = ns.length from List.length_map _]; exact hn) hi)
  exact ⟨S', e⟩
open PySem PySem.W PySem.Calls PyProof.Rows
theorem PySem.Challenge.cw_zonesclose_k02_heads_there_and_back_holds : PySem.Challenge.rw_zonesclose_k02_heads_there_and_back.Holds := by
  w_on; o_law
  refine HandSHeadRun.head_any (r := OpenLaw.row PySem.Challenge.rw_zonesclose_k02_heads_there_and_back) (q := view (OpenLaw.row PySem.Challenge.rw_zonesclose_k02_heads_there_and_back).prog [40]) (H := K02.hk) (ob := K02.ob) (M := 4000) (loose := K02.names) (d := HandSHeadRun.topDef (OpenLaw.row PySem.Challenge.rw_zonesclose_k02_heads_there_and_back).prog 40) (kwd := []) K02.ob_eq
    (by kernel_rfl) (fun s => by kernel_rfl) K02.run (by kernel_rfl) (by kernel_rfl) (by kernel_rfl) (by rfl) (by first | assumption | decide +kernel) (by decide +kernel) ⟨rfl, rfl, rfl, rfl, rfl, by decide +kernel⟩ ?hw ?hc
  case hw => w_witness2
  case hc =>
    refine LamX.walk_ofTsE (l := PySem.Challenge.rw_zonesclose_k02_heads_there_and_back) (n := 63) (k := 3 * 30) (x := "script") (CX := fun w => L2N.CX (PySem.Challenge.rw_zonesclose_k02_heads_there_and_back).prog w) rfl (by decide) (by kernel_rfl) ⟨rfl, by decide, by decide⟩ ?F (fun w => Z.cx_end _ w)
    intro w mg fa h Y G hmg0
    obtain ⟨K, KX, c⟩ := Y
    have hmg : mg K02.t29.d.name = some (.ref fa) := by
      have e : (HandSHeadRun.topDef (OpenLaw.row PySem.Challenge.rw_zonesclose_k02_heads_there_and_back).prog 40).name = K02.t29.d.name := by kernel_rfl
      rw [← e]
      exact hmg0
    exact ⟨K, KX, Z.law_at K02.ok K02.law_true (by rfl) (by rfl) hmg KX G c⟩
