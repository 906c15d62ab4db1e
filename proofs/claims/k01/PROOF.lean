import PyProof.Rows.All
import Wide.All
import OpenK.AllK
import Wide.FinOn
import PySem.Str
import HandS.ForMost
import HandS.Exc
import HandS.ExcOwn
import HandS.WordsExc
import HandS.DictComp
import HandS.OwnEq
import HandS.DeepEq
import HandS.Property
import HandS.IsInst
import HandS.More
import HandS.Sort
import HandS.SortKw
import HandS.Conv
import HandS.TupAny
import HandS.Flow
import HandS.Style
import HandS.Small
import HandS.TryMany
import HandS.TryOnly
import KE.GoesEnum
import KE.GoesZip
import KE.KDictWalk
import KE.KDictZip
import HandS.ExcInit
import HandS.Defaults
import HandS.HeadHook2
import HandS.HeadHook3
import HandS.HeadHook4
import HandS.List
import HandS.ExcField
import HandS.ExcIs
import KE.KIsAll
import HandS.HeadWalk
import HandS.Head2
import KE.KStateDown
import PySem.Challenge.RW_insteads_k01_books_kept_and_refused
set_option linter.all false
set_option Elab.async false
/-! DPure: a pure datum type D for Python values, Python's operations on it, and the combinators into which a def's text is turned. Nothing of the model here. -/
namespace DI
open PySem (Str)

/-- a Python value as a tree. obj: an instance of the class of that number, its fields in order; trk: the one thing that is followed by its address -/
inductive D where
  | non | bl (b : Bool) | int (i : Int) | str (s : Str)
  | lst (xs : List D) | tup (xs : List D) | dic (kvs : List (D × D)) | kdic (kvs : List (D × D)) | obj (c : Nat) (fs : List D) | trk
  deriving Inhabited

/-- the longest list -/
abbrev lim : Nat := 16777216

/-! ### equality of data -/
/-- a key: an int or a text -/
def isKey : D → Bool
  | .int _ => true
  | .str _ => true
  | _ => false
/-- equality of keys -/
def keyEq : D → D → Bool
  | .int i, .int j => decide (i = j)
  | .str x, .str y => decide (x = y)
  | _, _ => false
/-- d[k] -/
def dlook (k : D) : List (D × D) → Option D
  | [] => none
  | (j, d) :: r => if keyEq j k then some d else dlook k r
def dput (k v : D) : List (D × D) → List (D × D)
  | [] => [(k, v)]
  | (j, d) :: r => if keyEq j k then (j, v) :: r else (j, d) :: dput k v r
def ddrop (k : D) : List (D × D) → List (D × D)
  | [] => []
  | (j, d) :: r => if keyEq j k then r else (j, d) :: ddrop k r
mutual
def deq : D → D → Bool
  | .non, y => (match y with | .non => true | _ => false)
  | .bl a, y => (match y with | .bl b => a == b | .int j => decide ((if a then (1 : Int) else 0) = j) | _ => false)
  | .int i, y => (match y with | .int j => decide (i = j) | .bl b => decide (i = (if b then (1 : Int) else 0)) | _ => false)
  | .str a, y => (match y with | .str b => decide (a = b) | _ => false)
  | .lst xs, y => (match y with | .lst ys => deqL xs ys | _ => false)
  | .tup xs, y => (match y with | .tup ys => deqL xs ys | _ => false)
  | .dic ks, y => (match y with | .dic ls => decide (ks.length = ls.length) && deqK ks ls | _ => false)
  | .kdic _, _ => false
  | .obj _ _, _ => false
  | .trk, _ => false
termination_by structural x => x
def deqL : List D → List D → Bool
  | [], ys => (match ys with | [] => true | _ => false)
  | x :: xs, ys => (match ys with | y :: ys => deq x y && deqL xs ys | _ => false)
termination_by structural x => x
def deqP : D × D → List (D × D) → Bool
  | (k, d), ls => (match dlook k ls with | some u => deq d u | none => false)
termination_by structural x => x
def deqK : List (D × D) → List (D × D) → Bool
  | [], _ => true
  | p :: r, ls => deqP p ls && deqK r ls
termination_by structural x => x
end
/-- flat, or a list or tuple -/
def simple : D → Bool
  | .non => true
  | .bl _ => true
  | .int _ => true
  | .str _ => true
  | .lst _ => true
  | .tup _ => true
  | _ => false
mutual
/-- x == y is covered: of nesting up to n; b: dicts may be within -/
def cok : D → Nat → Bool → D → Bool
  | .non, _, _, y => simple y
  | .bl _, _, _, y => simple y
  | .int _, _, _, y => simple y
  | .str _, _, _, y => simple y
  | .lst xs, n, b, y => (match n with | 0 => false | n + 1 => (match y with | .lst ys => decide (xs.length ≠ ys.length) || cokL xs n b ys | y => simple y))
  | .tup xs, n, _, y => (match n with | 0 => false | n + 1 => (match y with | .tup ys => cokL xs n false ys | y => simple y))
  | .dic ks, n, b, y => (match n with | 0 => false | n + 1 => (match y with | .dic ls => b && (decide (ks.length ≠ ls.length) || cokK ks n b ls) | _ => false))
  | .kdic _, _, _, _ => false
  | .obj _ _, _, _, _ => false
  | .trk, _, _, _ => false
termination_by structural x => x
def cokL : List D → Nat → Bool → List D → Bool
  | [], _, _, _ => true
  | x :: xs, n, b, ys => (match ys with | [] => true | y :: ys => cok x n b y && cokL xs n b ys)
termination_by structural x => x
def cokP : D × D → Nat → Bool → List (D × D) → Bool
  | (k, d), n, b, ls => (match dlook k ls with | some u => cok d n b u | none => true)
termination_by structural x => x
def cokK : List (D × D) → Nat → Bool → List (D × D) → Bool
  | [], _, _, _ => true
  | p :: r, n, b, ls => cokP p n b ls && cokK r n b ls
termination_by structural x => x
end
/-- the deepest nesting compared -/
abbrev dep : Nat := 40

/-! ### slots, results -/
inductive Slot where
  | none | val (d : D) | own (d : D) | trk
  deriving Inhabited
abbrev Env := List Slot
inductive R (α : Type) where
  | ok (a : α) (e : Env) (t : D) | err (c : Nat) (fs : List D) | stuck
abbrev ME := Env → D → R D
abbrev ML := Env → D → R (List D)
abbrev MT := Env → D → R Bool
/-- how a statement ends -/
inductive Flow where
  | next | ret (d : D)
abbrev MS := Env → D → R Flow
def R.bind {α β : Type} (x : R α) (f : α → Env → D → R β) : R β :=
  match x with
  | .ok a e t => f a e t
  | .err c fs => .err c fs
  | .stuck => .stuck
@[simp] theorem R.bind_ok {α β : Type} (a : α) (e : Env) (t : D) (f : α → Env → D → R β) : (R.ok a e t).bind f = f a e t := rfl
@[simp] theorem R.bind_err {α β : Type} (c : Nat) (fs : List D) (f : α → Env → D → R β) : (R.err c fs : R α).bind f = .err c fs := rfl
@[simp] theorem R.bind_stuck {α β : Type} (f : α → Env → D → R β) : (R.stuck : R α).bind f = .stuck := rfl
def R.of {α : Type} (x : Option α) (e : Env) (t : D) : R α :=
  match x with
  | some a => .ok a e t
  | none => .stuck
@[simp] theorem R.of_some {α : Type} (a : α) (e : Env) (t : D) : R.of (some a) e t = .ok a e t := rfl
@[simp] theorem R.of_none {α : Type} (e : Env) (t : D) : R.of (none : Option α) e t = .stuck := rfl

/-- what a def gives: a value and what the tracked thing holds then -/
inductive Out where
  | ok (d : D) (t : D) | err (c : Nat) (fs : List D) | stuck
abbrev Fn := List D → D → Out
def R.out (x : Out) (e : Env) : R D :=
  match x with
  | .ok d t => .ok d e t
  | .err c fs => .err c fs
  | .stuck => .stuck
/-- the followed thing must still be there -/
def R.outT (x : Out) (e : Env) : R D :=
  match x with
  | .ok d t => (match t with | .non => .stuck | t => .ok d e t)
  | .err c fs => .err c fs
  | .stuck => .stuck
@[simp] theorem R.outT_obj (d : D) (k : Nat) (fs : List D) (e : Env) : R.outT (.ok d (.obj k fs)) e = .ok d e (.obj k fs) := rfl
@[simp] theorem R.outT_lst (d : D) (fs : List D) (e : Env) : R.outT (.ok d (.lst fs)) e = .ok d e (.lst fs) := rfl
@[simp] theorem R.outT_err (c : Nat) (fs : List D) (e : Env) : R.outT (.err c fs) e = .err c fs := rfl
@[simp] theorem R.outT_stuck (e : Env) : R.outT .stuck e = .stuck := rfl
@[simp] theorem R.out_ok (d t : D) (e : Env) : R.out (.ok d t) e = .ok d e t := rfl
@[simp] theorem R.out_err (c : Nat) (fs : List D) (e : Env) : R.out (.err c fs) e = .err c fs := rfl
@[simp] theorem R.out_stuck (e : Env) : R.out .stuck e = .stuck := rfl

/-! ### expressions -/
def mVar (i : Nat) : ME := fun e t => match e[i]? with
  | some (.val d) => .ok d e t
  | some (.own d) => .ok d (e.set i (.val d)) t
  | _ => .stuck
/-- a name that is only looked at -/
def mPeek (i : Nat) : ME := fun e t => match e[i]? with
  | some (.val d) => .ok d e t
  | some (.own d) => .ok d e t
  | _ => .stuck
def mConst (d : D) : ME := fun e t => .ok d e t
def mArgs : List ME → ML
  | [] => fun e t => .ok [] e t
  | m :: r => fun e t => (m e t).bind fun d e t => (mArgs r e t).bind fun ds e t => .ok (d :: ds) e t
def m1 (p : D → Option D) (a : ME) : ME := fun e t => (a e t).bind fun x e t => R.of (p x) e t
def m2 (p : D → D → Option D) (a b : ME) : ME := fun e t => (a e t).bind fun x e t => (b e t).bind fun y e t => R.of (p x y) e t
def mN (p : List D → Option D) (as : List ME) : ME := fun e t => (mArgs as e t).bind fun ds e t => R.of (p ds) e t
/-- a value that is True or False -/
def asB (x : R D) : R Bool := x.bind fun d e t => match d with
  | .bl b => .ok b e t
  | _ => .stuck
@[simp] theorem asB_bl (b : Bool) (e : Env) (t : D) : asB (.ok (.bl b) e t) = .ok b e t := rfl
@[simp] theorem asB_err (c : Nat) (fs : List D) : asB (.err c fs) = .err c fs := rfl
@[simp] theorem asB_stuck : asB .stuck = .stuck := rfl
def mAnd (a b : ME) : ME := fun e t => (asB (a e t)).bind fun c e t => if c then (asB (b e t)).bind fun c e t => .ok (.bl c) e t else .ok (.bl false) e t
def mOr (a b : ME) : ME := fun e t => (asB (a e t)).bind fun c e t => if c then .ok (.bl true) e t else (asB (b e t)).bind fun c e t => .ok (.bl c) e t
def mNot (a : ME) : ME := fun e t => (asB (a e t)).bind fun c e t => .ok (.bl (!c)) e t
def mIf (c a b : ME) : ME := fun e t => (asB (c e t)).bind fun c e t => if c then a e t else b e t
/-- a op b op' c -/
def mChain (p q : D → D → Option D) (a b c : ME) : ME := fun e t => (a e t).bind fun x e t => (b e t).bind fun y e t => (asB (R.of (p x y) e t)).bind fun k e t =>
  if k then (c e t).bind fun z e t => R.of (q y z) e t else .ok (.bl false) e t
/-- what a def gives that does not see the followed thing -/
def pureOut (x : Out) (e : Env) (t : D) : R D := match x with
  | .ok d _ => .ok d e t
  | .err c fs => .err c fs
  | .stuck => .stuck
@[simp] theorem pureOut_ok (d t' : D) (e : Env) (t : D) : pureOut (.ok d t') e t = .ok d e t := rfl
@[simp] theorem pureOut_err (c : Nat) (fs : List D) (e : Env) (t : D) : pureOut (.err c fs) e t = .err c fs := rfl
@[simp] theorem pureOut_stuck (e : Env) (t : D) : pureOut .stuck e t = .stuck := rfl
/-- a def called -/
def mCall (f : Fn) (as : List ME) : ME := fun e t => (mArgs as e t).bind fun ds e t => pureOut (f ds .non) e t
/-- an argument: a value, or the followed thing that slot i names -/
inductive Arg where
  | v (m : ME) | t (i : Nat)
def mArgsO : List Arg → ML
  | [] => fun e t => .ok [] e t
  | .v m :: r => fun e t => (m e t).bind fun d e t => (mArgsO r e t).bind fun ds e t => .ok (d :: ds) e t
  | .t i :: r => fun e t => match e[i]? with
    | some .trk => (mArgsO r e t).bind fun ds e t => .ok (.trk :: ds) e t
    | _ => .stuck
/-- a def called with the followed thing among the arguments -/
def mCallT (f : Fn) (as : List Arg) : ME := fun e t => (mArgsO as e t).bind fun ds e t => match t with
  | .non => .stuck
  | t => R.outT (f ds t) e
/-- a class called: its __init__ on the empty instance; the followed thing stays -/
def initOut (c : Nat) (f : Fn) (ds : List D) : Out := match f (.trk :: ds) (.obj c []) with
  | .ok .non t => .ok t .non
  | .err k fs => .err k fs
  | _ => .stuck
def mNew (c : Nat) (f : Fn) (as : List ME) : ME := fun e t => (mArgs as e t).bind fun ds e t => pureOut (initOut c f ds) e t
/-- what an attribute of a class is -/
inductive AttrK where
  | fld (j : Nat) | prop (f : Fn)
def tab {α : Type} (c : Nat) : List (Nat × α) → Option α
  | [] => none
  | (k, a) :: r => if k = c then some a else tab c r
/-- x.f -/
def mAttr (ks : List (Nat × AttrK)) (a : ME) : ME := fun e t => (a e t).bind fun x e t => match x with
  | .obj c fs => (match tab c ks with
    | some (.fld j) => R.of (fs[j]?) e t
    | some (.prop f) => (match f [.obj c fs] .non with
      | .ok d _ => .ok d e t
      | _ => .stuck)
    | none => .stuck)
  | _ => .stuck
/-- the followed thing's f -/
def mAttrT (i : Nat) (ks : List (Nat × AttrK)) : ME := fun e t => match e[i]? with
  | some .trk => (match t with
    | .obj c fs => (match tab c ks with
      | some (.fld j) => R.of (fs[j]?) e (.obj c fs)
      | some (.prop _) => .stuck
      | none => .stuck)
    | _ => .stuck)
  | _ => .stuck
/-- x.m(..) -/
def mMeth (ks : List (Nat × Fn)) (a : ME) (as : List ME) : ME := fun e t => (a e t).bind fun x e t => match x with
  | .obj c fs => (match tab c ks with
    | some f => (mArgs as e t).bind fun ds e t => pureOut (f (.obj c fs :: ds) .non) e t
    | none => .stuck)
  | _ => .stuck
/-- the followed thing's m(..) -/
def mMethT (i : Nat) (ks : List (Nat × Fn)) (as : List ME) : ME := fun e t => match e[i]? with
  | some .trk => (match t with
    | .obj c fs => (match tab c ks with
      | some f => (mArgs as e (.obj c fs)).bind fun ds e t => (match t with
        | .obj c' fs' => if c' = c then R.outT (f (.trk :: ds) (.obj c' fs')) e else .stuck
        | _ => .stuck)
      | none => .stuck)
    | _ => .stuck)
  | _ => .stuck
/-- a == b, with the classes' own __eq__ -/
def ownEq (f : Fn) (x y : D) : Out := match f [x, y] .non with
  | .ok (.bl b) _ => .ok (.bl b) .non
  | _ => .stuck
def eqOut (ks : List (Nat × Fn)) (x y : D) : Out := match x with
  | .obj c _ => (match tab c ks with
    | some f => (match y with
      | .obj c' _ => if c' = c then ownEq f x y else .stuck
      | .lst _ => ownEq f x y
      | _ => .stuck)
    | none => .stuck)
  | _ => if cok x dep true y then .ok (.bl (deq x y)) .non else .stuck
/-- != of data is covered: dicts only at the top -/
def neCok (x y : D) : Bool := match x, y with
  | .dic ks, .dic ls => decide (ks.length ≠ ls.length) || cokK ks dep false ls
  | _, _ => cok x dep false y
/-- a != b, told by ==; an instance beside another kind is not covered -/
def neOut (ks : List (Nat × Fn)) (x y : D) : Out := match x with
  | .obj c fs => (match y with
    | .obj c' fs' => eqOut ks (.obj c fs) (.obj c' fs')
    | _ => .stuck)
  | x => if neCok x y then .ok (.bl (deq x y)) .non else .stuck
def mEq (ks : List (Nat × Fn)) (a b : ME) : ME := fun e t => (a e t).bind fun x e t => (b e t).bind fun y e t => pureOut (eqOut ks x y) e t
def mNe (ks : List (Nat × Fn)) (a b : ME) : ME := fun e t => (a e t).bind fun x e t => (b e t).bind fun y e t => (asB (pureOut (neOut ks x y) e t)).bind fun k e t => .ok (.bl (!k)) e t
/-- what stands in a display -/
def mTup (as : List ME) : ME := fun e t => (mArgs as e t).bind fun ds e t => .ok (.tup ds) e t
def mLst (as : List ME) : ME := fun e t => (mArgs as e t).bind fun ds e t => .ok (.lst ds) e t
def dmerge (kvs more : List (D × D)) : List (D × D) := more.foldl (fun a p => dput p.1 p.2 a) kvs
/-! ### what is walked -/
def signs (s : Str) : List D := s.cps.toList.map fun c => .str ⟨#[c]⟩
def seqOf : D → Option (List D)
  | .lst xs => some xs
  | .tup xs => some xs
  | .dic kvs => some (kvs.map (·.1))
  | .kdic kvs => some (kvs.map (·.1))
  | .str s => some (signs s)
  | _ => none
def iSeq (a : ME) : ML := fun e t => (a e t).bind fun x e t => R.of (seqOf x) e t
/-- a list, a tuple, a dict of the module -/
def seqR : D → Option (List D)
  | .lst xs => some xs
  | .tup xs => some xs
  | .kdic kvs => some (kvs.map (·.1))
  | _ => none
def zipD : List D → List D → List D
  | x :: xs, y :: ys => .tup [x, y] :: zipD xs ys
  | _, _ => []
def iZip (a b : ME) : ML := fun e t => (a e t).bind fun x e t => (b e t).bind fun y e t => match seqR x, seqR y with
  | some xs, some ys => .ok (zipD xs ys) e t
  | _, _ => .stuck
def enumD : Nat → List D → List D
  | _, [] => []
  | n, x :: xs => .tup [.int n, x] :: enumD (n + 1) xs
def iEnum (a : ME) : ML := fun e t => (a e t).bind fun x e t => match seqR x with
  | some xs => .ok (enumD 0 xs) e t
  | none => .stuck
/-- range(n) -/
def iRange (a : ME) : ML := fun e t => (a e t).bind fun x e t => match x with
  | .int n => if n < 4611686018427387904 then (if -4611686018427387904 ≤ n then .ok ((List.range n.toNat).map fun k => .int (k : Nat)) e t else .stuck) else .stuck
  | _ => .stuck
/-- range(a, b) -/
def iRange2 (a b : ME) : ML := fun e t => (a e t).bind fun x e t => (b e t).bind fun y e t => match x, y with
  | .int i, .int j => if (-4611686018427387904 ≤ i ∧ i < 4611686018427387904) ∧ (-4611686018427387904 ≤ j ∧ j < 4611686018427387904) then .ok ((List.range (j - i).toNat).map fun k => .int (i + (k : Nat))) e t else .stuck
  | _, _ => .stuck

/-! ### targets -/
inductive Tgt where
  | one (i : Nat) | many (is : List Nat)
def setAll : List Nat → List D → Env → Option Env
  | [], [], e => some e
  | i :: is, d :: ds, e => setAll is ds (e.set i (.val d))
  | _, _, _ => none
def items : D → Option (List D)
  | .tup xs => some xs
  | .lst xs => some xs
  | _ => none
def Tgt.put (g : Tgt) (d : D) (e : Env) : Option Env := match g with
  | .one i => some (e.set i (.val d))
  | .many is => (items d).bind fun ds => setAll is ds e

/-! ### comprehensions -/
/-- inside a comprehension what is owned is not seen, its own names are empty -/
def hideE : Env → Env := List.map fun s => match s with
  | .own _ => .none
  | s => s
def clearE (vs : List Nat) (e : Env) : Env := vs.foldl (fun e i => e.set i .none) e
/-- the test, then k -/
def compIf {α : Type} (c : Option ME) (k : α → Env → D → R α) (a : α) (e : Env) (t : D) : R α := match c with
  | none => k a e t
  | some c => (asB (c e t)).bind fun b e2 t2 => if b then k a e2 t2 else .ok a e2 t2
/-- one turn's target and test, then k -/
def compTurn {α : Type} (g : Tgt) (c : Option ME) (k : α → Env → D → R α) (a : α) (d : D) (e : Env) (t : D) : R α := match g.put d e with
  | none => .stuck
  | some e1 => compIf c k a e1 t
/-- inside a comprehension nothing may be raised; the names are forgotten -/
def R.only {α β : Type} (x : R α) (f : α → D → R β) : R β := match x with
  | .ok a _ t => f a t
  | .err _ _ => .stuck
  | .stuck => .stuck
@[simp] theorem R.only_ok {α β : Type} (a : α) (e : Env) (t : D) (f : α → D → R β) : (R.ok a e t).only f = f a t := rfl
@[simp] theorem R.only_err {α β : Type} (c : Nat) (fs : List D) (f : α → D → R β) : (R.err c fs : R α).only f = .stuck := rfl
@[simp] theorem R.only_stuck {α β : Type} (f : α → D → R β) : (R.stuck : R α).only f = .stuck := rfl
/-- over the items; each turn begins at the same names -/
def compLoop {α : Type} (g : Tgt) (c : Option ME) (k : α → Env → D → R α) (e : Env) : List D → α → D → R α
  | [], a, t => .ok a e t
  | d :: r, a, t => (compTurn g c k a d e t).only fun a t => compLoop g c k e r a t
def pushL (m : ME) (a : List D) (e : Env) (t : D) : R (List D) := (m e t).bind fun d e t => if a.length < lim then .ok (a ++ [d]) e t else .stuck
def mComp (vs : List Nat) (it : ML) (g : Tgt) (c : Option ME) (m : ME) : ME := fun e t => (it e t).bind fun ds e1 t1 => (compLoop g c (pushL m) (clearE vs (hideE e1)) ds [] t1).only fun a t2 => .ok (.lst a) e1 t2
def inner (vs1 : List Nat) (it1 : ML) (g1 : Tgt) (c1 : Option ME) (m : ME) (a : List D) (e : Env) (t : D) : R (List D) := (it1 e t).bind fun ds1 e1 t1 => compLoop g1 c1 (pushL m) (clearE vs1 e1) ds1 a t1
def mComp2 (vs vs1 : List Nat) (it : ML) (g : Tgt) (c : Option ME) (it1 : ML) (g1 : Tgt) (c1 : Option ME) (m : ME) : ME := fun e t => (it e t).bind fun ds e1 t1 =>
  (compLoop g c (inner vs1 it1 g1 c1 m) (clearE vs (hideE e1)) ds [] t1).only fun a t2 => .ok (.lst a) e1 t2
def pushK (mk m : ME) (a : List (D × D)) (e : Env) (t : D) : R (List (D × D)) := (mk e t).bind fun k e t => (m e t).bind fun d e t => if isKey k && decide (a.length < lim) then .ok (dput k d a) e t else .stuck
def mDComp (vs : List Nat) (it : ML) (g : Tgt) (c : Option ME) (mk m : ME) : ME := fun e t => (it e t).bind fun ds e1 t1 => (compLoop g c (pushK mk m) (clearE vs (hideE e1)) ds [] t1).only fun a t2 => .ok (.dic a) e1 t2

def mPairs : List (ME × ME) → Env → D → R (List (D × D))
  | [] => fun e t => .ok [] e t
  | (mk, mv) :: r => fun e t => (mk e t).bind fun k e t => (mv e t).bind fun d e t => (mPairs r e t).bind fun ps e t => if isKey k then .ok ((k, d) :: ps) e t else .stuck
/-- {k: v, ..} -/
def mDic (as : List (ME × ME)) : ME := fun e t => (mPairs as (hideE e) t).only fun kvs t2 => .ok (.dic (dmerge [] kvs)) e t2

/-! ### statements -/
def sPass : MS := fun e t => .ok .next e t
def sSeq (a b : MS) : MS := fun e t => (a e t).bind fun f e t => match f with
  | .next => b e t
  | .ret d => .ok (.ret d) e t
def sBlock : List MS → MS
  | [] => sPass
  | [a] => a
  | a :: r => sSeq a (sBlock r)
def sExpr (m : ME) : MS := fun e t => (m e t).bind fun _ e t => .ok .next e t
def sRet (m : ME) : MS := fun e t => (m e t).bind fun d e t => .ok (.ret d) e t
def sSet (i : Nat) (m : ME) : MS := fun e t => (m e t).bind fun d e t => .ok .next (e.set i (.val d)) t
/-- the value is new and only this name has it -/
def sOwn (i : Nat) (m : ME) : MS := fun e t => (m e t).bind fun d e t => .ok .next (e.set i (.own d)) t
/-- the value is new and is followed from here on -/
def sTrk (i : Nat) (m : ME) : MS := fun e t => match t with
  | .non => (m e t).bind fun d e t => (match t with | .non => .ok .next (e.set i .trk) d | _ => .stuck)
  | _ => .stuck
def sPut (g : Tgt) (m : ME) : MS := fun e t => (m e t).bind fun d e t => match g.put d e with
  | some e => .ok .next e t
  | none => .stuck
/-- self.f = v, self followed -/
def sFld (i : Nat) (ks : List (Nat × Nat)) (m : ME) : MS := fun e t => (m e t).bind fun d e t => match e[i]?, t with
  | some .trk, .obj c fs => (match tab c ks with
    | some j => if j < fs.length then .ok .next e (.obj c (fs.set j d)) else if j = fs.length then .ok .next e (.obj c (fs ++ [d])) else .stuck
    | none => .stuck)
  | _, _ => .stuck
/-- x.append(e), x owned -/
def sApp (i : Nat) (m : ME) : MS := fun e t => match e[i]? with
  | some (.own (.lst _)) => (m e t).bind fun d e t => match e[i]? with
    | some (.own (.lst xs)) => if xs.length < lim then .ok .next (e.set i (.own (.lst (xs ++ [d])))) t else .stuck
    | _ => .stuck
  | _ => .stuck
/-- x.extend(e), x owned -/
def sExt (i : Nat) (m : ME) : MS := fun e t => match e[i]? with
  | some (.own (.lst _)) => (m e t).bind fun d e t => match e[i]?, d with
    | some (.own (.lst xs)), .lst ys => if xs.length + ys.length ≤ lim then .ok .next (e.set i (.own (.lst (xs ++ ys)))) t else .stuck
    | _, _ => .stuck
  | _ => .stuck
/-- the place k of what is owned becomes v -/
def putAt (d k v : D) : Option D := match d with
  | .lst xs => (match k with
    | .int i => if 0 ≤ i ∧ i.toNat < xs.length then some (.lst (xs.set i.toNat v)) else none
    | _ => none)
  | .dic kvs => if isKey k && decide (kvs.length < lim) then some (.dic (dput k v kvs)) else none
  | _ => none
/-- x[k] = v, x owned -/
def sStore (i : Nat) (mk mv : ME) : MS := fun e t => (mv e t).bind fun v e t => match e[i]? with
  | some (.own _) => (mk e t).bind fun k e t => match e[i]? with
    | some (.own d) => (match putAt d k v with
      | some d' => .ok .next (e.set i (.own d')) t
      | none => .stuck)
    | _ => .stuck
  | _ => .stuck
def sIf (c : ME) (a b : MS) : MS := fun e t => (asB (c e t)).bind fun c e t => if c then a e t else b e t
def forLoop (g : Tgt) (body : MS) : List D → MS
  | [] => sPass
  | d :: r => fun e t => match g.put d e with
    | none => .stuck
    | some e => (body e t).bind fun f e t => match f with
      | .next => forLoop g body r e t
      | .ret d => .ok (.ret d) e t
def sFor (g : Tgt) (it : ML) (body : MS) : MS := fun e t => (it e t).bind fun ds e t => forLoop g body ds e t
/-- raise X(..) -/
def sRaise (c : Nat) (as : List ME) : MS := fun e t => (mArgs as e t).bind fun ds _ _ => .err c ds
/-- a def's body run on its arguments -/
def slotsOf (ds : List D) : Env := ds.map fun d => match d with
  | .trk => .trk
  | d => .val d
def run (n : Nat) (body : MS) : Fn := fun ds t => match body (slotsOf ds ++ List.replicate (n - ds.length) .none) t with
  | .ok .next _ t => .ok .non t
  | .ok (.ret d) _ t => .ok d t
  | .err c fs => .err c fs
  | .stuck => .stuck

/-! ### operators -/
def pAdd : D → D → Option D
  | .int i, .int j => some (.int (i + j))
  | .str a, .str b => if a.length + b.length ≤ lim then some (.str (a ++ b)) else none
  | .lst a, .lst b => if a.length + b.length ≤ lim then some (.lst (a ++ b)) else none
  | .tup a, .tup b => if a.length + b.length ≤ lim then some (.tup (a ++ b)) else none
  | _, _ => none
def pSub : D → D → Option D
  | .int i, .int j => some (.int (i - j))
  | _, _ => none
def pMul : D → D → Option D
  | .int i, .int j => if (-18446744073709551616 < i ∧ i < 18446744073709551616) ∨ (-18446744073709551616 < j ∧ j < 18446744073709551616) then some (.int (i * j)) else none
  | _, _ => none
def pFdiv : D → D → Option D
  | .int i, .int j => if 0 < j ∧ j < 1073741824 then some (.int (i / j)) else none
  | _, _ => none
def pMod : D → D → Option D
  | .int i, .int j => if 0 < j then some (.int (i % j)) else none
  | _, _ => none
def pPow : D → D → Option D
  | .int i, .int j => if 0 ≤ j ∧ j ≤ 1000000 ∧ i.natAbs < 18446744073709551616 then some (.int (i ^ j.toNat)) else none
  | _, _ => none
def pNeg : D → Option D
  | .int i => some (.int (-i))
  | _ => none
def sLt (a b : Str) : Bool := decide (a.cps.toList < b.cps.toList)
def pLt : D → D → Option D
  | .int i, .int j => some (.bl (decide (i < j)))
  | .str a, .str b => some (.bl (sLt a b))
  | _, _ => none
def pLe : D → D → Option D
  | .int i, .int j => some (.bl (decide (i ≤ j)))
  | .str a, .str b => some (.bl (!sLt b a))
  | _, _ => none
def pGt : D → D → Option D
  | .int i, .int j => some (.bl (decide (j < i)))
  | .str a, .str b => some (.bl (sLt b a))
  | _, _ => none
def pGe : D → D → Option D
  | .int i, .int j => some (.bl (decide (j ≤ i)))
  | .str a, .str b => some (.bl (!sLt a b))
  | _, _ => none
/-- x is None -/
def isNon : D → Bool
  | .non => true
  | _ => false
def pIsN (x : D) : Option D := some (.bl (isNon x))
def pNotN (x : D) : Option D := some (.bl (!isNon x))
/-- x in y -/
def inD (x y : D) : Option Bool := match y with
  | .lst xs => if xs.all fun z => cok z dep false x then some (xs.any fun z => deq z x) else none
  | .tup xs => if xs.all fun z => cok z dep false x then some (xs.any fun z => deq z x) else none
  | .dic kvs => if isKey x then some (dlook x kvs).isSome else none
  | .kdic kvs => (match x with | .str _ => some (dlook x kvs).isSome | _ => none)
  | .str z => (match x with
    | .str w => (match w.cps.toList with
      | [k] => some (decide (k ∈ z.cps.toList))
      | _ => none)
    | _ => none)
  | _ => none
def pIn (x y : D) : Option D := (inD x y).map .bl
def pNotIn (x y : D) : Option D := (inD x y).map fun b => .bl (!b)
/-- places -/
def ixD {α : Type} (xs : List α) (i : Int) : Option α := if 0 ≤ i then xs[i.toNat]? else if 0 ≤ i + xs.length then xs[(i + xs.length).toNat]? else none
def pItem : D → D → Option D
  | .lst xs, .int i => ixD xs i
  | .tup xs, .int i => ixD xs i
  | .str z, .int i => if z.length ≤ lim then (ixD z.cps.toList i).map fun k => .str ⟨#[k]⟩ else none
  | .dic kvs, k => if isKey k then dlook k kvs else none
  | .kdic kvs, k => (match k with | .str _ => dlook k kvs | _ => none)
  | _, _ => none
/-- the end of a slice within n -/
def cutAt (n d : Nat) (i : Option Int) : Nat := match i with
  | none => d
  | some i => if 0 ≤ i then min i.toNat n else (i + n).toNat
def cutL {α : Type} (xs : List α) (lo hi : Option Int) : List α := (xs.drop (cutAt xs.length 0 lo)).take (cutAt xs.length xs.length hi - cutAt xs.length 0 lo)
def pSlice (x : D) (lo hi : Option Int) : Option D := match x with
  | .lst xs => some (.lst (cutL xs lo hi))
  | .tup xs => some (.tup (cutL xs lo hi))
  | _ => none
def mPart (m : Option ME) (e : Env) (t : D) : R (Option Int) := match m with
  | none => .ok none e t
  | some m => (m e t).bind fun d e t => match d with
    | .int i => .ok (some i) e t
    | _ => .stuck
def mSlice (a : ME) (lo hi : Option ME) : ME := fun e t => (a e t).bind fun x e t => (mPart lo e t).bind fun i e t => (mPart hi e t).bind fun j e t => R.of (pSlice x i j) e t
/-! ### built-ins -/
def pLen : D → Option D
  | .lst xs => some (.int xs.length)
  | .tup xs => some (.int xs.length)
  | .dic xs => some (.int xs.length)
  | .str z => if z.length ≤ lim then some (.int z.length) else none
  | _ => none
def boolsD : List D → Option (List Bool)
  | [] => some []
  | .bl b :: r => (boolsD r).map (b :: ·)
  | _ => none
def intsD : List D → Option (List Int)
  | [] => some []
  | .int b :: r => (intsD r).map (b :: ·)
  | _ => none
def strsD : List D → Option (List Str)
  | [] => some []
  | .str b :: r => (strsD r).map (b :: ·)
  | _ => none
def pAll : D → Option D
  | .lst xs => (boolsD xs).map fun bs => .bl (bs.all id)
  | _ => none
def pAny : D → Option D
  | .lst xs => (boolsD xs).map fun bs => .bl (bs.any id)
  | _ => none
def pSum : D → Option D
  | .lst xs => (intsD xs).map fun bs => .int bs.sum
  | _ => none
def maxL : Int → List Int → Int
  | m, [] => m
  | m, x :: r => maxL (if m < x then x else m) r
def minL : Int → List Int → Int
  | m, [] => m
  | m, x :: r => minL (if x < m then x else m) r
def pMax : D → Option D
  | .lst xs => (match intsD xs with | some (x :: r) => some (.int (maxL x r)) | _ => none)
  | _ => none
def pMin : D → Option D
  | .lst xs => (match intsD xs with | some (x :: r) => some (.int (minL x r)) | _ => none)
  | _ => none
def pAbs : D → Option D
  | .int i => some (.int (if i < 0 then -i else i))
  | _ => none
def pInt : D → Option D
  | .int i => some (.int i)
  | .bl b => some (.int (if b then 1 else 0))
  | _ => none
def insS (x : Str) : List Str → List Str
  | [] => [x]
  | y :: r => if sLt y x then y :: insS x r else x :: y :: r
def sortS : List Str → List Str
  | [] => []
  | x :: r => insS x (sortS r)
def pSorted : D → Option D
  | .lst xs => (match strsD xs with | some ss => if ss.length < 64 then some (.lst ((sortS ss).map .str)) else none | none => none)
  | _ => none
def pList : D → Option D
  | .lst xs => some (.lst xs)
  | .tup xs => some (.lst xs)
  | .dic kvs => some (.lst (kvs.map (·.1)))
  | _ => none
def pTuple : D → Option D
  | .lst xs => some (.tup xs)
  | .tup xs => some (.tup xs)
  | _ => none
def pDict : D → Option D
  | .dic kvs => some (.dic kvs)
  | _ => none
/-- built-in classes -/
inductive Ty where
  | int | bool | str | list | tuple | dict
def isTy : D → Ty → Bool
  | .int _, .int => true
  | .bl _, .int => true
  | .bl _, .bool => true
  | .str _, .str => true
  | .lst _, .list => true
  | .tup _, .tuple => true
  | .dic _, .dict => true
  | .kdic _, .dict => true
  | _, _ => false
def pIsTy (ts : List Ty) (x : D) : Option D := some (.bl (ts.any (isTy x)))
def pIsCls (cs : List Nat) : D → Option D
  | .obj k _ => some (.bl (cs.contains k))
  | _ => some (.bl false)
/-- dict(zip(x, y)) -/
def pairKs : List D → List D → Option (List (D × D))
  | k :: ks, d :: ds => if isKey k then (pairKs ks ds).map ((k, d) :: ·) else none
  | _, _ => some []
def pDictZip (x y : D) : Option D := match seqR x, seqR y with
  | some ks, some ds => (pairKs ks ds).bind fun kvs => if kvs.length ≤ 1000 then some (.dic (dmerge [] kvs)) else none
  | _, _ => none
end DI
set_option linter.all false
set_option Elab.async false
/-! DPure2: more plain combinators: looks, the followed list, try. -/
namespace DI
open PySem (Str)
/-- a built-in's arguments -/
def g1 (p : D → Option D) : List D → Option D
  | [x] => p x
  | _ => none
/-- the answer over several -/
def pIsF (f : D → Bool) (obs : List Nat) : D → Option D
  | .obj k fs => if obs.contains k then some (.bl (f (.obj k fs))) else none
  | .trk => none
  | d => some (.bl (f d))
/-- of these classes' objects, only those of cid are of C -/
def isCls (cid : Nat) (d : D) : Bool := match d with
  | .obj k _ => k == cid
  | _ => false
def kdD (kvs : List (Str × D)) : D := .kdic (kvs.map fun p => (.str p.1, p.2))
def peek (e : Env) (t : D) (i : Nat) : Option D := match e[i]? with
  | some (.own (.lst xs)) => some (.lst xs)
  | some (.val d) => some d
  | some .trk => (match t with
    | .lst xs => some (.lst xs)
    | _ => none)
  | _ => none
def prim : D → Bool
  | .non => true
  | .bl _ => true
  | .int _ => true
  | .str _ => true
  | _ => false
def R.prim (x : Option D) (e : Env) (t : D) : R D := match x with
  | some d => if DI.prim d then .ok d e t else .stuck
  | none => .stuck
def mPkL (f : D → D → Option D) (i : Nat) (m : ME) : ME := fun e t => match peek e t i with
  | some _ => (m e t).bind fun y e t => (match peek e t i with
    | some d => R.prim (f d y) e t
    | none => .stuck)
  | none => .stuck
def mPkR (f : D → D → Option D) (m : ME) (i : Nat) : ME := fun e t => (m e t).bind fun x e t => match peek e t i with
  | some d => R.prim (f x d) e t
  | none => .stuck
def mPk1 (f : D → Option D) (i : Nat) : ME := fun e t => match peek e t i with
  | some d => R.prim (f d) e t
  | none => .stuck
/-- x[k] = v, x followed -/
def sStoreT (i : Nat) (mk mv : ME) : MS := fun e t => (mv e t).bind fun v e t => match e[i]? with
  | some .trk => (mk e t).bind fun k e t => match e[i]?, t, k with
    | some .trk, .lst xs, .int j => if 0 ≤ j ∧ j.toNat < xs.length then .ok .next e (.lst (xs.set j.toNat v)) else .stuck
    | _, _, _ => .stuck
  | _ => .stuck
/-- x.pop(k), x followed -/
def mPopT (i : Nat) (mk : ME) : ME := fun e t => match e[i]?, t with
  | some .trk, .lst _ => (mk e t).bind fun k e t => match e[i]?, t, k with
    | some .trk, .lst xs, .int j => if 0 ≤ j ∧ j < 1000 then (match xs[j.toNat]? with
      | some d => .ok d e (.lst (xs.eraseIdx j.toNat))
      | none => .stuck) else .stuck
    | _, _, _ => .stuck
  | _, _ => .stuck
/-- x, y = a, b -/
def sPar (is : List Nat) (ms : List ME) : MS := fun e t => (mArgs ms e t).bind fun ds e t => match setAll is ds e with
  | some e => .ok .next e t
  | none => .stuck
/-- a clause: its class, its name's slot, what it does with the fields -/
structure Hd where
  cid : Nat
  slot : Option Nat
  run : List D → MS
def offE (o : Option Nat) (e : Env) : Env := match o with
  | none => e
  | some i => e.set i .none
def hdOf (c : Nat) : List Hd → Option Hd
  | [] => none
  | h :: r => if c = h.cid then some h else hdOf c r
/-- try; excs: what may come -/
def sTry (mb : MS) (excs : List Nat) (hs : List Hd) : MS := fun e t => match t with
  | .non => (match mb (hideE e) .non with
    | .err c fs => if excs.contains c then (match hdOf c hs with
      | some h => (match h.run fs (List.replicate e.length .none) .non with
        | .ok f e2 t2 => .ok f (offE h.slot e2) t2
        | .err _ _ => .stuck
        | .stuck => .stuck)
      | none => .err c fs) else .stuck
    | x => x)
  | _ => .stuck
def one1 (f : D → MS) : List D → MS
  | [d] => f d
  | _ => fun _ _ => .stuck
def stepM : ME := m2 pMod (mN (g1 pInt) [m2 pAdd (m2 pMul (mVar 2) (mConst (.int 31))) (mN (g1 pAbs) [mVar 3])]) (mConst (.int 2147483647))
def testM : ME := m2 pGe (mVar 3) (m2 pPow (mConst (.int 10)) (mConst (.int 18)))
def stepI (s c : Int) : Int := (s * 31 + (if c < 0 then -c else c)) % 2147483647
def bigI (c : Int) : Bool := decide (1000000000000000000 ≤ c)
def seedI (salt : Int) (ns : List Int) : Int := ns.foldl stepI salt
def randI (ns : List Int) (salt : Int) : List Int := [seedI salt ns, 0] ++ ns.filter bigI
/-- what a law's body is, behind its first call -/
def lawE (N : List Str) : Env := (List.replicate N.length Slot.none).set 1 .trk
end DI
set_option linter.all false
set_option Elab.async false
set_option maxRecDepth 100000
set_option maxHeartbeats 4000000
/-! DRep: how a datum lies in the heap; the state of a def's body. -/
namespace DI
open PySem PySem.Spec PyProof.Rows L2

/-- where things stand: the written part, the world, the classes' addresses and their fields' names -/
structure Tb where
  K : PySem.W.Frag
  w : World
  ca : Nat → Addr
  cf : Nat → List Str

def keyD : Key → D
  | .inl i => .int i
  | .inr s => .str s
theorem keyD_isKey (k : Key) : isKey (keyD k) = true := by cases k <;> rfl
theorem keyEq_keyD (j k : Key) : keyEq (keyD j) (keyD k) = decide (j = k) := by
  cases j <;> cases k <;> simp [keyD, keyEq]

/-- a dict of the written part with text keys -/
def KVE (es : List DictEntry) (kv : List (Key × V)) : Prop := Paired (fun (q : Key × V) (e : DictEntry) => ∃ z t, q.1 = .inr z ∧ e.key = .str z t ∧ RelV q.2 e.val) kv es
def KAt (T : Tb) (a : Addr) (kv : List (Key × V)) : Prop := ∃ es n, KDict T.K T.w a es n ∧ KVE es.toList kv ∧ (kv.map (·.1)).Nodup
def DAt (_ : Tb) (H : Hp) (a : Addr) (kv : List (Key × V)) : Prop := ∃ o, H a = some (.frz o (.dK kv))

mutual
def Rep (T : Tb) (H : Hp) : D → V → Prop
  | .non, v => v = .non
  | .bl b, v => v = .bl b
  | .int i, v => v = .int i
  | .str s, v => v = .str s
  | .lst ds, v => ∃ a vs, v = .ref a ∧ H a = some (.lst vs) ∧ Reps T H ds vs
  | .tup ds, v => ∃ a vs, v = .ref a ∧ SqT T.K H a vs ∧ Reps T H ds vs
  | .dic kvs, v => ∃ a kv, v = .ref a ∧ DAt T H a kv ∧ RepK T H kvs kv
  | .kdic kvs, v => ∃ a kv, v = .ref a ∧ KAt T a kv ∧ RepK T H kvs kv
  | .obj c ds, v => ∃ a dx fv, v = .ref a ∧ H a = some (.ins (T.ca c) dx fv) ∧ fv.map (·.1) = (T.cf c).take ds.length ∧ Reps T H ds (fv.map (·.2))
  | .trk, _ => False
termination_by structural x => x
def Reps (T : Tb) (H : Hp) : List D → List V → Prop
  | [], vs => vs = []
  | d :: ds, vs => ∃ v r, vs = v :: r ∧ Rep T H d v ∧ Reps T H ds r
termination_by structural x => x
def RepP (T : Tb) (H : Hp) : D × D → Key × V → Prop
  | (k, d), q => k = keyD q.1 ∧ Rep T H d q.2
termination_by structural x => x
def RepK (T : Tb) (H : Hp) : List (D × D) → List (Key × V) → Prop
  | [], kv => kv = []
  | p :: r, kv => ∃ q r', kv = q :: r' ∧ RepP T H p q ∧ RepK T H r r'
termination_by structural x => x
end

theorem DAt.ext {T : Tb} {H H' : Hp} {a : Addr} {kv : List (Key × V)} (h : DAt T H a kv) (e : Ext H H') : DAt T H' a kv := by
  obtain ⟨o, h⟩ := h
  exact ⟨o, e _ _ h⟩

mutual
theorem Rep.ext {T : Tb} {H H' : Hp} (e : Ext H H') : ∀ {d : D} {v : V}, Rep T H d v → Rep T H' d v
  | .non, _, h => h
  | .bl _, _, h => h
  | .int _, _, h => h
  | .str _, _, h => h
  | .lst ds, v, h => by
    obtain ⟨a, vs, h1, h2, h3⟩ := h
    exact ⟨a, vs, h1, e _ _ h2, Reps.ext e h3⟩
  | .tup ds, v, h => by
    obtain ⟨a, vs, h1, h2, h3⟩ := h
    exact ⟨a, vs, h1, h2.ext e, Reps.ext e h3⟩
  | .dic kvs, v, h => by
    obtain ⟨a, kv, h1, h2, h3⟩ := h
    exact ⟨a, kv, h1, h2.ext e, RepK.ext e h3⟩
  | .kdic kvs, v, h => by
    obtain ⟨a, kv, h1, h2, h3⟩ := h
    exact ⟨a, kv, h1, h2, RepK.ext e h3⟩
  | .obj c ds, v, h => by
    obtain ⟨a, dx, fv, h1, h2, h3, h4⟩ := h
    exact ⟨a, dx, fv, h1, e _ _ h2, h3, Reps.ext e h4⟩
  | .trk, _, h => h
termination_by structural x => x
theorem Reps.ext {T : Tb} {H H' : Hp} (e : Ext H H') : ∀ {ds : List D} {vs : List V}, Reps T H ds vs → Reps T H' ds vs
  | [], _, h => h
  | d :: ds, vs, h => by
    obtain ⟨v, r, h1, h2, h3⟩ := h
    exact ⟨v, r, h1, Rep.ext e h2, Reps.ext e h3⟩
termination_by structural x => x
theorem RepP.ext {T : Tb} {H H' : Hp} (e : Ext H H') : ∀ {p : D × D} {q : Key × V}, RepP T H p q → RepP T H' p q
  | (k, d), q, h => ⟨h.1, Rep.ext e h.2⟩
termination_by structural x => x
theorem RepK.ext {T : Tb} {H H' : Hp} (e : Ext H H') : ∀ {kvs : List (D × D)} {kv : List (Key × V)}, RepK T H kvs kv → RepK T H' kvs kv
  | [], _, h => h
  | p :: r, kv, h => by
    obtain ⟨q, r', h1, h2, h3⟩ := h
    exact ⟨q, r', h1, RepP.ext e h2, RepK.ext e h3⟩
termination_by structural x => x
end

section
variable {T : Tb} {H : Hp}
theorem Reps.length : ∀ {ds : List D} {vs : List V}, Reps T H ds vs → ds.length = vs.length
  | [], _, h => by have h : _ = [] := h; rw [h]; rfl
  | d :: ds, vs, h => by
    obtain ⟨v, r, h1, _, h3⟩ := h
    rw [h1, List.length_cons, List.length_cons, Reps.length h3]
theorem Reps.append : ∀ {ds es : List D} {vs us : List V}, Reps T H ds vs → Reps T H es us → Reps T H (ds ++ es) (vs ++ us)
  | [], es, vs, us, h, k => by have h : vs = [] := h; subst h; exact k
  | d :: ds, es, vs, us, h, k => by
    obtain ⟨v, r, rfl, h2, h3⟩ := h
    exact ⟨v, r ++ us, rfl, h2, Reps.append h3 k⟩
theorem Reps.one {d : D} {v : V} (h : Rep T H d v) : Reps T H [d] [v] := ⟨v, [], rfl, h, rfl⟩
theorem Reps.get : ∀ {ds : List D} {vs : List V} {i : Nat} {d : D}, Reps T H ds vs → ds[i]? = some d → ∃ v, vs[i]? = some v ∧ Rep T H d v
  | [], _, _, _, _, e => by simp at e
  | d :: ds, vs, 0, x, h, e => by
    obtain ⟨v, r, rfl, h2, _⟩ := h
    simp at e
    subst e
    exact ⟨v, rfl, h2⟩
  | d :: ds, vs, i + 1, x, h, e => by
    obtain ⟨v, r, rfl, _, h3⟩ := h
    obtain ⟨u, h4, h5⟩ := Reps.get (i := i) h3 (by simpa using e)
    exact ⟨u, by simpa using h4, h5⟩
theorem Reps.get' : ∀ {ds : List D} {vs : List V} {i : Nat} {v : V}, Reps T H ds vs → vs[i]? = some v → ∃ d, ds[i]? = some d ∧ Rep T H d v := fun {ds vs i v} h e => by
  have hl := h.length
  have hi : i < vs.length := (List.getElem?_eq_some_iff.mp e).1
  obtain ⟨u, h1, h2⟩ := h.get (i := i) (d := ds[i]) (by simp [hl, hi])
  rw [e] at h1
  cases h1
  exact ⟨_, by simp [hl, hi], h2⟩
theorem Reps.set {d : D} {v : V} (r : Rep T H d v) : ∀ {ds : List D} {vs : List V} (i : Nat), Reps T H ds vs → Reps T H (ds.set i d) (vs.set i v)
  | [], vs, i, h => by have h : vs = [] := h; subst h; exact rfl
  | _ :: ds, vs, 0, h => by
    obtain ⟨u, s, rfl, _, h3⟩ := h
    exact ⟨v, s, rfl, r, h3⟩
  | _ :: ds, vs, i + 1, h => by
    obtain ⟨u, s, rfl, h2, h3⟩ := h
    exact ⟨u, s.set i v, rfl, h2, Reps.set r i h3⟩
theorem Reps.take : ∀ {ds : List D} {vs : List V} (n : Nat), Reps T H ds vs → Reps T H (ds.take n) (vs.take n)
  | ds, vs, 0, _ => by rw [List.take_zero, List.take_zero]; exact rfl
  | [], vs, n + 1, h => by have h : vs = [] := h; subst h; exact rfl
  | d :: ds, vs, n + 1, h => by
    obtain ⟨v, r, rfl, h2, h3⟩ := h
    exact ⟨v, r.take n, rfl, h2, Reps.take n h3⟩
theorem Reps.drop : ∀ {ds : List D} {vs : List V} (n : Nat), Reps T H ds vs → Reps T H (ds.drop n) (vs.drop n)
  | ds, vs, 0, h => h
  | [], vs, n + 1, h => by have h : vs = [] := h; subst h; exact rfl
  | d :: ds, vs, n + 1, h => by
    obtain ⟨v, r, rfl, h2, h3⟩ := h
    exact Reps.drop n h3
theorem RepK.length : ∀ {ds : List (D × D)} {vs : List (Key × V)}, RepK T H ds vs → ds.length = vs.length
  | [], _, h => by have h : _ = [] := h; rw [h]; rfl
  | d :: ds, vs, h => by
    obtain ⟨v, r, h1, _, h3⟩ := h
    rw [h1, List.length_cons, List.length_cons, RepK.length h3]
theorem RepK.look {k : Key} : ∀ {ds : List (D × D)} {vs : List (Key × V)}, RepK T H ds vs → (∃ d v, dlook (keyD k) ds = some d ∧ valV vs k = some v ∧ Rep T H d v) ∨ (dlook (keyD k) ds = none ∧ valV vs k = none)
  | [], _, h => by have h : _ = [] := h; rw [h]; exact .inr ⟨rfl, rfl⟩
  | (j, d) :: ds, vs, h => by
    obtain ⟨⟨j', v⟩, r, rfl, ⟨e1, h2⟩, h3⟩ := h
    have e1 : j = keyD j' := e1
    subst e1
    by_cases hk : j' = k
    · subst hk
      refine .inl ⟨d, v, ?_, valV_pos rfl, h2⟩
      show (if keyEq (keyD j') (keyD j') then some d else dlook _ ds) = some d
      rw [keyEq_keyD, if_pos (by simp)]
    · have e2 : dlook (keyD k) ((keyD j', d) :: ds) = dlook (keyD k) ds := by
        show (if keyEq (keyD j') (keyD k) then some d else dlook _ ds) = _
        rw [keyEq_keyD, if_neg (by simpa using hk)]
      rw [e2, valV_neg (show ¬ (j', v).1 = k from hk)]
      exact RepK.look h3
theorem putK_cons_eq {j : Key} {v u : V} {r : List (Key × V)} : putK ((j, v) :: r) j u = (j, u) :: (r.map fun kv => if kv.1 = j then (kv.1, u) else kv) := by
  simp [putK]
theorem RepK.keysOf : ∀ {ds : List (D × D)} {vs : List (Key × V)}, RepK T H ds vs → ds.map (·.1) = vs.map fun q => keyD q.1
  | [], _, h => by have h : _ = [] := h; rw [h]; rfl
  | (j, d) :: ds, vs, h => by
    obtain ⟨⟨j', v⟩, r, rfl, ⟨e1, h2⟩, h3⟩ := h
    rw [List.map_cons, List.map_cons, RepK.keysOf h3]
    exact congrArg (· :: _) e1
end

/-! ### the state of a body -/
/-- what stands at a root that is followed or owned -/
def OwnAt (T : Tb) (H0 H : Hp) : D → Addr → Prop
  | .lst ds, a => ∃ vs, H a = some (.lst vs) ∧ Reps T H0 ds vs
  | .dic kvs, a => ∃ kv, H a = some (.dK kv) ∧ RepK T H0 kvs kv ∧ (kv.map (·.1)).Nodup
  | .obj c ds, a => ∃ dx fv, H a = some (.ins (T.ca c) dx fv) ∧ fv.map (·.1) = (T.cf c).take ds.length ∧ Reps T H0 ds (fv.map (·.2))
  | _, _ => False
theorem OwnAt.ext {T : Tb} {H0 H0' H H' : Hp} {d : D} {a : Addr} (h : OwnAt T H0 H d a) (e : Ext H0 H0') (k : ∀ o, H a = some o → H' a = some o) : OwnAt T H0' H' d a := by
  cases d with
  | lst ds => obtain ⟨vs, h1, h2⟩ := h; exact ⟨vs, k _ h1, h2.ext e⟩
  | dic kvs => obtain ⟨kv, h1, h2, h3⟩ := h; exact ⟨kv, k _ h1, h2.ext e, h3⟩
  | obj c ds => obtain ⟨dx, fv, h1, h2, h3⟩ := h; exact ⟨dx, fv, k _ h1, h2, h3.ext e⟩
  | _ => exact h.elim
theorem OwnAt.there {T : Tb} {H0 H : Hp} {d : D} {a : Addr} (h : OwnAt T H0 H d a) : ∃ o, H a = some o := by
  cases d with
  | lst ds => obtain ⟨vs, h1, h2⟩ := h; exact ⟨_, h1⟩
  | dic kvs => obtain ⟨kv, h1, h2⟩ := h; exact ⟨_, h1⟩
  | obj c ds => obtain ⟨dx, fv, h1, h2, h3⟩ := h; exact ⟨_, h1⟩
  | _ => exact h.elim
/-- the entry: what was tracked, what of it was seen, the followed thing that was handed in -/
structure Ent where
  He : Hp
  H0e : Hp
  tp : Option Addr
/-- what holds between the entry and now -/
structure Since (n : Ent) (H0 H : Hp) : Prop where
  sub : Ext H0 H
  low : ∀ a o, n.He a = some o → n.tp ≠ some a → H a = some o
  low0 : ∀ a, n.He a ≠ none → H0 a = n.H0e a
  ext0 : Ext n.H0e H0
def SlotOk (T : Tb) (n : Ent) (H0 H : Hp) (p : Addr) (t : D) : Slot → Option (Option V) → Prop
  | .none, _ => True
  | .val d, x => ∃ v, x = some (some v) ∧ Rep T H0 d v
  | .own d, x => ∃ a, x = some (some (.ref a)) ∧ OwnAt T H0 H d a ∧ n.He a = none ∧ H0 a = none ∧ (t ≠ .non → a ≠ p)
  | .trk, x => x = some (some (.ref p)) ∧ t ≠ .non
structure SI (T : Tb) (n : Ent) (e : Env) (t : D) (σ : L2.St) (H0 H : Hp) (p : Addr) : Prop extends Since n H0 H where
  slot : ∀ (i : Nat) (s : Slot), e[i]? = some s → SlotOk T n H0 H p t s σ[i]?
  sep : ∀ (i j : Nat) (di dj : D) (a : Addr), e[i]? = some (.own di) → e[j]? = some (.own dj) → σ[i]? = some (some (.ref a)) → σ[j]? = some (some (.ref a)) → i = j
  trk : t ≠ .non → OwnAt T H0 H t p ∧ H0 p = none ∧ (n.tp = some p ∨ n.He p = none)
  tpq : ∀ q, n.tp = some q → q = p ∧ t ≠ .non
  len : e.length = σ.length
/-- a value: the followed thing, or a datum -/
def RepT (T : Tb) (p : Addr) (H0 : Hp) : D → V → Prop
  | .trk, v => v = .ref p
  | d, v => Rep T H0 d v
theorem RepT.of {T : Tb} {p : Addr} {H0 : Hp} {d : D} {v : V} (h : Rep T H0 d v) : RepT T p H0 d v := by
  cases d with
  | trk => exact h.elim
  | _ => exact h
theorem RepT.ext {T : Tb} {p : Addr} {H0 H0' : Hp} (e : Ext H0 H0') {d : D} {v : V} (h : RepT T p H0 d v) : RepT T p H0' d v := by
  cases d with
  | trk => exact h
  | _ => exact Rep.ext e h
theorem RepT.rep {T : Tb} {p : Addr} {H0 : Hp} {d : D} {v : V} (h : RepT T p H0 d v) (hd : d ≠ .trk) : Rep T H0 d v := by
  cases d with
  | trk => exact absurd rfl hd
  | _ => exact h
/-- an exception -/
def ExcAt (T : Tb) (H0 H : Hp) (c : Nat) (fs : List D) (cls : Value) (dx : Option Addr) : Prop :=
  cls = .ref (T.ca c) ∧ ((fs = [] ∧ dx = none) ∨ ∃ d vs, dx = some d ∧ H d = some (.xd ((T.cf c).zip vs)) ∧ Reps T H0 fs vs ∧ fs.length = (T.cf c).length)
abbrev XW := Value → Option Addr → Hp → Prop
def ErrW (T : Tb) (n : Ent) (W : XW) (c : Nat) (fs : List D) : Prop := ∀ cls dx H0' H', Since n H0' H' → ExcAt T H0' H' c fs cls dx → W cls dx H'
/-- what is to be shown of an expression's outcome -/
def RE (T : Tb) (n : Ent) (σ : L2.St) (H0 : Hp) (p : Addr) (Q : VK) (W : XW) : R D → Prop
  | .ok d e t => ∀ v H0' H', SI T n e t σ H0' H' p → Ext H0 H0' → Rep T H0' d v → Q v H'
  | .err c fs => ErrW T n W c fs
  | .stuck => False
def tE (T : Tb) (n : Ent) (W : XW) (m : ME) : TE := fun σ H Q => ∃ e t H0 p, SI T n e t σ H0 H p ∧ RE T n σ H0 p Q W (m e t)
/-- of a list of arguments -/
def RA (T : Tb) (n : Ent) (σ : L2.St) (H0 : Hp) (p : Addr) (Q : List V → Hp → Prop) (W : XW) : R (List D) → Prop
  | .ok ds e t => ∀ vs H0' H', SI T n e t σ H0' H' p → Ext H0 H0' → Reps T H0' ds vs → Q vs H'
  | .err c fs => ErrW T n W c fs
  | .stuck => False
def tA (T : Tb) (n : Ent) (W : XW) (m : ML) : TA := fun σ H Q => ∃ e t H0 p, SI T n e t σ H0 H p ∧ RA T n σ H0 p Q W (m e t)
/-- of a test -/
def RT (T : Tb) (n : Ent) (σ : L2.St) (H0 : Hp) (p : Addr) (Q : Bool → Hp → Prop) (W : XW) : R Bool → Prop
  | .ok b e t => ∀ H0' H', SI T n e t σ H0' H' p → Ext H0 H0' → Q b H'
  | .err c fs => ErrW T n W c fs
  | .stuck => False
def tT (T : Tb) (n : Ent) (W : XW) (m : MT) : TT := fun σ H Q => ∃ e t H0 p, SI T n e t σ H0 H p ∧ RT T n σ H0 p Q W (m e t)
/-- of a statement -/
def RS (T : Tb) (n : Ent) (H0 : Hp) (p : Addr) (t0 : D) (D' : Ends) (W : XW) : R Flow → Prop
  | .ok .next e t => ∀ σ' H0' H' p', SI T n e t σ' H0' H' p' → Ext H0 H0' → (t0 ≠ .non → p' = p) → D'.nx σ' H'
  | .ok (.ret d) e t => ∀ v σ' H0' H' p', SI T n e t σ' H0' H' p' → Ext H0 H0' → (t0 ≠ .non → p' = p) → Rep T H0' d v → D'.rt v H'
  | .err c fs => ErrW T n W c fs
  | .stuck => False
def tS (T : Tb) (n : Ent) (W : XW) (m : MS) : TS := fun D' σ H => ∃ e t H0 p, SI T n e t σ H0 H p ∧ RS T n H0 p t D' W (m e t)

section
variable {T : Tb} {n : Ent} {σ : L2.St} {H0 H0' H : Hp} {p : Addr} {W : XW}
theorem RE.mono {Q : VK} {x : R D} (h : RE T n σ H0 p Q W x) (e : Ext H0 H0') : RE T n σ H0' p Q W x := by
  cases x with
  | ok d e1 t1 => exact fun v G0 G S x r => h v G0 G S (e.trans x) r
  | err c fs => exact h
  | stuck => exact h
theorem RA.mono {Q : List V → Hp → Prop} {x : R (List D)} (h : RA T n σ H0 p Q W x) (e : Ext H0 H0') : RA T n σ H0' p Q W x := by
  cases x with
  | ok d e1 t1 => exact fun v G0 G S x r => h v G0 G S (e.trans x) r
  | err c fs => exact h
  | stuck => exact h
theorem RT.mono {Q : Bool → Hp → Prop} {x : R Bool} (h : RT T n σ H0 p Q W x) (e : Ext H0 H0') : RT T n σ H0' p Q W x := by
  cases x with
  | ok d e1 t1 => exact fun G0 G S x => h G0 G S (e.trans x)
  | err c fs => exact h
  | stuck => exact h
/-- the first of two, whatever the second is -/
theorem bindE {β : Type} {x : R D} {f : D → Env → D → R β} {C : R β → Prop} (he : ∀ c fs, C (.err c fs) → ErrW T n W c fs) (hs : C .stuck → False) (h : C (x.bind f)) :
    RE T n σ H0 p (fun v G => ∃ d e1 t1 G0, SI T n e1 t1 σ G0 G p ∧ Ext H0 G0 ∧ Rep T G0 d v ∧ C (f d e1 t1)) W x := by
  cases x with
  | ok d e1 t1 => exact fun v G0 G S x r => ⟨d, e1, t1, G0, S, x, r, h⟩
  | err c fs => exact he c fs h
  | stuck => exact (hs h).elim
theorem bindA {β : Type} {x : R (List D)} {f : List D → Env → D → R β} {C : R β → Prop} (he : ∀ c fs, C (.err c fs) → ErrW T n W c fs) (hs : C .stuck → False) (h : C (x.bind f)) :
    RA T n σ H0 p (fun vs G => ∃ ds e1 t1 G0, SI T n e1 t1 σ G0 G p ∧ Ext H0 G0 ∧ Reps T G0 ds vs ∧ C (f ds e1 t1)) W x := by
  cases x with
  | ok d e1 t1 => exact fun v G0 G S x r => ⟨d, e1, t1, G0, S, x, r, h⟩
  | err c fs => exact he c fs h
  | stuck => exact (hs h).elim
theorem bindT {β : Type} {x : R Bool} {f : Bool → Env → D → R β} {C : R β → Prop} (he : ∀ c fs, C (.err c fs) → ErrW T n W c fs) (hs : C .stuck → False) (h : C (x.bind f)) :
    RT T n σ H0 p (fun b G => ∃ e1 t1 G0, SI T n e1 t1 σ G0 G p ∧ Ext H0 G0 ∧ C (f b e1 t1)) W x := by
  cases x with
  | ok d e1 t1 => exact fun G0 G S x => ⟨e1, t1, G0, S, x, h⟩
  | err c fs => exact he c fs h
  | stuck => exact (hs h).elim
theorem RE.e {Q : VK} (c : Nat) (fs : List D) (h : RE T n σ H0 p Q W (.err c fs)) : ErrW T n W c fs := h
theorem RE.s {Q : VK} (h : RE T n σ H0 p Q W .stuck) : False := h
theorem RA.e {Q : List V → Hp → Prop} (c : Nat) (fs : List D) (h : RA T n σ H0 p Q W (.err c fs)) : ErrW T n W c fs := h
theorem RA.s {Q : List V → Hp → Prop} (h : RA T n σ H0 p Q W .stuck) : False := h
theorem RT.e {Q : Bool → Hp → Prop} (c : Nat) (fs : List D) (h : RT T n σ H0 p Q W (.err c fs)) : ErrW T n W c fs := h
theorem RT.s {Q : Bool → Hp → Prop} (h : RT T n σ H0 p Q W .stuck) : False := h
theorem RS.e {t : D} {D' : Ends} (c : Nat) (fs : List D) (h : RS T n H0 p t D' W (.err c fs)) : ErrW T n W c fs := h
theorem RS.s {t : D} {D' : Ends} (h : RS T n H0 p t D' W .stuck) : False := h
end
end DI
set_option linter.all false
set_option Elab.async false
set_option maxRecDepth 100000
set_option maxHeartbeats 4000000
/-! DSnd1: the combinators are what the model does: growth, freezing, names, constants, operators, tests. -/
namespace DI
open PySem PySem.Spec PyProof.Rows L2

structure CT where
  ca : Nat → Addr
  cf : Nat → List Str
abbrev tb (X : Cx) (c : CT) : Tb := ⟨X.K, X.w, c.ca, c.cf⟩

/-- only new things have come -/
structure Grow (H0 H H0' H' : Hp) : Prop where
  ext : Ext H H'
  ext0 : Ext H0 H0'
  sub : Ext H0' H'
  old : ∀ a, H a ≠ none → H0' a = H0 a
theorem Grow.refl {H0 H : Hp} (s : Ext H0 H) : Grow H0 H H0 H := ⟨Ext.rfl', Ext.rfl', s, fun _ _ => rfl⟩
theorem Grow.trans {H0 H H1 G H2 K : Hp} (a : Grow H0 H H1 G) (b : Grow H1 G H2 K) : Grow H0 H H2 K :=
  ⟨a.ext.trans b.ext, a.ext0.trans b.ext0, b.sub, fun x h => by
    have h1 : G x ≠ none := by
      cases q : H x with
      | none => exact absurd q h
      | some o => rw [a.ext _ _ q]; exact fun z => nomatch z
    rw [b.old x h1, a.old x h]⟩
theorem Since.grow {n : Ent} {H0 H H0' H' : Hp} (S : Since n H0 H) (g : Grow H0 H H0' H') (ht : ∀ a, n.tp = some a → H a ≠ none) : Since n H0' H' := by
  refine ⟨g.sub, fun a o h k => g.ext _ _ (S.low a o h k), fun a h => ?_, S.ext0.trans g.ext0⟩
  have h1 : H a ≠ none := by
    by_cases q : n.tp = some a
    · exact ht a q
    · cases r : n.He a with
      | none => exact absurd r h
      | some o => rw [S.low a o r q]; exact fun z => nomatch z
  rw [g.old a h1, S.low0 a h]
theorem ne_none {H : Hp} {a : Addr} {o : HO} (h : H a = some o) : H a ≠ none := by rw [h]; exact fun z => nomatch z
theorem SI.tpn {T : Tb} {n : Ent} {e : Env} {t : D} {σ : L2.St} {H0 H : Hp} {p : Addr} (S : SI T n e t σ H0 H p) : ∀ a, n.tp = some a → H a ≠ none := fun a h => by
  obtain ⟨rfl, h1⟩ := S.tpq a h
  obtain ⟨o, ho⟩ := (S.trk h1).1.there
  exact ne_none ho
theorem SlotOk.grow {T : Tb} {n : Ent} {H0 H H0' H' : Hp} {p : Addr} {t : D} {s : Slot} {x : Option (Option V)} (h : SlotOk T n H0 H p t s x) (g : Grow H0 H H0' H') : SlotOk T n H0' H' p t s x := by
  cases s with
  | none => trivial
  | val d => obtain ⟨v, h1, h2⟩ := h; exact ⟨v, h1, h2.ext g.ext0⟩
  | own d =>
    obtain ⟨a, h1, h2, h3, h4, h5⟩ := h
    obtain ⟨o, ho⟩ := h2.there
    exact ⟨a, h1, h2.ext g.ext0 fun _ q => g.ext _ _ q, h3, by rw [g.old a (ne_none ho)]; exact h4, h5⟩
  | trk => exact h
theorem SI.grow {T : Tb} {n : Ent} {e : Env} {t : D} {σ : L2.St} {H0 H H0' H' : Hp} {p : Addr} (S : SI T n e t σ H0 H p) (g : Grow H0 H H0' H') : SI T n e t σ H0' H' p := by
  refine ⟨S.toSince.grow g S.tpn, fun i s h => (S.slot i s h).grow g, S.sep, fun h => ?_, S.tpq, S.len⟩
  obtain ⟨h1, h2, h3⟩ := S.trk h
  obtain ⟨o, ho⟩ := h1.there
  exact ⟨h1.ext g.ext0 fun _ q => g.ext _ _ q, by rw [g.old p (ne_none ho)]; exact h2, h3⟩

/-- new: nobody of the state has it -/
structure Fresh (n : Ent) (e : Env) (t : D) (σ : L2.St) (H0 : Hp) (p a : Addr) : Prop where
  h0 : H0 a = none
  he : n.He a = none
  own : ∀ (i : Nat) (d : D), e[i]? = some (.own d) → σ[i]? ≠ some (some (.ref a))
  tp : t ≠ .non → a ≠ p
theorem SI.fresh {T : Tb} {n : Ent} {e : Env} {t : D} {σ : L2.St} {H0 H : Hp} {p a : Addr} (S : SI T n e t σ H0 H p) (h : H a = none) : Fresh n e t σ H0 p a := by
  refine ⟨?_, ?_, fun i d hi hs => ?_, fun ht z => ?_⟩
  · cases q : H0 a with
    | none => rfl
    | some o => rw [S.sub _ _ q] at h; cases h
  · cases q : n.He a with
    | none => rfl
    | some o =>
      by_cases r : n.tp = some a
      · exact absurd h (S.tpn a r)
      · rw [S.low _ _ q r] at h; cases h
  · obtain ⟨b, h1, h2, _⟩ := S.slot i _ hi
    rw [hs] at h1
    cases h1
    obtain ⟨o, ho⟩ := h2.there
    rw [ho] at h; cases h
  · subst z
    obtain ⟨o, ho⟩ := (S.trk ht).1.there
    rw [ho] at h; cases h
theorem Fresh.grow {n : Ent} {e : Env} {t : D} {σ : L2.St} {H0 H H0' H' : Hp} {p a : Addr} (F : Fresh n e t σ H0 p a) (g : Grow H0 H H0' H') (h : H a ≠ none) : Fresh n e t σ H0' p a :=
  ⟨by rw [g.old a h]; exact F.h0, F.he, F.own, F.tp⟩

section
variable {X : Cx} {c : CT} {pins : List (Addr × Obj)} {σ : L2.St} {H0 H : Hp} {s : Shared} {n : Ent} {e : Env} {t : D} {p : Addr}
/-- a list, an instance, a dict that is new becomes a datum -/
theorem own_data (I : Inv X pins σ H s) {d : D} {a : Addr} (h : OwnAt (tb X c) H0 H d a) (h0 : H0 a = none) (s0 : Ext H0 H) :
    ∃ H', Inv X pins σ H' s ∧ (∀ b, b ≠ a → H' b = H b) ∧ ∃ o, H' a = some o ∧ Rep (tb X c) (upd H0 a o) d (.ref a) := by
  have x0 : ∀ o, Ext H0 (upd H0 a o) := fun o => Ext.upd h0
  cases d with
  | lst ds =>
    obtain ⟨vs, h1, h2⟩ := h
    exact ⟨H, I, fun _ _ => rfl, _, h1, a, vs, rfl, upd_same, h2.ext (x0 _)⟩
  | dic kvs =>
    obtain ⟨kv, h1, h2, h3⟩ := h
    obtain ⟨od, I1⟩ := I.lock h1 trivial
    exact ⟨_, I1, fun b hb => upd_ne hb, _, upd_same, a, kv, rfl, ⟨od, upd_same⟩, h2.ext (x0 _)⟩
  | obj k ds =>
    obtain ⟨dx, fv, h1, h2, h3⟩ := h
    exact ⟨H, I, fun _ _ => rfl, _, h1, a, dx, fv, rfl, upd_same, h2, h3.ext (x0 _)⟩
  | _ => exact h.elim
/-- the new thing is a datum from here on -/
theorem SI.seal {H' : Hp} {a : Addr} {o : HO} {T : Tb} (S : SI T n e t σ H0 H p) (F : Fresh n e t σ H0 p a) (k : ∀ b, b ≠ a → H' b = H b) (ha : H' a = some o) : SI T n e t σ (upd H0 a o) H' p := by
  have x0 : Ext H0 (upd H0 a o) := Ext.upd F.h0
  refine ⟨⟨fun b u h => ?_, fun b u h1 h2 => ?_, fun b h => ?_, S.ext0.trans x0⟩, fun i sl h => ?_, S.sep, fun ht => ?_, S.tpq, S.len⟩
  · by_cases hb : b = a
    · subst hb; rw [upd_same] at h; cases h; exact ha
    · rw [upd_ne hb] at h; rw [k b hb]; exact S.sub _ _ h
  · rw [k b (by rintro rfl; rw [F.he] at h1; cases h1)]; exact S.low b u h1 h2
  · rw [upd_ne (by rintro rfl; exact h F.he)]; exact S.low0 b h
  · have q := S.slot i sl h
    cases sl with
    | none => trivial
    | val d => obtain ⟨v, h1, h2⟩ := q; exact ⟨v, h1, h2.ext x0⟩
    | own d =>
      obtain ⟨b, h1, h2, h3, h4, h5⟩ := q
      have hb : b ≠ a := by rintro rfl; exact F.own i d h h1
      exact ⟨b, h1, h2.ext x0 fun _ z => by rw [k b hb]; exact z, h3, by rw [upd_ne hb]; exact h4, h5⟩
    | trk => exact q
  · obtain ⟨h1, h2, h3⟩ := S.trk ht
    have hb : p ≠ a := fun z => F.tp ht z.symm
    exact ⟨h1.ext x0 fun _ z => by rw [k p hb]; exact z, by rw [upd_ne hb]; exact h2, h3⟩
end

/-! ### new things -/
def RN (T : Tb) (n : Ent) (σ : L2.St) (H0 : Hp) (p : Addr) (Q : VK) (W : XW) : R D → Prop
  | .ok d e t => ∀ a H0' H', SI T n e t σ H0' H' p → Ext H0 H0' → OwnAt T H0' H' d a → Fresh n e t σ H0' p a → Q (.ref a) H'
  | .err c fs => ErrW T n W c fs
  | .stuck => False
def tN (T : Tb) (n : Ent) (W : XW) (m : ME) : TE := fun σ H Q => ∃ e t H0 p, SI T n e t σ H0 H p ∧ RN T n σ H0 p Q W (m e t)
theorem RN.mono {T : Tb} {n : Ent} {σ : L2.St} {H0 H0' : Hp} {p : Addr} {Q : VK} {W : XW} {x : R D} (h : RN T n σ H0 p Q W x) (e : Ext H0 H0') : RN T n σ H0' p Q W x := by
  cases x with
  | ok d e1 t1 => exact fun v G0 G S x r => h v G0 G S (e.trans x) r
  | err c fs => exact h
  | stuck => exact h
theorem RN.e {T : Tb} {n : Ent} {σ : L2.St} {H0 : Hp} {p : Addr} {Q : VK} {W : XW} (c : Nat) (fs : List D) (h : RN T n σ H0 p Q W (.err c fs)) : ErrW T n W c fs := h
theorem RN.s {T : Tb} {n : Ent} {σ : L2.St} {H0 : Hp} {p : Addr} {Q : VK} {W : XW} (h : RN T n σ H0 p Q W .stuck) : False := h

/-! ### the context -/
/-- what an expression's place must have -/
structure Ok (X : Cx) (k : Nat) (W : XW) : Prop where
  calm : X.calm = true
  room : Room k X.A
  nd : X.N.Nodup
  tk : Takes X fun cls d _ H => W cls d H
section
variable {X : Cx} {c : CT} {n : Ent} {W : XW} {k : Nat}
abbrev PM (X : Cx) (c : CT) (n : Ent) (W : XW) (ex : Expr) (m : ME) : Prop := PE X ex (tE (tb X c) n W m)
abbrev PNw (X : Cx) (c : CT) (n : Ent) (W : XW) (ex : Expr) (m : ME) : Prop := PE X ex (tN (tb X c) n W m)
abbrev PMs (X : Cx) (c : CT) (n : Ent) (W : XW) (es : List Expr) (m : ML) : Prop := PA X es (tA (tb X c) n W m)
abbrev PB (X : Cx) (c : CT) (n : Ent) (W : XW) (ex : Expr) (m : ME) : Prop := PT X ex (tT (tb X c) n W fun e t => asB (m e t))
abbrev PSt (X : Cx) (c : CT) (n : Ent) (W : XW) (st : Stmt) (m : MS) : Prop := PS X st (tS (tb X c) n W m)
abbrev PSts (X : Cx) (c : CT) (n : Ent) (W : XW) (st : List Stmt) (m : MS) : Prop := PSs X st (tS (tb X c) n W m)

/-- what is new is a datum too -/
theorem PM.of_new {ex : Expr} {m : ME} (h : PNw X c n W ex m) : PM X c n W ex m := by
  refine ⟨fun pins s σ H Q I ⟨e, t, H0, p, S, q⟩ => ?_⟩
  refine thn (h.run pins s σ H (fun v H1 => ∃ a d e1 t1 H01, v = .ref a ∧ SI (tb X c) n e1 t1 σ H01 H1 p ∧ Ext H0 H01 ∧ OwnAt (tb X c) H01 H1 d a ∧ Fresh n e1 t1 σ H01 p a ∧ RE (tb X c) n σ H01 p Q W (.ok d e1 t1)) I ⟨e, t, H0, p, S, ?_⟩) fun v s1 ⟨x, H1, I1, r1, a, d, e1, t1, H01, ex, S1, x1, o1, F1, q1⟩ => ?_
  · cases hx : m e t with
    | ok d e1 t1 => rw [hx] at q; exact fun a G0 G S1 x1 o1 F1 => ⟨a, d, e1, t1, G0, rfl, S1, x1, o1, F1, q.mono x1⟩
    | err c fs => rw [hx] at q; exact q
    | stuck => rw [hx] at q; exact q
  · subst ex
    obtain ⟨H2, I2, k2, o, ho, r2⟩ := own_data I1 o1 F1.h0 S1.sub
    exact ⟨.ref a, H2, I2, r1, q1 _ _ _ (S1.seal F1 k2 ho) (Ext.upd F1.h0) r2⟩

/-! ### constants and names -/
theorem m_int {i j pos} : PM X c n W (.Constant (.int i) j pos) (mConst (.int i)) :=
  ⟨fun pins s σ H Q I ⟨e, t, H0, p, S, q⟩ => pe_int.run pins s σ H Q I (q _ _ _ S Ext.rfl' rfl)⟩
theorem m_str {x j pos} : PM X c n W (.Constant (.str x) j pos) (mConst (.str x)) :=
  ⟨fun pins s σ H Q I ⟨e, t, H0, p, S, q⟩ => pe_str.run pins s σ H Q I (q _ _ _ S Ext.rfl' rfl)⟩
theorem m_bl {b j pos} : PM X c n W (.Constant (.bool b) j pos) (mConst (.bl b)) :=
  ⟨fun pins s σ H Q I ⟨e, t, H0, p, S, q⟩ => pe_bl.run pins s σ H Q I (q _ _ _ S Ext.rfl' rfl)⟩
theorem m_non {j pos} : PM X c n W (.Constant .none j pos) (mConst .non) :=
  ⟨fun pins s σ H Q I ⟨e, t, H0, p, S, q⟩ => pe_non.run pins s σ H Q I (q _ _ _ S Ext.rfl' rfl)⟩
/-- a name of the module that holds a datum of the written part -/
theorem m_glob {x : Str} {d : D} {v : V} {u : Value} {pos : Pos} (hg : Gl X x) (hm : X.mg x = some u) (r : RelV v u) (hr : Rep (tb X c) (fun _ => none) d v) (hd : (x == ("__debug__" : Str)) = false) : PM X c n W (.Name x pos) (mConst d) :=
  ⟨fun pins s σ H Q I ⟨e, t, H0, p, S, q⟩ => (pe_glob hg hm r hd).run pins s σ H Q I (q _ _ _ S Ext.rfl' (hr.ext fun _ _ z => by cases z))⟩
theorem getElem?_set_self' {α : Type} {l : List α} {i : Nat} {a : α} (h : i < l.length) : (l.set i a)[i]? = some a := by simp [h]
theorem SI.val {T : Tb} {e : Env} {t : D} {σ : L2.St} {H0 H : Hp} {p : Addr} {i : Nat} {d : D} {v : V} (S : SI T n e t σ H0 H p) (hs : σ[i]? = some (some v)) (r : Rep T H0 d v) : SI T n (e.set i (.val d)) t σ H0 H p := by
  refine ⟨S.toSince, fun j s h => ?_, fun j k dj dk a h1 h2 h3 h4 => ?_, S.trk, S.tpq, by rw [List.length_set]; exact S.len⟩
  · by_cases hj : i = j
    · subst hj
      by_cases hl : i < e.length
      · rw [getElem?_set_self' hl] at h
        cases h
        exact ⟨v, hs, r⟩
      · rw [List.getElem?_eq_none (by simpa using hl)] at h
        cases h
    · rw [List.getElem?_set_ne hj] at h
      exact S.slot j s h
  · have n1 : i ≠ j := by
      rintro rfl
      by_cases hl : i < e.length
      · rw [getElem?_set_self' hl] at h1; cases h1
      · rw [List.getElem?_eq_none (by simpa using hl)] at h1; cases h1
    have n2 : i ≠ k := by
      rintro rfl
      by_cases hl : i < e.length
      · rw [getElem?_set_self' hl] at h2; cases h2
      · rw [List.getElem?_eq_none (by simpa using hl)] at h2; cases h2
    rw [List.getElem?_set_ne n1] at h1
    rw [List.getElem?_set_ne n2] at h2
    exact S.sep j k dj dk a h1 h2 h3 h4
theorem m_var {i : Nat} {x : Str} {pos : Pos} (hN : X.N[i]? = some x) (hv : Vis X.env.scope x) (hd : (x == ("__debug__" : Str)) = false) (hcd : (x == ("__classdict__" : Str)) = false) : PM X c n W (.Name x pos) (mVar i) := by
  refine ⟨fun pins s σ H Q I ⟨e, t, H0, p, S, q⟩ => ?_⟩
  cases hx : e[i]? with
  | none => unfold mVar at q; rw [hx] at q; exact q.elim
  | some sl =>
    have q2 := S.slot i sl hx
    cases sl with
    | none => unfold mVar at q; rw [hx] at q; exact q.elim
    | trk => unfold mVar at q; rw [hx] at q; exact q.elim
    | val d =>
      unfold mVar at q; rw [hx] at q
      obtain ⟨v, h1, h2⟩ := q2
      exact (pe_var hN hv hd hcd).run pins s σ H Q I ⟨v, h1, q _ _ _ S Ext.rfl' h2⟩
    | own d =>
      unfold mVar at q; rw [hx] at q
      obtain ⟨a, h1, h2, h3, h4, h5⟩ := q2
      refine thn ((pe_var hN hv hd hcd).run pins s σ H (fun v H1 => v = .ref a ∧ H1 = H) I ⟨_, h1, rfl, rfl⟩) fun v s1 ⟨y, H1, I1, r1, e1, e2⟩ => ?_
      subst e1 e2
      obtain ⟨H2, I2, k2, o, ho, r2⟩ := own_data I1 h2 h4 S.sub
      refine ⟨.ref a, H2, I2, r1, q _ _ _ ?_ (Ext.upd h4) r2⟩
      -- the slot is data now
      have x0 : Ext H0 (upd H0 a o) := Ext.upd h4
      have hil : i < e.length := (List.getElem?_eq_some_iff.mp hx).1
      refine ⟨⟨fun b u h => ?_, fun b u z1 z2 => ?_, fun b h => ?_, S.ext0.trans x0⟩, fun j sl h => ?_, fun j k dj dk b z1 z2 z3 z4 => ?_, fun ht => ?_, S.tpq, by rw [List.length_set]; exact S.len⟩
      · by_cases hb : b = a
        · subst hb; rw [upd_same] at h; cases h; exact ho
        · rw [upd_ne hb] at h; rw [k2 b hb]; exact S.sub _ _ h
      · rw [k2 b (by rintro rfl; rw [h3] at z1; cases z1)]; exact S.low b u z1 z2
      · rw [upd_ne (by rintro rfl; exact h h3)]; exact S.low0 b h
      · by_cases hj : i = j
        · subst hj
          rw [getElem?_set_self' hil] at h
          cases h
          exact ⟨_, h1, r2⟩
        · rw [List.getElem?_set_ne hj] at h
          have q3 := S.slot j sl h
          cases sl with
          | none => trivial
          | val d => obtain ⟨v, y1, y2⟩ := q3; exact ⟨v, y1, y2.ext x0⟩
          | own d' =>
            obtain ⟨b, y1, y2, y3, y4, y5⟩ := q3
            have hb : b ≠ a := by rintro rfl; exact hj (S.sep i j d d' b hx h h1 y1)
            exact ⟨b, y1, y2.ext x0 fun _ z => by rw [k2 b hb]; exact z, y3, by rw [upd_ne hb]; exact y4, y5⟩
          | trk => exact q3
      · have n1 : i ≠ j := by rintro rfl; rw [getElem?_set_self' hil] at z1; cases z1
        have n2 : i ≠ k := by rintro rfl; rw [getElem?_set_self' hil] at z2; cases z2
        rw [List.getElem?_set_ne n1] at z1
        rw [List.getElem?_set_ne n2] at z2
        exact S.sep j k dj dk b z1 z2 z3 z4
      · obtain ⟨y1, y2, y3⟩ := S.trk ht
        have hb : p ≠ a := fun z => h5 ht z.symm
        exact ⟨y1.ext x0 fun _ z => by rw [k2 p hb]; exact z, by rw [upd_ne hb]; exact y2, y3⟩

/-! ### operators by values -/
/-- f of two data is the datum p -/
def Op2 (X : Cx) (c : CT) (f : Value → Value → Sem Value) (g : D → D → Option D) : Prop :=
  ∀ (pins : List (Addr × Obj)) (s : Shared) (σ : L2.St) (H0 H : Hp) (x y : V) (v u : Value) (dx dy d : D) (Q : VK), Inv X pins σ H s → Ext H0 H → RelV x v → RelV y u → Rep (tb X c) H0 dx x → Rep (tb X c) H0 dy y → g dx dy = some d →
    (∀ z H0' H', Grow H0 H H0' H' → Rep (tb X c) H0' d z → Q z H') → wpAny (model X.prog X.w) X.A (f v u) (EP X pins σ Q) X.xe s
theorem m2_run {a b : Expr} {ma mb : ME} {g : D → D → Option D} {f : Value → Value → Sem Value} (hf : Op2 X c f g) (ha : PM X c n W a ma) (hb : PM X c n W b mb) {pins : List (Addr × Obj)} {s : Shared} {σ : L2.St} {H : Hp} {Q : VK} (I : Inv X pins σ H s) (q : tE (tb X c) n W (m2 g ma mb) σ H Q) :
    wpAny (model X.prog X.w) X.A (eval a X.env) (fun v s₁ => wpAny (model X.prog X.w) X.A (eval b X.env) (fun u s₂ => wpAny (model X.prog X.w) X.A (f v u) (EP X pins σ Q) X.xe s₂) X.xe s₁) X.xe s := by
  obtain ⟨e, t, H0, p, S, q⟩ := q
  refine thn (ha.run pins s σ H _ I ⟨e, t, H0, p, S, bindE (C := RE (tb X c) n σ H0 p Q W) RE.e RE.s q⟩) fun v s1 ⟨x, H1, I1, r1, d1, e1, t1, G1, S1, x1, R1, q1⟩ => ?_
  refine thn (hb.run pins s1 σ H1 _ I1 ⟨e1, t1, G1, p, S1, bindE (C := RE (tb X c) n σ G1 p Q W) RE.e RE.s (q1.mono x1)⟩) fun u s2 ⟨y, H2, I2, r2, d2, e2, t2, G2, S2, x2, R2, q2⟩ => ?_
  cases hg : g d1 d2 with
  | none => rw [hg] at q2; exact q2.elim
  | some d =>
    rw [hg] at q2
    have q3 := q2
    exact hf pins s2 σ G2 H2 x y v u d1 d2 d Q I2 S2.sub r1 r2 (R1.ext x2) R2 hg fun z H0' H' g r => q3 z H0' H' (S2.grow g) (x2.trans g.ext0) r
theorem m_bin {a b : Expr} {ma mb : ME} {g : D → D → Option D} {op : Operator} {pos : Pos} (hf : Op2 X c (binaryOp op) g) (ha : PM X c n W a ma) (hb : PM X c n W b mb) : PM X c n W (.BinOp a op b pos) (m2 g ma mb) :=
  ⟨fun pins s σ H Q I q => wpAny_BinOp (m2_run hf ha hb I q)⟩
theorem m_cmp {a b : Expr} {ma mb : ME} {g : D → D → Option D} {op : CmpOp} {pos : Pos} (hf : Op2 X c (compareOp op) g) (ha : PM X c n W a ma) (hb : PM X c n W b mb) (hm : behindInMarks op b = false) : PM X c n W (.Compare a [op] [b] pos) (m2 g ma mb) :=
  ⟨fun pins s σ H Q I q => wpAny_Compare1 (m2_run hf ha hb I q) hm⟩
/-- by an OpR rule -/
theorem Op2.of {f : Value → Value → Sem Value} {r : R2} {g : D → D → Option D} (h : OpR X f r)
    (hg : ∀ (H0 H : Hp) (x y : V) (dx dy d : D) (Q : VK), Ext H0 H → Rep (tb X c) H0 dx x → Rep (tb X c) H0 dy y → g dx dy = some d → (∀ z H0' H', Grow H0 H H0' H' → Rep (tb X c) H0' d z → Q z H') → r x y H Q) : Op2 X c f g :=
  fun pins s σ H0 H x y v u dx dy d Q I x0 rx ry Rx Ry e q => h pins s σ H x y v u Q I rx ry (hg H0 H x y dx dy d Q x0 Rx Ry e q)

/-! ### tests -/
theorem asB_bind {β : Type} (x : R D) (f : Bool → Env → D → R β) : (asB x).bind f = x.bind fun d e t => (match d with | .bl b => f b e t | _ => .stuck) := by
  cases x with
  | ok d e t => cases d <;> rfl
  | err c fs => rfl
  | stuck => rfl
/-- an expression of no form of its own, as a test -/
theorem b_of {ex : Expr} {m : ME} (h : PM X c n W ex m) (he : ∀ whole, isTrue ex X.env whole = (do let v ← whole; standAt ex.pos; holding [v] (truthy v))) : PB X c n W ex m := by
  refine ⟨fun pins s σ H Q I ⟨e, t, H0, p, S, q⟩ => ?_⟩
  refine isTrue_plain (thn (h.run pins s σ H (fun v H1 => ∃ b, v = .bl b ∧ Q b H1) I ⟨e, t, H0, p, S, ?_⟩) fun v s1 ⟨x, H1, I1, r1, b, e1, q1⟩ => ?_) (he _)
  · have q : RT (tb X c) n σ H0 p Q W (asB (m e t)) := q
    cases hx : m e t with
    | ok d e1 t1 =>
      rw [hx] at q
      cases d with
      | bl b => exact fun v G0 G S x r => ⟨b, r, q G0 G S x⟩
      | _ => exact q.elim
    | err c fs => rw [hx] at q; exact q
    | stuck => rw [hx] at q; exact q
  · subst e1
    cases r1
    exact wpAny_truthy_bool ⟨H1, I1, q1⟩
theorem b_cmp {a b : Expr} {ma mb : ME} {g : D → D → Option D} {op : CmpOp} {pos : Pos} (hf : Op2 X c (compareOp op) g) (ha : PM X c n W a ma) (hb : PM X c n W b mb) (hm : behindInMarks op b = false) : PB X c n W (.Compare a [op] [b] pos) (m2 g ma mb) := by
  refine ⟨fun pins s σ H Q I ⟨e, t, H0, p, S, q⟩ => ?_⟩
  refine wpAny_isTrue_Compare1 (thn (m2_run hf ha hb (Q := fun v H1 => ∃ b, v = .bl b ∧ Q b H1) I ⟨e, t, H0, p, S, ?_⟩) fun v s1 h1 => thn h1 fun u s2 h2 => thn h2 fun z s3 ⟨x, H1, I1, r1, b, e1, q1⟩ => ?_) hm
  · have q : RT (tb X c) n σ H0 p Q W (asB (m2 g ma mb e t)) := q
    cases hx : m2 g ma mb e t with
    | ok d e1 t1 =>
      rw [hx] at q
      cases d with
      | bl b => exact fun v G0 G S x r => ⟨b, r, q G0 G S x⟩
      | _ => exact q.elim
    | err c fs => rw [hx] at q; exact q
    | stuck => rw [hx] at q; exact q
  · subst e1
    cases r1
    exact wpAny_truthy_bool ⟨H1, I1, q1⟩
theorem b_not {a : Expr} {ma : ME} {pos : Pos} (ha : PB X c n W a ma) : PB X c n W (.UnaryOp .Not a pos) (mNot ma) := by
  refine ⟨fun pins s σ H Q I ⟨e, t, H0, p, S, q⟩ => ?_⟩
  refine isTrue_not (ha.run pins s σ H (fun b H1 => Q (!b) H1) I ⟨e, t, H0, p, S, ?_⟩)
  have q : RT (tb X c) n σ H0 p Q W (asB (mNot ma e t)) := q
  unfold mNot at q
  show RT (tb X c) n σ H0 p _ W (asB (ma e t))
  cases hx : asB (ma e t) with
  | ok b e1 t1 => rw [hx] at q; exact q
  | err c fs => rw [hx] at q; exact q
  | stuck => rw [hx] at q; exact q
theorem asB_and (x : R Bool) : asB (x.bind fun b e t => .ok (.bl b) e t) = x := by cases x <;> rfl
theorem asB_assoc {α : Type} (x : R α) (f : α → Env → D → R D) : asB (x.bind f) = x.bind fun a e t => asB (f a e t) := by cases x <;> rfl
theorem RT.bl {T : Tb} {σ : L2.St} {H0 H0' H' : Hp} {p : Addr} {Q : Bool → Hp → Prop} {b : Bool} {e : Env} {t : D} (q : RT T n σ H0 p Q W (asB (.ok (.bl b) e t))) (S : SI T n e t σ H0' H' p) (x : Ext H0 H0') : Q b H' := q _ _ S x
theorem b_and1 {a : Expr} {ma : ME} {pos : Pos} (ha : PB X c n W a ma) : PW X (.BoolOp .And [a] pos) (tT (tb X c) n W fun e t => asB (ma e t)) := pw_and1 ha
theorem w_and {a b : Expr} {rest : List Expr} {ma mb : ME} {pos : Pos} (ha : PB X c n W a ma) (hb : PW X (.BoolOp .And (b :: rest) pos) (tT (tb X c) n W fun e t => asB (mb e t))) :
    PW X (.BoolOp .And (a :: b :: rest) pos) (tT (tb X c) n W fun e t => asB (mAnd ma mb e t)) := by
  refine ⟨fun wh pins s σ H Q I ⟨e, t, H0, p, S, q⟩ => ?_⟩
  refine (pw_and ha hb).run wh pins s σ H Q I ⟨e, t, H0, p, S, ?_⟩
  have q : RT (tb X c) n σ H0 p Q W (asB (mAnd ma mb e t)) := q
  unfold mAnd at q
  show RT (tb X c) n σ H0 p _ W (asB (ma e t))
  cases hx : asB (ma e t) with
  | ok b1 e1 t1 =>
    rw [hx] at q
    intro G0 G S1 x1
    cases b1 with
    | true =>
      rw [R.bind_ok, if_pos rfl, asB_and] at q
      show (if true = true then _ else _)
      rw [if_pos rfl]
      exact ⟨e1, t1, G0, p, S1, q.mono x1⟩
    | false =>
      show (if false = true then _ else _)
      rw [if_neg Bool.false_ne_true]
      exact q _ _ S1 x1
  | err c fs => rw [hx] at q; exact q
  | stuck => rw [hx] at q; exact q
theorem w_or {a b : Expr} {rest : List Expr} {ma mb : ME} {pos : Pos} (ha : PB X c n W a ma) (hb : PW X (.BoolOp .Or (b :: rest) pos) (tT (tb X c) n W fun e t => asB (mb e t))) :
    PW X (.BoolOp .Or (a :: b :: rest) pos) (tT (tb X c) n W fun e t => asB (mOr ma mb e t)) := by
  refine ⟨fun wh pins s σ H Q I ⟨e, t, H0, p, S, q⟩ => ?_⟩
  refine (pw_or ha hb).run wh pins s σ H Q I ⟨e, t, H0, p, S, ?_⟩
  have q : RT (tb X c) n σ H0 p Q W (asB (mOr ma mb e t)) := q
  unfold mOr at q
  show RT (tb X c) n σ H0 p _ W (asB (ma e t))
  cases hx : asB (ma e t) with
  | ok b1 e1 t1 =>
    rw [hx] at q
    intro G0 G S1 x1
    cases b1 with
    | true =>
      show (if true = true then _ else _)
      rw [if_pos rfl]
      exact q _ _ S1 x1
    | false =>
      rw [R.bind_ok, if_neg Bool.false_ne_true, asB_and] at q
      show (if false = true then _ else _)
      rw [if_neg Bool.false_ne_true]
      exact ⟨e1, t1, G0, p, S1, q.mono x1⟩
  | err c fs => rw [hx] at q; exact q
  | stuck => rw [hx] at q; exact q
/-- .. as values -/
theorem bl_of {x : R D} {σ : L2.St} {H0 : Hp} {p : Addr} {Q : VK} {T : Tb} {f : Bool → Env → D → R D} (q : RE T n σ H0 p Q W ((asB x).bind f)) :
    RE T n σ H0 p (fun v G => ∃ b e1 t1 G0, v = .bl b ∧ SI T n e1 t1 σ G0 G p ∧ Ext H0 G0 ∧ RE T n σ G0 p Q W (f b e1 t1)) W x := by
  cases x with
  | ok d e1 t1 =>
    cases d with
    | bl b => exact fun v G0 G S x r => ⟨b, e1, t1, G0, r, S, x, RE.mono q x⟩
    | _ => exact q.elim
  | err c fs => exact q
  | stuck => exact q
theorem m_and {a b : Expr} {rest : List Expr} {ma mb : ME} {pos : Pos} (ha : PM X c n W a ma) (hb : PM X c n W (.BoolOp .And (b :: rest) pos) mb) : PM X c n W (.BoolOp .And (a :: b :: rest) pos) (mAnd ma mb) := by
  refine ⟨fun pins s σ H Q I ⟨e, t, H0, p, S, q⟩ => ?_⟩
  refine BoolOp_and (thn (ha.run pins s σ H _ I ⟨e, t, H0, p, S, bl_of q⟩) fun v s1 ⟨x, H1, I1, r1, b1, e1, t1, G1, ex, S1, x1, q1⟩ => ?_)
  subst ex
  cases r1
  refine wpAny_truthy_bool ?_
  cases b1 with
  | true =>
    rw [if_pos rfl] at q1
    refine thn (hb.run pins s1 σ H1 _ I1 ⟨e1, t1, G1, p, S1, bl_of q1⟩) fun v s2 ⟨x, H2, I2, r2, b2, e2, t2, G2, ex, S2, x2, q2⟩ => ?_
    subst ex
    exact ⟨.bl b2, H2, I2, r2, q2 _ _ _ S2 Ext.rfl' rfl⟩
  | false => exact ⟨.bl false, H1, I1, rfl, q1 _ _ _ S1 Ext.rfl' rfl⟩
theorem m_or {a b : Expr} {rest : List Expr} {ma mb : ME} {pos : Pos} (ha : PM X c n W a ma) (hb : PM X c n W (.BoolOp .Or (b :: rest) pos) mb) : PM X c n W (.BoolOp .Or (a :: b :: rest) pos) (mOr ma mb) := by
  refine ⟨fun pins s σ H Q I ⟨e, t, H0, p, S, q⟩ => ?_⟩
  refine BoolOp_or (thn (ha.run pins s σ H _ I ⟨e, t, H0, p, S, bl_of q⟩) fun v s1 ⟨x, H1, I1, r1, b1, e1, t1, G1, ex, S1, x1, q1⟩ => ?_)
  subst ex
  cases r1
  refine wpAny_truthy_bool ?_
  cases b1 with
  | false =>
    rw [if_neg Bool.false_ne_true] at q1
    refine thn (hb.run pins s1 σ H1 _ I1 ⟨e1, t1, G1, p, S1, bl_of q1⟩) fun v s2 ⟨x, H2, I2, r2, b2, e2, t2, G2, ex, S2, x2, q2⟩ => ?_
    subst ex
    exact ⟨.bl b2, H2, I2, r2, q2 _ _ _ S2 Ext.rfl' rfl⟩
  | true => exact ⟨.bl true, H1, I1, rfl, q1 _ _ _ S1 Ext.rfl' rfl⟩
theorem m_not {a : Expr} {ma : ME} {pos : Pos} (ha : PM X c n W a ma) : PM X c n W (.UnaryOp .Not a pos) (mNot ma) := by
  refine ⟨fun pins s σ H Q I ⟨e, t, H0, p, S, q⟩ => ?_⟩
  refine UnaryOp_ (thn (ha.run pins s σ H _ I ⟨e, t, H0, p, S, bl_of q⟩) fun v s1 ⟨x, H1, I1, r1, b1, e1, t1, G1, ex, S1, x1, q1⟩ => ?_)
  subst ex
  cases r1
  exact not_of (wpAny_truthy_bool ⟨.bl (!b1), H1, I1, rfl, q1 _ _ _ S1 Ext.rfl' rfl⟩)
theorem m_one {a : Expr} {ma : ME} {op} {pos : Pos} (ha : PM X c n W a ma) : PM X c n W (.BoolOp op [a] pos) ma := pe_one ha
theorem m_ifexp {x a b : Expr} {mx ma mb : ME} {pos : Pos} (hx : PB X c n W x mx) (ha : PM X c n W a ma) (hb : PM X c n W b mb) : PM X c n W (.IfExp x a b pos) (mIf mx ma mb) := by
  refine ⟨fun pins s σ H Q I ⟨e, t, H0, p, S, q⟩ => ?_⟩
  refine wpAny_IfExp (thn (hx.run pins s σ H _ I ⟨e, t, H0, p, S, bindT (C := RE (tb X c) n σ H0 p Q W) RE.e RE.s q⟩) fun d s1 ⟨H1, I1, e1, t1, G1, S1, x1, q1⟩ => ?_)
  cases d with
  | true => exact ha.run pins s1 σ H1 Q I1 ⟨e1, t1, G1, p, S1, RE.mono (by simpa using q1) x1⟩
  | false => exact hb.run pins s1 σ H1 Q I1 ⟨e1, t1, G1, p, S1, RE.mono (by simpa using q1) x1⟩

/-! ### arguments and displays -/
theorem a_nil : PMs X c n W [] (mArgs []) := ⟨fun pos pins s σ H Q I ⟨e, t, H0, p, S, q⟩ => pa_nil.run pos pins s σ H Q I (q _ _ _ S Ext.rfl' rfl)⟩
theorem a_cons {a : Expr} {es : List Expr} {ma : ME} {ms : List ME} (ha : PM X c n W a ma) (hr : PMs X c n W es (mArgs ms)) (hs : starEach (a :: es) X.env = (false, eval a X.env) :: starEach es X.env) : PMs X c n W (a :: es) (mArgs (ma :: ms)) := by
  refine ⟨fun pos pins s σ H Q I ⟨e, t, H0, p, S, q⟩ => ?_⟩
  refine (pa_cons ha hr hs).run pos pins s σ H Q I ⟨e, t, H0, p, S, ?_⟩
  have h1 := bindE (T := tb X c) (n := n) (σ := σ) (H0 := H0) (p := p) (W := W) (C := RA (tb X c) n σ H0 p Q W) RA.e RA.s q
  cases hx : ma e t with
  | ok d e1 t1 =>
    rw [hx] at h1
    intro v G0 G S1 x1 R1
    obtain ⟨d', e1', t1', G0', S1', x1', R1', h2⟩ := h1 v G0 G S1 x1 R1
    refine ⟨e1', t1', G0', p, S1', ?_⟩
    have h3 := bindA (T := tb X c) (n := n) (σ := σ) (H0 := G0') (p := p) (W := W) (C := RA (tb X c) n σ G0' p Q W) RA.e RA.s (RA.mono h2 x1')
    cases hy : mArgs ms e1' t1' with
    | ok ds e2 t2 =>
      rw [hy] at h3
      intro vs K0 K S2 x2 R2
      obtain ⟨ds', e2', t2', K0', S2', x2', R2', h4⟩ := h3 vs K0 K S2 x2 R2
      exact h4 _ _ _ S2' x2' ⟨v, vs, rfl, R1'.ext x2', R2'⟩
    | err c fs => rw [hy] at h3; exact h3
    | stuck => rw [hy] at h3; exact h3
  | err c fs => rw [hx] at h1; exact h1
  | stuck => rw [hx] at h1; exact h1
theorem m_tup {es : List Expr} {ms : List ME} {x1} {pos : Pos} (h : PMs X c n W es (mArgs ms)) (hl : ms.length ≤ sizeLine) (hlen : ∀ e t ds e' t', mArgs ms e t = .ok ds e' t' → ds.length = ms.length) : PM X c n W (.Tuple es x1 pos) (mTup ms) := by
  refine ⟨fun pins s σ H Q I ⟨e, t, H0, p, S, q⟩ => ?_⟩
  refine (pe_tup h).run pins s σ H Q I ⟨e, t, H0, p, S, ?_⟩
  have q : RE (tb X c) n σ H0 p Q W ((mArgs ms e t).bind fun ds e t => .ok (.tup ds) e t) := q
  cases hx : mArgs ms e t with
  | ok ds e1 t1 =>
    rw [hx] at q
    intro vs G0 G S1 x1 R1
    have h1 : vs.length ≤ sizeLine := by rw [← R1.length, hlen _ _ _ _ _ hx]; exact hl
    refine ⟨h1, fun a ha => q _ (upd G0 a (.tup vs)) _ (S1.grow (Grow.mk (Ext.upd ha) (Ext.upd (S1.fresh ha).h0) ?_ fun b hb => ?_)) (x1.trans (Ext.upd (S1.fresh ha).h0)) ⟨a, vs, rfl, SqT.of upd_same, R1.ext (Ext.upd (S1.fresh ha).h0)⟩⟩
    · intro b o hb
      by_cases e : b = a
      · subst e; rw [upd_same] at hb ⊢; exact hb
      · rw [upd_ne e] at hb ⊢; exact S1.sub _ _ hb
    · exact upd_ne (by rintro rfl; exact hb ha)
  | err c fs => rw [hx] at q; exact q
  | stuck => rw [hx] at q; exact q
/-- a new object is laid -/
theorem SI.lay {T : Tb} {e : Env} {t : D} {σ : L2.St} {H0 H : Hp} {p a : Addr} {o : HO} (S : SI T n e t σ H0 H p) (ha : H a = none) : SI T n e t σ H0 (upd H a o) p ∧ Fresh n e t σ H0 p a :=
  ⟨S.grow ⟨Ext.upd ha, Ext.rfl', S.sub.trans (Ext.upd ha), fun _ _ => rfl⟩, S.fresh ha⟩
theorem m_lst {es : List Expr} {ms : List ME} {pos : Pos} (h : PMs X c n W es (mArgs ms)) (hl : ms.length ≤ sizeLine) (hlen : ∀ e t ds e' t', mArgs ms e t = .ok ds e' t' → ds.length = ms.length) : PNw X c n W (.List es pos) (mLst ms) := by
  refine ⟨fun pins s σ H Q I ⟨e, t, H0, p, S, q⟩ => ?_⟩
  refine (pe_lst h).run pins s σ H Q I ⟨e, t, H0, p, S, ?_⟩
  have q : RN (tb X c) n σ H0 p Q W ((mArgs ms e t).bind fun ds e t => .ok (.lst ds) e t) := q
  cases hx : mArgs ms e t with
  | ok ds e1 t1 =>
    rw [hx] at q
    intro vs G0 G S1 x1 R1
    have h1 : vs.length ≤ sizeLine := by rw [← R1.length, hlen _ _ _ _ _ hx]; exact hl
    refine ⟨h1, fun a ha => ?_⟩
    obtain ⟨S2, F2⟩ := S1.lay (o := .lst vs) ha
    exact q a _ _ S2 x1 ⟨vs, upd_same, R1⟩ F2
  | err c fs => rw [hx] at q; exact q
  | stuck => rw [hx] at q; exact q
theorem mArgs_len : ∀ (ms : List ME) (e : Env) (t : D) (ds : List D) (e' : Env) (t' : D), mArgs ms e t = .ok ds e' t' → ds.length = ms.length
  | [], e, t, ds, e', t', h => by
    have h : R.ok [] e t = R.ok ds e' t' := h
    cases h; rfl
  | m :: ms, e, t, ds, e', t', h => by
    have h : (m e t).bind (fun d e t => (mArgs ms e t).bind fun ds e t => .ok (d :: ds) e t) = .ok ds e' t' := h
    cases hx : m e t with
    | ok d e1 t1 =>
      rw [hx] at h
      have h : (mArgs ms e1 t1).bind (fun ds e t => .ok (d :: ds) e t) = .ok ds e' t' := h
      cases hy : mArgs ms e1 t1 with
      | ok ds1 e2 t2 =>
        rw [hy] at h
        have h : R.ok (d :: ds1) e2 t2 = .ok ds e' t' := h
        cases h
        rw [List.length_cons, List.length_cons, mArgs_len ms _ _ _ _ _ hy]
      | err c fs => rw [hy] at h; cases h
      | stuck => rw [hy] at h; cases h
    | err c fs => rw [hx] at h; cases h
    | stuck => rw [hx] at h; cases h
end
end DI
set_option linter.all false
set_option Elab.async false
set_option maxRecDepth 100000
set_option maxHeartbeats 4000000
/-! DSnd2: calls of defs, classes, methods; attributes. -/
namespace DI
open PySem PySem.Spec PyProof.Rows L2

def tpOf (t : D) (p : Addr) : Option Addr := match t with
  | .non => none
  | _ => some p
theorem tpOf_some {t : D} {p : Addr} (h : t ≠ .non) : tpOf t p = some p := by
  cases t with
  | non => exact absurd rfl h
  | _ => rfl
/-- what is to be shown of a def's outcome -/
def RF (T : Tb) (n : Ent) (p : Addr) (Q : VK) (E : XW) : Out → Prop
  | .ok d t' => ∀ v H0' H', Since n H0' H' → (n.tp = some p → OwnAt T H0' H' t' p ∧ H0' p = none ∧ t' ≠ .non) → Rep T H0' d v → Q v H'
  | .err c fs => ErrW T n E c fs
  | .stuck => False
/-- the promise of a def that does f -/
def spD (T : Tb) (ar : Nat) (f : Fn) : Sp := fun vs H Q E => vs.length = ar ∧ ∃ ds H0 t p, Ext H0 H ∧ Paired (RepT T p H0) ds vs ∧ (t ≠ .non → OwnAt T H0 H t p ∧ H0 p = none) ∧ (.trk ∈ ds → t ≠ .non) ∧ RF T ⟨H, H0, tpOf t p⟩ p Q E (f ds t)
theorem Reps.paired {T : Tb} {p : Addr} {H0 : Hp} : ∀ {ds : List D} {vs : List V}, Reps T H0 ds vs → Paired (RepT T p H0) ds vs
  | [], vs, h => by have h : vs = [] := h; subst h; exact .nil
  | d :: ds, vs, h => by
    obtain ⟨v, r, rfl, h2, h3⟩ := h
    exact .cons (RepT.of h2) (Reps.paired h3)
theorem Reps.noTrk {T : Tb} {H0 : Hp} : ∀ {ds : List D} {vs : List V}, Reps T H0 ds vs → D.trk ∉ ds
  | [], vs, h => by simp
  | d :: ds, vs, h => by
    obtain ⟨v, r, rfl, h2, h3⟩ := h
    intro z
    rcases List.mem_cons.mp z with z | z
    · subst z; exact h2
    · exact Reps.noTrk h3 z
theorem Since.after {T : Tb} {n : Ent} {e : Env} {t : D} {σ : L2.St} {H0 H H0' H' : Hp} {p : Addr} {x : Option Addr} (S : SI T n e t σ H0 H p) (s : Since ⟨H, H0, x⟩ H0' H') (hx : ∀ a, x = some a → n.tp = some a ∨ n.He a = none) : Since n H0' H' := by
  refine ⟨s.sub, fun a o h k => ?_, fun a h => ?_, S.ext0.trans s.ext0⟩
  · refine s.low a o (S.low a o h k) fun z => ?_
    rcases hx a z with y | y
    · exact k y
    · rw [y] at h; cases h
  · have h1 : H a ≠ none := by
      by_cases q : n.tp = some a
      · exact S.tpn a q
      · cases r : n.He a with
        | none => exact absurd r h
        | some o => rw [S.low a o r q]; exact fun z => nomatch z
    exact (s.low0 a h1).trans (S.low0 a h)
theorem Since.same {H H0 H0' H' : Hp} (s : Since ⟨H, H0, none⟩ H0' H') : Grow H0 H H0' H' := ⟨fun a o h => s.low a o h (fun z => nomatch z), s.ext0, s.sub, s.low0⟩
/-- all but x is as it was -/
theorem SI.but {T : Tb} {n : Ent} {e : Env} {t : D} {σ : L2.St} {H0 H H0' H' : Hp} {p x : Addr} (S : SI T n e t σ H0 H p) (s : Since ⟨H, H0, some x⟩ H0' H') (F : Fresh n e t σ H0 p x) : SI T n e t σ H0' H' p := by
  refine ⟨Since.after S s (fun a z => by cases z; exact .inr F.he), fun i sl h => ?_, S.sep, fun ht => ?_, S.tpq, S.len⟩
  · have q := S.slot i sl h
    cases sl with
    | none => trivial
    | val d => obtain ⟨v, h1, h2⟩ := q; exact ⟨v, h1, h2.ext s.ext0⟩
    | own d =>
      obtain ⟨b, h1, h2, h3, h4, h5⟩ := q
      have hb : b ≠ x := by rintro rfl; exact F.own i d h h1
      obtain ⟨o, ho⟩ := h2.there
      exact ⟨b, h1, h2.ext s.ext0 fun _ z => s.low _ _ z (fun y => hb (Option.some.inj y).symm), h3, by rw [s.low0 b (ne_none ho)]; exact h4, h5⟩
    | trk => exact q
  · obtain ⟨h1, h2, h3⟩ := S.trk ht
    have hb : p ≠ x := fun z => F.tp ht z.symm
    obtain ⟨o, ho⟩ := h1.there
    exact ⟨h1.ext s.ext0 fun _ z => s.low _ _ z (fun y => hb (Option.some.inj y).symm), by rw [s.low0 p (ne_none ho)]; exact h2, h3⟩
/-- the followed thing has changed, all else is as it was -/
theorem SI.turned {T : Tb} {n : Ent} {e : Env} {t t' : D} {σ : L2.St} {H0 H H0' H' : Hp} {p : Addr} (S : SI T n e t σ H0 H p) (ht : t ≠ .non) (s : Since ⟨H, H0, some p⟩ H0' H') (h1 : OwnAt T H0' H' t' p) (h2 : H0' p = none) (ht' : t' ≠ .non) : SI T n e t' σ H0' H' p := by
  obtain ⟨y1, y2, y3⟩ := S.trk ht
  refine ⟨Since.after S s (fun a z => by cases z; exact y3), fun i sl h => ?_, S.sep, fun _ => ⟨h1, h2, y3⟩, fun q hq => ⟨(S.tpq q hq).1, ht'⟩, S.len⟩
  have q := S.slot i sl h
  cases sl with
  | none => trivial
  | val d => obtain ⟨v, h1, h2⟩ := q; exact ⟨v, h1, h2.ext s.ext0⟩
  | own d =>
    obtain ⟨b, h1, h2, h3, h4, h5⟩ := q
    have hb : b ≠ p := h5 ht
    obtain ⟨o, ho⟩ := h2.there
    exact ⟨b, h1, h2.ext s.ext0 fun _ z => s.low _ _ z (fun y => hb (Option.some.inj y).symm), h3, by rw [s.low0 b (ne_none ho)]; exact h4, fun _ => hb⟩
  | trk => exact ⟨q.1, ht'⟩
theorem ErrW.after {T : Tb} {n : Ent} {e : Env} {t : D} {σ : L2.St} {H0 H : Hp} {p : Addr} {x : Option Addr} {W : XW} {c : Nat} {fs : List D} (h : ErrW T n W c fs) (S : SI T n e t σ H0 H p) (hx : ∀ a, x = some a → n.tp = some a ∨ n.He a = none) : ErrW T ⟨H, H0, x⟩ W c fs :=
  fun cls dx H0' H' s ex => h cls dx H0' H' (Since.after S s hx) ex
theorem Ent.mono {T : Tb} {H H1 H0 : Hp} {x : Option Addr} {W : XW} {c : Nat} {fs : List D} (h : ErrW T ⟨H, H0, x⟩ W c fs) (k : Ext H H1) : ErrW T ⟨H1, H0, x⟩ W c fs := by
  intro cls dx H0' H' s ex
  refine h cls dx H0' H' ⟨s.sub, fun a o q z => s.low a o (k _ _ q) z, fun a q => s.low0 a fun z => ?_, s.ext0⟩ ex
  have z : H1 a = none := z
  cases r : H a with
  | none => exact q r
  | some o => rw [k _ _ r] at z; cases z

section
variable {X : Cx} {c : CT} {n : Ent} {W : XW} {k : Nat}
/-- what of the def at f is known -/
structure FnH (X : Cx) (c : CT) (k ar : Nat) (a : Addr) (f : Fn) : Prop where
  ex : ∃ fd ps, Binds X.K fd ps [] ∧ FnOk X.prog X.w X.K X.mg X.base (L2.CX X.prog X.w) k a fd ps (spD (tb X c) ar f)
/-- called without the followed thing -/
theorem pure_sp {T : Tb} {e : Env} {t : D} {σ : L2.St} {H0 H : Hp} {p : Addr} {Q : VK} {ar : Nat} {f : Fn} {ds : List D} {vs : List V} (S : SI T n e t σ H0 H p) (r : Reps T H0 ds vs) (hl : vs.length = ar)
    (q : RE T n σ H0 p Q W (pureOut (f ds .non) e t)) : spD T ar f vs H Q W := by
  refine ⟨hl, ds, H0, .non, p, S.sub, r.paired, fun z => absurd rfl z, fun z => absurd z r.noTrk, ?_⟩
  cases hx : f ds .non with
  | ok d t1 =>
    rw [hx] at q
    exact fun v H0' H' s _ R => q v H0' H' (S.grow s.same) s.ext0 R
  | err k fs => rw [hx] at q; exact ErrW.after (x := none) q S (fun a z => by cases z)
  | stuck => rw [hx] at q; exact q
theorem m_call {x : Str} {ar : Nat} {f : Fn} {a : Addr} {e1 : Expr} {es : List Expr} {ms : List ME} {p pos : Pos} (h : Ok X k W) (F : FnH X c k ar a f) (hg : Gl X x) (hm : X.mg x = some (.ref a)) (hk : PySem.W.keepIn X.K (.ref a) = true) (hl : ms.length = ar)
    (ha : PMs X c n W (e1 :: es) (mArgs ms)) (hdb : (x == ("__debug__" : Str)) = false) (he : starEach (e1 :: es) X.env = (false, eval e1 X.env) :: starEach es X.env) (hpl : (backTo pos (starEach es X.env)).any (·.1) = false) :
    PM X c n W (.Call (.Name x p) (e1 :: es) [] pos) (mCall f ms) := by
  obtain ⟨fd, ps, hb, F⟩ := F.ex
  refine ⟨fun pins s σ H Q I ⟨e, t, H0, p, S, q⟩ => ?_⟩
  refine (pe_call F h.room hg hm hk hb .nil (passes_call h.tk fun _ _ _ _ h => h) ha hdb he hpl).run pins s σ H Q I ⟨e, t, H0, p, S, ?_⟩
  have h1 := bindA (T := tb X c) (n := n) (σ := σ) (H0 := H0) (p := p) (W := W) (C := RE (tb X c) n σ H0 p Q W) RE.e RE.s q
  cases hx : mArgs ms e t with
  | ok ds e1 t1 =>
    rw [hx] at h1
    intro vs G0 G S1 x1 R1
    obtain ⟨ds', e2, t2, G2, S2, x2, R2, q2⟩ := h1 vs G0 G S1 x1 R1
    rw [List.append_nil]
    refine pure_sp S2 R2 ?_ (q2.mono x2)
    rw [← R1.length, mArgs_len _ _ _ _ _ _ hx]; exact hl
  | err c fs => rw [hx] at h1; exact h1
  | stuck => rw [hx] at h1; exact h1
theorem m_call0 {x : Str} {f : Fn} {a : Addr} {p pos : Pos} (h : Ok X k W) (F : FnH X c k 0 a f) (hg : Gl X x) (hm : X.mg x = some (.ref a)) (hk : PySem.W.keepIn X.K (.ref a) = true) (hdb : (x == ("__debug__" : Str)) = false) : PM X c n W (.Call (.Name x p) [] [] pos) (mCall f []) := by
  obtain ⟨fd, ps, hb, F⟩ := F.ex
  refine ⟨fun pins s σ H Q I ⟨e, t, H0, p, S, q⟩ => ?_⟩
  refine (pe_call0 F h.room hg hm hk hb .nil (passes_call h.tk fun _ _ _ _ h => h) hdb).run pins s σ H Q I ?_
  exact pure_sp (ds := []) (vs := []) S rfl rfl q
/-- called with the followed thing -/
theorem trk_sp {T : Tb} {e : Env} {t : D} {σ : L2.St} {H0 H : Hp} {p : Addr} {Q : VK} {ar : Nat} {f : Fn} {ds : List D} {vs : List V} (S : SI T n e t σ H0 H p) (ht : t ≠ .non) (r : Paired (RepT T p H0) ds vs) (hl : vs.length = ar)
    (q : RE T n σ H0 p Q W (R.outT (f ds t) e)) : spD T ar f vs H Q W := by
  obtain ⟨y1, y2, y3⟩ := S.trk ht
  refine ⟨hl, ds, H0, t, p, S.sub, r, fun _ => ⟨y1, y2⟩, fun _ => ht, ?_⟩
  rw [tpOf_some ht]
  cases hx : f ds t with
  | ok d t1 =>
    rw [hx] at q
    intro v H0' H' s o R
    obtain ⟨o1, o2, o3⟩ := o rfl
    have q : RE T n σ H0 p Q W (.ok d e t1) := by
      cases t1 with
      | non => exact absurd rfl o3
      | _ => exact q
    exact q v H0' H' (S.turned ht s o1 o2 o3) s.ext0 R
  | err k fs => rw [hx] at q; exact ErrW.after (x := some p) q S (fun a z => by cases z; exact y3)
  | stuck => rw [hx] at q; exact q
/-- arguments with the followed thing among them -/
def RAT (T : Tb) (n : Ent) (σ : L2.St) (H0 : Hp) (p : Addr) (Q : List V → Hp → Prop) (W : XW) : R (List D) → Prop
  | .ok ds e t => ∀ vs H0' H', SI T n e t σ H0' H' p → Ext H0 H0' → Paired (RepT T p H0') ds vs → Q vs H'
  | .err c fs => ErrW T n W c fs
  | .stuck => False
def tAT (T : Tb) (n : Ent) (W : XW) (m : ML) : TA := fun σ H Q => ∃ e t H0 p, SI T n e t σ H0 H p ∧ RAT T n σ H0 p Q W (m e t)
theorem RAT.mono {T : Tb} {σ : L2.St} {H0 H0' : Hp} {p : Addr} {Q : List V → Hp → Prop} {x : R (List D)} (h : RAT T n σ H0 p Q W x) (e : Ext H0 H0') : RAT T n σ H0' p Q W x := by
  cases x with
  | ok d e1 t1 => exact fun v G0 G S x => h v G0 G S (e.trans x)
  | err c fs => exact h
  | stuck => exact h
abbrev PMo (X : Cx) (c : CT) (n : Ent) (W : XW) (es : List Expr) (as : List Arg) : Prop := PA X es (tAT (tb X c) n W (mArgsO as))
theorem ao_nil : PMo X c n W [] [] := ⟨fun pos pins s σ H Q I ⟨e, t, H0, p, S, q⟩ => pa_nil.run pos pins s σ H Q I (q _ _ _ S Ext.rfl' .nil)⟩
theorem ao_v {a : Expr} {es : List Expr} {ma : ME} {ms : List Arg} (ha : PM X c n W a ma) (hr : PMo X c n W es ms) (hs : starEach (a :: es) X.env = (false, eval a X.env) :: starEach es X.env) : PMo X c n W (a :: es) (.v ma :: ms) := by
  refine ⟨fun pos pins s σ H Q I ⟨e, t, H0, p, S, q⟩ => ?_⟩
  refine (pa_cons ha hr hs).run pos pins s σ H Q I ⟨e, t, H0, p, S, ?_⟩
  have h1 := bindE (T := tb X c) (n := n) (σ := σ) (H0 := H0) (p := p) (W := W) (C := RAT (tb X c) n σ H0 p Q W) (fun _ _ h => h) (fun h => h) q
  cases hx : ma e t with
  | ok d e1 t1 =>
    rw [hx] at h1
    intro v G0 G S1 x1 R1
    obtain ⟨d', e1', t1', G0', S1', x1', R1', h2⟩ := h1 v G0 G S1 x1 R1
    refine ⟨e1', t1', G0', p, S1', ?_⟩
    have h3 := RAT.mono h2 x1'
    cases hy : mArgsO ms e1' t1' with
    | ok ds e2 t2 =>
      rw [hy] at h3
      intro vs K0 K S2 x2 R2
      exact h3 _ _ _ S2 x2 (.cons ((RepT.of R1').ext x2) R2)
    | err c fs => rw [hy] at h3; exact h3
    | stuck => rw [hy] at h3; exact h3
  | err c fs => rw [hx] at h1; exact h1
  | stuck => rw [hx] at h1; exact h1
theorem SI.trkAt {T : Tb} {e : Env} {t : D} {σ : L2.St} {H0 H : Hp} {p : Addr} {i : Nat} (S : SI T n e t σ H0 H p) (h : e[i]? = some .trk) : σ[i]? = some (some (.ref p)) ∧ t ≠ .non := S.slot i _ h
theorem ao_t {es : List Expr} {ms : List Arg} {i : Nat} {x : Str} {pos : Pos} (hN : X.N[i]? = some x) (hv : Vis X.env.scope x) (hd : (x == ("__debug__" : Str)) = false) (hcd : (x == ("__classdict__" : Str)) = false) (hr : PMo X c n W es ms)
    (hs : starEach (.Name x pos :: es) X.env = (false, eval (.Name x pos) X.env) :: starEach es X.env) : PMo X c n W (.Name x pos :: es) (.t i :: ms) := by
  refine ⟨fun pos' pins s σ H Q I ⟨e, t, H0, p, S, q⟩ => ?_⟩
  have q : RAT (tb X c) n σ H0 p Q W (match e[i]? with | some .trk => (mArgsO ms e t).bind fun ds e t => .ok (D.trk :: ds) e t | _ => .stuck) := q
  cases hi : e[i]? with
  | none => rw [hi] at q; exact q.elim
  | some sl =>
    rw [hi] at q
    cases sl with
    | trk =>
      obtain ⟨y1, y2⟩ := S.trkAt hi
      refine (pa_cons (pe_var hN hv hd hcd) hr hs).run pos' pins s σ H Q I ⟨_, y1, e, t, H0, p, S, ?_⟩
      have q : RAT (tb X c) n σ H0 p Q W ((mArgsO ms e t).bind fun ds e t => .ok (D.trk :: ds) e t) := q
      cases hy : mArgsO ms e t with
      | ok ds e2 t2 =>
        rw [hy] at q
        intro vs K0 K S2 x2 R2
        exact q (.ref p :: vs) _ _ S2 x2 (Paired.cons (show RepT (tb X c) p K0 .trk (.ref p) from rfl) R2)
      | err c fs => rw [hy] at q; exact q
      | stuck => rw [hy] at q; exact q
    | _ => exact q.elim
theorem mArgsO_len : ∀ (ms : List Arg) (e : Env) (t : D) (ds : List D) (e' : Env) (t' : D), mArgsO ms e t = .ok ds e' t' → ds.length = ms.length
  | [], e, t, ds, e', t', h => by
    have h : R.ok [] e t = R.ok ds e' t' := h
    cases h; rfl
  | .v m :: ms, e, t, ds, e', t', h => by
    have h : (m e t).bind (fun d e t => (mArgsO ms e t).bind fun ds e t => .ok (d :: ds) e t) = .ok ds e' t' := h
    cases hx : m e t with
    | ok d e1 t1 =>
      rw [hx] at h
      have h : (mArgsO ms e1 t1).bind (fun ds e t => .ok (d :: ds) e t) = .ok ds e' t' := h
      cases hy : mArgsO ms e1 t1 with
      | ok ds1 e2 t2 =>
        rw [hy] at h
        have h : R.ok (d :: ds1) e2 t2 = .ok ds e' t' := h
        cases h
        rw [List.length_cons, List.length_cons, mArgsO_len ms _ _ _ _ _ hy]
      | err c fs => rw [hy] at h; cases h
      | stuck => rw [hy] at h; cases h
    | err c fs => rw [hx] at h; cases h
    | stuck => rw [hx] at h; cases h
  | .t i :: ms, e, t, ds, e', t', h => by
    have h : (match e[i]? with | some .trk => (mArgsO ms e t).bind fun ds e t => .ok (D.trk :: ds) e t | _ => .stuck) = .ok ds e' t' := h
    split at h
    · cases hy : mArgsO ms e t with
      | ok ds1 e2 t2 =>
        rw [hy] at h
        have h : R.ok (D.trk :: ds1) e2 t2 = .ok ds e' t' := h
        cases h
        rw [List.length_cons, List.length_cons, mArgsO_len ms _ _ _ _ _ hy]
      | err c fs => rw [hy] at h; cases h
      | stuck => rw [hy] at h; cases h
    · cases h
theorem m_callT {x : Str} {ar : Nat} {f : Fn} {a : Addr} {e1 : Expr} {es : List Expr} {ms : List Arg} {p pos : Pos} (h : Ok X k W) (F : FnH X c k ar a f) (hg : Gl X x) (hm : X.mg x = some (.ref a)) (hk : PySem.W.keepIn X.K (.ref a) = true) (hl : ms.length = ar)
    (ha : PMo X c n W (e1 :: es) ms) (hdb : (x == ("__debug__" : Str)) = false) (he : starEach (e1 :: es) X.env = (false, eval e1 X.env) :: starEach es X.env) (hpl : (backTo pos (starEach es X.env)).any (·.1) = false) :
    PM X c n W (.Call (.Name x p) (e1 :: es) [] pos) (mCallT f ms) := by
  obtain ⟨fd, ps, hb, F⟩ := F.ex
  refine ⟨fun pins s σ H Q I ⟨e, t, H0, p, S, q⟩ => ?_⟩
  refine (pe_call F h.room hg hm hk hb .nil (passes_call h.tk fun _ _ _ _ h => h) ha hdb he hpl).run pins s σ H Q I ⟨e, t, H0, p, S, ?_⟩
  have q : RE (tb X c) n σ H0 p Q W ((mArgsO ms e t).bind fun ds e t => match t with | .non => .stuck | t => R.outT (f ds t) e) := q
  cases hx : mArgsO ms e t with
  | ok ds e2 t2 =>
    rw [hx] at q
    intro vs G0 G S2 x2 R2
    rw [List.append_nil]
    have hlen : vs.length = ar := by rw [← Paired.length R2, mArgsO_len _ _ _ _ _ _ hx]; exact hl
    have ht : t2 ≠ .non := fun z => by subst z; exact q
    refine trk_sp S2 ht R2 hlen (RE.mono ?_ x2)
    cases t2 with
    | non => exact absurd rfl ht
    | _ => exact q
  | err c fs => rw [hx] at q; exact q
  | stuck => rw [hx] at q; exact q

/-! ### a class called -/
theorem m_new {x : Str} {ar : Nat} {f : Fn} {a : Addr} {cid : Nat} {e1 : Expr} {es : List Expr} {ms : List ME} {p pos : Pos} (h : Ok X (k + 1) W) (F : FnH X c k (ar + 1) a f) (M : Mk X.K (c.ca cid) a) (hg : Gl X x) (hm : X.mg x = some (.ref (c.ca cid))) (hl : ms.length = ar)
    (ha : PMs X c n W (e1 :: es) (mArgs ms)) (hdb : (x == ("__debug__" : Str)) = false) (he : starEach (e1 :: es) X.env = (false, eval e1 X.env) :: starEach es X.env) (hpl : (backTo pos (starEach es X.env)).any (·.1) = false) :
    PNw X c n W (.Call (.Name x p) (e1 :: es) [] pos) (mNew cid f ms) := by
  obtain ⟨fd, ps, hb, F⟩ := F.ex
  refine ⟨fun pins s σ H Q I ⟨e, t, H0, p, S, q⟩ => ?_⟩
  refine (pe_make M F h.room hg hm hb .nil (passes_call h.tk fun _ _ _ _ h => h) ha hdb he hpl).run pins s σ H Q I ⟨e, t, H0, p, S, ?_⟩
  have h1 := bindA (T := tb X c) (n := n) (σ := σ) (H0 := H0) (p := p) (W := W) (C := RN (tb X c) n σ H0 p Q W) RN.e RN.s q
  cases hx : mArgs ms e t with
  | ok ds e1 t1 =>
    rw [hx] at h1
    intro vs G0 G S1 x1 R1
    obtain ⟨ds', e2, t2, G2, S2, x2, R2, q2⟩ := h1 vs G0 G S1 x1 R1
    intro y dx hy hdx hne
    rw [List.append_nil]
    have S3 := (S2.lay (o := .own y) hdx).1
    have hy3 : upd G dx (.own y) y = none := by rw [upd_ne (Ne.symm hne)]; exact hy
    obtain ⟨S4, F4⟩ := S3.lay (o := .ins (c.ca cid) dx []) hy3
    have hlen : vs.length = ar := by rw [← R1.length, mArgs_len _ _ _ _ _ _ hx]; exact hl
    refine ⟨by rw [List.length_cons, hlen], .trk :: ds', G2, .obj cid [], y, S4.sub, .cons rfl R2.paired, fun _ => ⟨⟨dx, [], upd_same, rfl, rfl⟩, F4.h0⟩, fun _ => (fun z => nomatch z), ?_⟩
    have q3 : RN (tb X c) n σ G2 p Q W (pureOut (initOut cid f ds') e2 t2) := q2.mono x2
    unfold initOut at q3
    cases hf : f (.trk :: ds') (.obj cid []) with
    | ok d t3 =>
      rw [hf] at q3
      cases d with
      | non =>
        intro v H0' H' s o R
        obtain ⟨o1, o2, o3⟩ := o rfl
        refine ⟨R, q3 _ _ _ (S4.but s F4) s.ext0 o1 ⟨o2, F4.he, F4.own, F4.tp⟩⟩
      | _ => exact q3.elim
    | err kk fs =>
      rw [hf] at q3
      exact ErrW.after (n := n) q3 S4 fun a z => by cases z; exact .inr F4.he
    | stuck => rw [hf] at q3; exact q3
  | err c fs => rw [hx] at h1; exact h1
  | stuck => rw [hx] at h1; exact h1

/-! ### attributes, methods -/
structure MeH (X : Cx) (c : CT) (k : Nat) (m : Str) (ar cid : Nat) (f : Fn) : Prop where
  cl : Cls X.K (c.ca cid)
  no : m ∉ c.cf cid
  ex : ∃ g, Meth X.K (c.ca cid) m g ∧ FnH X c k (ar + 1) g f
theorem lookup_none {m : Str} : ∀ {fv : List (Str × V)}, m ∉ fv.map (·.1) → fv.lookup m = none
  | [], _ => rfl
  | (f, v) :: r, h => by
    rw [List.lookup_cons]
    have h1 : ¬ m = f ∧ m ∉ r.map (·.1) := by simpa using h
    have h2 : (m == f) = false := by simpa using h1.1
    rw [h2]
    exact lookup_none h1.2
theorem lookup_at : ∀ {fv : List (Str × V)} {j : Nat} {m : Str} {v : V}, (fv.map (·.1)).Nodup → (fv.map (·.1))[j]? = some m → (fv.map (·.2))[j]? = some v → fv.lookup m = some v
  | [], _, _, _, _, h, _ => by simp at h
  | (f, u) :: r, 0, m, v, nd, h1, h2 => by
    simp at h1 h2
    subst h1 h2
    rw [List.lookup_cons]
    simp
  | (f, u) :: r, j + 1, m, v, nd, h1, h2 => by
    have nd : (f :: r.map (·.1)).Nodup := nd
    have h1 : (r.map (·.1))[j]? = some m := by simpa using h1
    have h2 : (r.map (·.2))[j]? = some v := by simpa using h2
    rw [List.lookup_cons]
    have h3 : (m == f) = false := by
      have : m ≠ f := by rintro rfl; exact (List.nodup_cons.mp nd).1 (List.mem_of_getElem? h1)
      simpa using this
    rw [h3]
    exact lookup_at (List.nodup_cons.mp nd).2 h1 h2
theorem mem_take' {α : Type} {a : α} {l : List α} {n : Nat} (h : a ∈ l.take n) : a ∈ l := List.mem_of_mem_take h
theorem run_meth {m : Str} {ar cid : Nat} {f : Fn} {pl : Sem Bool} {o : Expr} {args : List Expr} {ta : TE} {tr : TA} {apos pos : Pos} {pins : List (Addr × Obj)} {s : Shared} {σ : L2.St} {H : Hp} {Q : VK} (h : Ok X k W) (I : Inv X pins σ H s) (ho : PE X o ta)
    (hst : ∀ a es, args = a :: es → starEach (a :: es) X.env = (false, eval a X.env) :: starEach es X.env ∧ (backTo pos (starEach es X.env)).any (·.1) = false) (ha : PA X args tr) (hnil : args = [] → ∀ σ H Q, tr σ H Q → Q [] H)
    (ht : eval (.Call (.Attribute o m apos) args [] pos) X.env = (do
      let ov ← eval o X.env
      standAt apos.atName
      let (f, first) ← holding [ov] (getMethod ov m pl)
      callWith pos f first (backTo pos (starEach args X.env)) (backToKw pos (keywordEach [] X.env))))
    (q : ta σ H fun x H1 => ∃ cid f ar a dx fv, x = .ref a ∧ MeH X c k m ar cid f ∧ H1 a = some (.ins (c.ca cid) dx fv) ∧ fv.lookup m = none ∧ tr σ H1 fun vs H2 => spD (tb X c) (ar + 1) f (.ref a :: vs) H2 Q W) :
    wpAny (model X.prog X.w) X.A (eval (.Call (.Attribute o m apos) args [] pos) X.env) (EP X pins σ Q) X.xe s := by
  refine PySem.W.methodCall_KW (pl := pl) (thn (ho.run pins s σ H _ I q) fun u s1 ⟨x, H1, I1, rx, cid, f, ar, a, dx, fv, ex, M, ea, l, q⟩ => ?_) ht
  subst ex
  obtain rfl : u = Value.ref a := rx
  obtain ⟨g, hm, ⟨fd, ps, hb, F⟩⟩ := M.ex
  refine getmeth_ok I1 ea M.cl hm l ?_
  have px : Passes (L2.CX X.prog X.w) X W := passes_call h.tk fun _ _ _ _ h => h
  cases args with
  | nil =>
    have q2 := hnil rfl _ _ _ q
    exact PySem.W.callWith_K0 (first := [.ref a]) I1.kIn hm.kp (run_fn (us := [.ref a]) (vs := [.ref a]) F h.room hb .nil px I1 (.cons rfl .nil) (by rw [List.append_nil]; exact q2))
  | cons b es =>
    obtain ⟨h1, h2⟩ := hst b es rfl
    refine PySem.W.callWith_K (first := [.ref a]) (h₀ := X.base) I1.ok.mod.kin hm.kp (thn (ha.run pos pins s1 σ H1 _ I1 q) fun us s2 ⟨vs, H2, I2, r, q2⟩ => ⟨I2.kIn, ?_⟩) h1 h2
    exact run_fn (us := .ref a :: us) (vs := .ref a :: vs) F h.room hb .nil px I2 (.cons rfl r) (by rw [List.append_nil]; exact q2)
theorem m_meth {m : Str} {ks : List (Nat × Fn)} {ar : Nat} {pl : Sem Bool} {o : Expr} {mo : ME} {args : List Expr} {ms : List ME} {apos pos : Pos} (h : Ok X k W) (hk : ∀ cid f, tab cid ks = some f → MeH X c k m ar cid f) (ho : PM X c n W o mo) (ha : PMs X c n W args (mArgs ms)) (hl : ms.length = ar) (hl2 : args.length = ms.length)
    (hst : ∀ a es, args = a :: es → starEach (a :: es) X.env = (false, eval a X.env) :: starEach es X.env ∧ (backTo pos (starEach es X.env)).any (·.1) = false)
    (ht : eval (.Call (.Attribute o m apos) args [] pos) X.env = (do
      let ov ← eval o X.env
      standAt apos.atName
      let (f, first) ← holding [ov] (getMethod ov m pl)
      callWith pos f first (backTo pos (starEach args X.env)) (backToKw pos (keywordEach [] X.env)))) : PM X c n W (.Call (.Attribute o m apos) args [] pos) (mMeth ks mo ms) := by
  refine ⟨fun pins s σ H Q I ⟨e, t, H0, p, S, q⟩ => ?_⟩
  refine run_meth (c := c) (f := fun _ _ => .stuck) (ar := 0) (cid := 0) h I ho hst ha (fun hn σ H Q q => ?_) ht ⟨e, t, H0, p, S, ?_⟩
  · obtain ⟨e, t, H0, p, S, q⟩ := q
    subst hn
    cases ms with
    | nil => exact q _ _ _ S Ext.rfl' rfl
    | cons _ _ => simp at hl2
  · have h1 := bindE (T := tb X c) (n := n) (σ := σ) (H0 := H0) (p := p) (W := W) (C := RE (tb X c) n σ H0 p Q W) RE.e RE.s q
    cases hx : mo e t with
    | ok d e1 t1 =>
      rw [hx] at h1
      intro v G0 G S1 x1 R1
      obtain ⟨d', e2, t2, G2, S2, x2, R2, q2⟩ := h1 v G0 G S1 x1 R1
      cases d' with
      | obj cid fs =>
        have q2 : RE (tb X c) n σ H0 p Q W (match tab cid ks with | some f => (mArgs ms e2 t2).bind fun ds e t => pureOut (f (.obj cid fs :: ds) .non) e t | none => .stuck) := q2
        cases htab : tab cid ks with
        | none => rw [htab] at q2; exact q2.elim
        | some f =>
          rw [htab] at q2
          have M := hk _ _ htab
          obtain ⟨a, dx, fv, e3, h2, h3, h4⟩ := R2
          refine ⟨cid, f, ar, a, dx, fv, e3, M, S2.sub _ _ h2, lookup_none (by rw [h3]; exact fun z => M.no (mem_take' z)), e2, t2, G2, p, S2, ?_⟩
          have q3 := bindA (T := tb X c) (n := n) (σ := σ) (H0 := G2) (p := p) (W := W) (C := RE (tb X c) n σ G2 p Q W) RE.e RE.s (RE.mono q2 x2)
          cases hy : mArgs ms e2 t2 with
          | ok ds e4 t4 =>
            rw [hy] at q3
            intro vs K0 K S5 x5 R5
            obtain ⟨ds', e6, t6, G6, S6, x6, R6, q6⟩ := q3 vs K0 K S5 x5 R5
            refine pure_sp S6 (ds := .obj cid fs :: ds') ⟨_, _, rfl, ⟨a, dx, fv, rfl, x6 _ _ h2, h3, h4.ext x6⟩, R6⟩ ?_ (RE.mono q6 x6)
            rw [List.length_cons, ← R5.length, mArgs_len _ _ _ _ _ _ hy, hl]
          | err c fs => rw [hy] at q3; exact q3
          | stuck => rw [hy] at q3; exact q3
      | _ => exact q2.elim
    | err c fs => rw [hx] at h1; exact h1
    | stuck => rw [hx] at h1; exact h1
end
end DI
set_option linter.all false
set_option Elab.async false
set_option maxRecDepth 100000
set_option maxHeartbeats 4000000
/-! DSnd3: attributes, methods of the followed thing, classes without arguments. -/
namespace DI
open PySem PySem.Spec PyProof.Rows L2
section
variable {X : Cx} {c : CT} {n : Ent} {W : XW} {k : Nat}
/-- an attribute of the class cid -/
inductive AtH (X : Cx) (c : CT) (k : Nat) (f : Str) (cid : Nat) : AttrK → Prop where
  | fld (j : Nat) (cl : Cls X.K (c.ca cid)) (no : NoAttr X.K (c.ca cid) f) (at_ : (c.cf cid)[j]? = some f) (nd : (c.cf cid).Nodup) : AtH X c k f cid (.fld j)
  | prop (g : Fn) (cl : Cls X.K (c.ca cid)) (p a : Addr) (hp : PropOf X.K (c.ca cid) f p a) (F : FnH X c k 1 a g) : AtH X c k f cid (.prop g)
theorem map_get {α β : Type} {f : α → β} {l : List α} {j : Nat} {b : β} (h : (l.map f)[j]? = some b) : ∃ a, l[j]? = some a ∧ f a = b := by
  rw [List.getElem?_map] at h
  cases q : l[j]? with
  | none => rw [q] at h; cases h
  | some a => rw [q] at h; exact ⟨a, rfl, Option.some.inj h⟩
theorem fld_at {T : Tb} {H : Hp} {cf : List Str} {fs : List D} {fv : List (Str × V)} {j : Nat} {f : Str} {d : D} (h1 : fv.map (·.1) = cf.take fs.length) (h2 : Reps T H fs (fv.map (·.2))) (hf : cf[j]? = some f) (nd : cf.Nodup) (hd : fs[j]? = some d) :
    ∃ v, fv.lookup f = some v ∧ Rep T H d v := by
  obtain ⟨v, h3, h4⟩ := h2.get hd
  refine ⟨v, lookup_at (by rw [h1]; exact nd.sublist (List.take_sublist _ _)) ?_ h3, h4⟩
  rw [h1]
  have : j < fs.length := (List.getElem?_eq_some_iff.mp hd).1
  rw [List.getElem?_take_of_lt this]
  exact hf
theorem m_attr {f : Str} {ks : List (Nat × AttrK)} {o : Expr} {mo : ME} {pos : Pos} (h : Ok X (k + 1) W) (hk : ∀ cid a, tab cid ks = some a → AtH X c k f cid a) (ho : PM X c n W o mo) (hab : attributeBase o f X.env (eval o X.env) = eval o X.env) : PM X c n W (.Attribute o f pos) (mAttr ks mo) := by
  refine ⟨fun pins s σ H Q I ⟨e, t, H0, p, S, q⟩ => ?_⟩
  refine attr_of hab (thn (ho.run pins s σ H _ I ⟨e, t, H0, p, S, bindE (C := RE (tb X c) n σ H0 p Q W) RE.e RE.s q⟩) fun v s1 ⟨x, H1, I1, r1, d1, e1, t1, G1, S1, x1, R1, q1⟩ => ?_)
  cases d1 with
  | obj cid fs =>
    have q1 : RE (tb X c) n σ H0 p Q W (match tab cid ks with
      | some (.fld j) => R.of (fs[j]?) e1 t1
      | some (.prop f) => (match f [.obj cid fs] .non with
        | .ok d _ => .ok d e1 t1
        | _ => .stuck)
      | none => .stuck) := q1
    obtain ⟨a, dx, fv, e3, h2, h3, h4⟩ := R1
    subst e3
    obtain rfl : v = Value.ref a := r1
    cases htab : tab cid ks with
    | none => rw [htab] at q1; exact q1.elim
    | some ak =>
      rw [htab] at q1
      have A := hk _ _ htab
      cases A with
      | fld j cl no at_ nd =>
        have q1 : RE (tb X c) n σ H0 p Q W (R.of (fs[j]?) e1 t1) := q1
        cases hd : fs[j]? with
        | none => rw [hd] at q1; exact q1.elim
        | some d =>
          rw [hd] at q1
          obtain ⟨v, l, R⟩ := fld_at h3 h4 at_ nd hd
          exact getattr_ok I1 (S1.sub _ _ h2) cl no l fun u s' I2 r2 => ⟨v, H1, I2, r2, q1 _ _ _ S1 x1 R⟩
      | prop g cl pp aa hp F =>
        have q1 : RE (tb X c) n σ H0 p Q W (match g [.obj cid fs] .non with
          | .ok d _ => .ok d e1 t1
          | _ => .stuck) := q1
        obtain ⟨fd, ps, hb, F⟩ := F.ex
        refine getprop_ok I1 (S1.sub _ _ h2) cl hp F h.room hb .nil passL ?_
        refine pure_sp (W := E0) (e := e1) (t := t1) S1 (ds := [.obj cid fs]) ⟨_, _, rfl, ⟨a, dx, fv, rfl, h2, h3, h4⟩, rfl⟩ rfl ?_
        cases hg : g [.obj cid fs] .non with
        | ok d t' => rw [hg] at q1; exact q1.mono x1
        | err _ _ => rw [hg] at q1; exact q1.elim
        | stuck => rw [hg] at q1; exact q1.elim
  | _ => exact q1.elim
theorem m_attrT {f : Str} {ks : List (Nat × AttrK)} {i : Nat} {x : Str} {pos pos' : Pos} (h : Ok X (k + 1) W) (hk : ∀ cid a, tab cid ks = some a → AtH X c k f cid a) (hN : X.N[i]? = some x) (hv : Vis X.env.scope x) (hd : (x == ("__debug__" : Str)) = false) (hcd : (x == ("__classdict__" : Str)) = false)
    (hab : attributeBase (.Name x pos') f X.env (eval (.Name x pos') X.env) = eval (.Name x pos') X.env) : PM X c n W (.Attribute (.Name x pos') f pos) (mAttrT i ks) := by
  refine ⟨fun pins s σ H Q I ⟨e, t, H0, p, S, q⟩ => ?_⟩
  unfold mAttrT at q
  cases hi : e[i]? with
  | none => rw [hi] at q; exact q.elim
  | some sl =>
    rw [hi] at q
    cases sl with
    | trk =>
      obtain ⟨y1, y2⟩ := S.trkAt hi
      obtain ⟨o1, _, _⟩ := S.trk y2
      refine attr_of hab (thn ((pe_var hN hv hd hcd).run pins s σ H (fun v H1 => v = .ref p ∧ H1 = H) I ⟨_, y1, rfl, rfl⟩) fun v s1 ⟨y, H1, I1, r1, z1, z2⟩ => ?_)
      subst z1 z2
      obtain rfl : v = Value.ref p := r1
      cases t with
      | obj cid fs =>
        have q : RE (tb X c) n σ H0 p Q W (match tab cid ks with
          | some (.fld j) => R.of (fs[j]?) e (.obj cid fs)
          | some (.prop _) => .stuck
          | none => .stuck) := q
        obtain ⟨dx, fv, h2, h3, h4⟩ := o1
        cases htab : tab cid ks with
        | none => rw [htab] at q; exact q.elim
        | some ak =>
          rw [htab] at q
          cases hk _ _ htab with
          | fld j cl no at_ nd =>
            have q : RE (tb X c) n σ H0 p Q W (R.of (fs[j]?) e (.obj cid fs)) := q
            cases hd : fs[j]? with
            | none => rw [hd] at q; exact q.elim
            | some d =>
              rw [hd] at q
              obtain ⟨v, l, R⟩ := fld_at h3 h4 at_ nd hd
              exact getattr_ok I1 h2 cl no l fun u s' I2 r2 => ⟨v, H1, I2, r2, q _ _ _ S Ext.rfl' R⟩
          | prop g cl pp aa hp F => exact q.elim
      | _ => exact q.elim
    | _ => exact q.elim
theorem m_methT {m : Str} {ks : List (Nat × Fn)} {ar i : Nat} {pl : Sem Bool} {x : Str} {args : List Expr} {ms : List ME} {apos pos pos' : Pos} (h : Ok X k W) (hk : ∀ cid f, tab cid ks = some f → MeH X c k m ar cid f) (hN : X.N[i]? = some x) (hv : Vis X.env.scope x) (hd : (x == ("__debug__" : Str)) = false) (hcd : (x == ("__classdict__" : Str)) = false)
    (ha : PMs X c n W args (mArgs ms)) (hl : ms.length = ar) (hl2 : args.length = ms.length)
    (hst : ∀ a es, args = a :: es → starEach (a :: es) X.env = (false, eval a X.env) :: starEach es X.env ∧ (backTo pos (starEach es X.env)).any (·.1) = false)
    (ht : eval (.Call (.Attribute (.Name x pos') m apos) args [] pos) X.env = (do
      let ov ← eval (.Name x pos') X.env
      standAt apos.atName
      let (f, first) ← holding [ov] (getMethod ov m pl)
      callWith pos f first (backTo pos (starEach args X.env)) (backToKw pos (keywordEach [] X.env)))) : PM X c n W (.Call (.Attribute (.Name x pos') m apos) args [] pos) (mMethT i ks ms) := by
  refine ⟨fun pins s σ H Q I ⟨e, t, H0, p, S, q⟩ => ?_⟩
  unfold mMethT at q
  cases hi : e[i]? with
  | none => rw [hi] at q; exact q.elim
  | some sl =>
    rw [hi] at q
    cases sl with
    | trk =>
      obtain ⟨y1, y2⟩ := S.trkAt hi
      obtain ⟨o1, _, _⟩ := S.trk y2
      cases t with
      | obj cid fs =>
        have q : RE (tb X c) n σ H0 p Q W (match tab cid ks with
          | some f => (mArgs ms e (.obj cid fs)).bind fun ds e t => (match t with
            | .obj c' fs' => if c' = cid then R.outT (f (.trk :: ds) (.obj c' fs')) e else .stuck
            | _ => .stuck)
          | none => .stuck) := q
        cases htab : tab cid ks with
        | none => rw [htab] at q; exact q.elim
        | some f =>
          rw [htab] at q
          have M := hk _ _ htab
          obtain ⟨dx, fv, h2, h3, h4⟩ := o1
          refine run_meth (c := c) (f := fun _ _ => .stuck) (ar := 0) (cid := 0) (ta := tVar i) h I (pe_var hN hv hd hcd) hst ha (fun hn σ H Q q => ?_) ht ⟨_, y1, cid, f, ar, p, dx, fv, rfl, M, h2, lookup_none (by rw [h3]; exact fun z => M.no (mem_take' z)), e, _, H0, p, S, ?_⟩
          · obtain ⟨e, t, H0, p, S, q⟩ := q
            subst hn
            cases ms with
            | nil => exact q _ _ _ S Ext.rfl' rfl
            | cons _ _ => simp at hl2
          · have q3 := bindA (T := tb X c) (n := n) (σ := σ) (H0 := H0) (p := p) (W := W) (C := RE (tb X c) n σ H0 p Q W) RE.e RE.s q
            cases hy : mArgs ms e (.obj cid fs) with
            | ok ds e4 t4 =>
              rw [hy] at q3
              intro vs K0 K S5 x5 R5
              obtain ⟨ds', e6, t6, G6, S6, x6, R6, q6⟩ := q3 vs K0 K S5 x5 R5
              cases t6 with
              | obj c' fs' =>
                have q6 : RE (tb X c) n σ H0 p Q W (if c' = cid then R.outT (f (.trk :: ds') (.obj c' fs')) e6 else .stuck) := q6
                by_cases hc : c' = cid
                · rw [if_pos hc] at q6
                  refine trk_sp S6 (fun z => nomatch z) (ds := .trk :: ds') (Paired.cons (show RepT (tb X c) p G6 .trk (.ref p) from rfl) R6.paired) ?_ (RE.mono q6 x6)
                  rw [List.length_cons, ← R5.length, mArgs_len _ _ _ _ _ _ hy, hl]
                · rw [if_neg hc] at q6; exact q6.elim
              | _ => exact q6.elim
            | err c fs => rw [hy] at q3; exact q3
            | stuck => rw [hy] at q3; exact q3
      | _ => exact q.elim
    | _ => exact q.elim
theorem m_new0 {x : Str} {f : Fn} {a : Addr} {cid : Nat} {p pos : Pos} (h : Ok X (k + 1) W) (F : FnH X c k 1 a f) (M : Mk X.K (c.ca cid) a) (hg : Gl X x) (hm : X.mg x = some (.ref (c.ca cid))) (hdb : (x == ("__debug__" : Str)) = false) : PNw X c n W (.Call (.Name x p) [] [] pos) (mNew cid f []) := by
  obtain ⟨fd, ps, hb, F⟩ := F.ex
  refine ⟨fun pins s σ H Q I ⟨e, t, H0, p, S, q⟩ => ?_⟩
  refine (pe_make0 M F h.room hg hm hb .nil (passes_call h.tk fun _ _ _ _ h => h) hdb).run pins s σ H Q I ?_
  intro y dx hy hdx hne
  rw [List.nil_append]
  have S3 := (S.lay (o := .own y) hdx).1
  have hy3 : upd H dx (.own y) y = none := by rw [upd_ne (Ne.symm hne)]; exact hy
  obtain ⟨S4, F4⟩ := S3.lay (o := .ins (c.ca cid) dx []) hy3
  refine ⟨rfl, [.trk], H0, .obj cid [], y, S4.sub, Paired.cons (show RepT (tb X c) y H0 .trk (.ref y) from rfl) .nil, fun _ => ⟨⟨dx, [], upd_same, rfl, rfl⟩, F4.h0⟩, fun _ => (fun z => nomatch z), ?_⟩
  have q3 : RN (tb X c) n σ H0 p Q W (pureOut (initOut cid f []) e t) := q
  unfold initOut at q3
  cases hf : f [.trk] (.obj cid []) with
  | ok d t3 =>
    rw [hf] at q3
    cases d with
    | non =>
      intro v H0' H' s o R
      obtain ⟨o1, o2, o3⟩ := o rfl
      refine ⟨R, q3 _ _ _ (S4.but s F4) s.ext0 o1 ⟨o2, F4.he, F4.own, F4.tp⟩⟩
    | _ => exact q3.elim
  | err kk fs =>
    rw [hf] at q3
    exact ErrW.after (x := some y) (n := n) q3 S4 fun a z => by cases z; exact .inr F4.he
  | stuck => rw [hf] at q3; exact q3
end
end DI
set_option linter.all false
set_option Elab.async false
set_option maxRecDepth 100000
set_option maxHeartbeats 4000000
/-! DSnd4: what is walked, targets, loops, comprehensions. -/
namespace DI
open PySem PySem.Spec PyProof.Rows L2

/-- the walk J yields the data ds -/
structure JOk (T : Tb) (J : It) (ds : List D) (G0 : Hp) : Prop where
  go : ∀ i H0 H, Ext G0 H0 → Ext H0 H → i < ds.length → J.go i H
  stop : ∀ i H0 H, Ext G0 H0 → Ext H0 H → ds.length ≤ i → J.stop i H
  yld : ∀ i d H0 H x H', Ext G0 H0 → Ext H0 H → ds[i]? = some d → J.yld i H x H' → ∃ H0', Grow H0 H H0' H' ∧ Rep T H0' d x
def RI (T : Tb) (n : Ent) (σ : L2.St) (H0 : Hp) (p : Addr) (Rr : It → Hp → Prop) (W : XW) : R (List D) → Prop
  | .ok ds e t => ∀ J H0' H', SI T n e t σ H0' H' p → Ext H0 H0' → JOk T J ds H0' → Rr J H'
  | .err c fs => ErrW T n W c fs
  | .stuck => False
def tI (T : Tb) (n : Ent) (W : XW) (m : ML) : TI := fun σ H Rr => ∃ e t H0 p, SI T n e t σ H0 H p ∧ RI T n σ H0 p Rr W (m e t)
abbrev PIt (X : Cx) (c : CT) (n : Ent) (W : XW) (tg ex : Expr) (m : ML) : Prop := PI X tg ex (tI (tb X c) n W m)
section
variable {X : Cx} {c : CT} {n : Ent} {W : XW} {k : Nat}
theorem RI.e {T : Tb} {σ : L2.St} {H0 : Hp} {p : Addr} {Rr : It → Hp → Prop} (c : Nat) (fs : List D) (h : RI T n σ H0 p Rr W (.err c fs)) : ErrW T n W c fs := h
theorem RI.s {T : Tb} {σ : L2.St} {H0 : Hp} {p : Addr} {Rr : It → Hp → Prop} (h : RI T n σ H0 p Rr W .stuck) : False := h

/-! ### targets -/
def Tgt.slots : Tgt → List Nat
  | .one i => [i]
  | .many is => is
/-- a target: the datum d is put -/
def tG (T : Tb) (n : Ent) (g : Tgt) : TG := fun v σ H Q => ∃ e e' t H0 p d, SI T n e t σ H0 H p ∧ Rep T H0 d v ∧ g.put d e = some e' ∧ ∀ σ', SI T n e' t σ' H0 H p → (∀ j, j ∉ g.slots → σ'[j]? = σ[j]?) → Q σ' H
abbrev PTg (X : Cx) (c : CT) (n : Ent) (tg : Expr) (g : Tgt) : Prop := PG X tg (tG (tb X c) n g)
theorem SI.put {T : Tb} {e : Env} {t : D} {σ : L2.St} {H0 H : Hp} {p : Addr} {i : Nat} {d : D} {v : V} (S : SI T n e t σ H0 H p) (r : Rep T H0 d v) : SI T n (e.set i (.val d)) t (σ.set i (some v)) H0 H p := by
  refine ⟨S.toSince, fun j s h => ?_, fun j k dj dk a h1 h2 h3 h4 => ?_, S.trk, S.tpq, by rw [List.length_set, List.length_set]; exact S.len⟩
  · by_cases hj : i = j
    · subst hj
      by_cases hl : i < e.length
      · rw [getElem?_set_self' hl] at h
        cases h
        exact ⟨v, getElem?_set_self' (by rw [← S.len]; exact hl), r⟩
      · rw [List.getElem?_eq_none (by simpa using hl)] at h
        cases h
    · rw [List.getElem?_set_ne hj] at h
      rw [List.getElem?_set_ne hj]
      exact S.slot j s h
  · have n1 : i ≠ j := by
      rintro rfl
      by_cases hl : i < e.length
      · rw [getElem?_set_self' hl] at h1; cases h1
      · rw [List.getElem?_eq_none (by simpa using hl)] at h1; cases h1
    have n2 : i ≠ k := by
      rintro rfl
      by_cases hl : i < e.length
      · rw [getElem?_set_self' hl] at h2; cases h2
      · rw [List.getElem?_eq_none (by simpa using hl)] at h2; cases h2
    rw [List.getElem?_set_ne n1] at h1 h3
    rw [List.getElem?_set_ne n2] at h2 h4
    exact S.sep j k dj dk a h1 h2 h3 h4
theorem g_one {i : Nat} {x : Str} {pos : Pos} (hN : X.N.Nodup) (hi : X.N[i]? = some x) (hx : Loc X.env.scope x) (hf : X.fn x = true ∨ X.env.scope.names.lookup x = some .local) : PTg X c n (.Name x pos) (.one i) := by
  refine ⟨fun pins s σ H v u Q I r ⟨e, e', t, H0, p, d, S, R, hp, q⟩ => ?_⟩
  cases hp
  exact (pg_name hN hi hx hf).run pins s σ H v u Q I r (q _ (S.put R) fun j hj => List.getElem?_set_ne fun z => hj (by rw [z]; exact List.mem_cons_self))
/-- names of a tuple target -/
structure NamesOk (X : Cx) (es : List Expr) (is : List Nat) : Prop where
  ok : ∃ ps : List (Str × Pos), es = ps.map (fun q => Expr.Name q.1 q.2) ∧ ps.length = is.length ∧ ∀ (j : Nat) (x : Str) (pos : Pos) (i : Nat), ps[j]? = some (x, pos) → is[j]? = some i → X.N[i]? = some x ∧ Loc X.env.scope x ∧ (X.fn x = true ∨ X.env.scope.names.lookup x = some .local)
def tGs (T : Tb) (n : Ent) (is : List Nat) : TGs := fun vs σ H Q => ∃ e e' t H0 p ds, SI T n e t σ H0 H p ∧ Reps T H0 ds vs ∧ setAll is ds e = some e' ∧ ∀ σ', SI T n e' t σ' H0 H p → (∀ j, j ∉ is → σ'[j]? = σ[j]?) → Q σ' H
theorem gs_of (hN : X.N.Nodup) : ∀ (ps : List (Str × Pos)) (is : List Nat), ps.length = is.length → (∀ (j : Nat) (x : Str) (pos : Pos) (i : Nat), ps[j]? = some (x, pos) → is[j]? = some i → X.N[i]? = some x ∧ Loc X.env.scope x ∧ (X.fn x = true ∨ X.env.scope.names.lookup x = some .local)) →
    PGs X (ps.map (fun q => Expr.Name q.1 q.2)) (tGs (tb X c) n is)
  | [], [], _, _ => by
    refine ⟨fun pins s σ H vs us Q I r ⟨e, e', t, H0, p, ds, S, R, hp, q⟩ => ?_⟩
    cases ds with
    | nil =>
      have R : vs = [] := R
      subst R
      cases hp
      exact pgs_nil.run pins s σ H [] us Q I r ⟨rfl, q _ S fun _ _ => rfl⟩
    | cons _ _ => cases hp
  | [], _ :: _, h, _ => by simp at h
  | _ :: _, [], h, _ => by simp at h
  | (x, pos) :: ps, i :: is, h, hk => by
    have ih := gs_of hN ps is (by simpa using h) fun j x pos i h1 h2 => hk (j + 1) x pos i (by simpa using h1) (by simpa using h2)
    obtain ⟨h1, h2, h3⟩ := hk 0 x pos i rfl rfl
    refine ⟨fun pins s σ H vs us Q I r ⟨e, e', t, H0, p, ds, S, R, hp, q⟩ => ?_⟩
    cases ds with
    | nil => cases hp
    | cons d ds =>
      obtain ⟨v, vr, rfl, R1, R2⟩ := R
      refine (pgs_cons (pg_name (pos := pos) hN h1 h2 h3) ih rfl).run pins s σ H _ us Q I r ⟨v, vr, rfl, ?_⟩
      exact ⟨_, e', t, H0, p, ds, S.put R1, R2, hp, fun σ' S' k => q σ' S' fun j hj => (k j fun z => hj (List.mem_cons_of_mem _ z)).trans (List.getElem?_set_ne fun z => hj (by rw [z]; exact List.mem_cons_self))⟩
theorem assignEach_names (env : PySem.Env) : ∀ ps : List (Str × Pos), (assignEach (ps.map fun q => Expr.Name q.1 q.2) env).length = ps.length ∧ (assignEach (ps.map fun q => Expr.Name q.1 q.2) env).findIdx? (·.1) = none
  | [] => ⟨rfl, rfl⟩
  | (x, pos) :: ps => by
    obtain ⟨h1, h2⟩ := assignEach_names env ps
    have e : assignEach (((x, pos) :: ps).map fun q => Expr.Name q.1 q.2) env = (false, assign (.Name x pos) env) :: assignEach (ps.map fun q => Expr.Name q.1 q.2) env := rfl
    rw [e]
    refine ⟨by rw [List.length_cons, h1]; rfl, ?_⟩
    rw [List.findIdx?_cons, if_neg (by simp), h2]
    rfl
theorem setAll_len : ∀ {is : List Nat} {ds : List D} {e e' : Env}, setAll is ds e = some e' → ds.length = is.length
  | [], [], _, _, _ => rfl
  | [], _ :: _, _, _, h => by cases h
  | _ :: _, [], _, _, h => by cases h
  | i :: is, d :: ds, e, e', h => by
    have h : setAll is ds (e.set i (.val d)) = some e' := h
    rw [List.length_cons, List.length_cons, setAll_len h]
theorem g_many {es : List Expr} {is : List Nat} {kk : Nat} {pos : Pos} (h : X.calm = true) (hN : X.N.Nodup) (ho : NamesOk X es is) : PTg X c n (.Tuple es kk pos) (.many is) := by
  obtain ⟨ps, rfl, hl, hk⟩ := ho.ok
  have G := gs_of (c := c) (n := n) hN ps is hl hk
  obtain ⟨a1, a2⟩ := assignEach_names X.env ps
  refine ⟨fun pins s σ H v u Q I r ⟨e, e', t, H0, p, d, S, R, hp, q⟩ => ?_⟩
  cases d with
  | tup ds =>
    obtain ⟨a, vs, rfl, h1, h2⟩ := R
    have hp : setAll is ds e = some e' := hp
    refine (pg_tup (n := is.length) h G (by rw [a1, hl]) a2).run pins s σ H _ u Q I r ⟨a, vs, rfl, ?_, ?_, e, e', t, H0, p, ds, S, h2, hp, q⟩
    · exact SqT.ext h1 S.sub
    · rw [← h2.length, setAll_len hp]
  | lst ds =>
    obtain ⟨a, vs, rfl, h1, h2⟩ := R
    have hp : setAll is ds e = some e' := hp
    refine (pg_lst (n := is.length) h G (by rw [a1, hl]) a2).run pins s σ H _ u Q I r ⟨a, vs, rfl, ?_, ?_, e, e', t, H0, p, ds, S, h2, hp, q⟩
    · exact SqL.of (S.sub _ _ h1)
    · rw [← h2.length, setAll_len hp]
  | _ => cases hp

/-! ### statements -/
theorem RS.mono {T : Tb} {H0 H0' : Hp} {p : Addr} {t0 : D} {D' : Ends} {x : R Flow} (h : RS T n H0 p t0 D' W x) (e : Ext H0 H0') : RS T n H0' p t0 D' W x := by
  cases x with
  | ok f e1 t1 =>
    cases f with
    | next => exact fun σ' G0 G p' S x k => h σ' G0 G p' S (e.trans x) k
    | ret d => exact fun v σ' G0 G p' S x k => h v σ' G0 G p' S (e.trans x) k
  | err c fs => exact h
  | stuck => exact h
/-- t0 matters by its being there alone -/
theorem RS.from {T : Tb} {H0 : Hp} {p : Addr} {t0 t1 : D} {D' : Ends} {x : R Flow} (h : RS T n H0 p t0 D' W x) (e : t0 ≠ .non → t1 ≠ .non) : RS T n H0 p t1 D' W x := by
  cases x with
  | ok f e1 t1 =>
    cases f with
    | next => exact fun σ' G0 G p' S x k => h σ' G0 G p' S x fun z => k (e z)
    | ret d => exact fun v σ' G0 G p' S x k => h v σ' G0 G p' S x fun z => k (e z)
  | err c fs => exact h
  | stuck => exact h
theorem s_pass {pos : Pos} : PSt X c n W (.Pass pos) sPass := ⟨fun pins s σ H D' I ⟨e, t, H0, p, S, q⟩ => ps_pass.run pins s σ H D' I (q _ _ _ _ S Ext.rfl' fun _ => rfl)⟩
theorem s_nil : PSts X c n W [] sPass := ⟨fun pins s σ H D' I ⟨e, t, H0, p, S, q⟩ => pss_nil.run pins s σ H D' I (q _ _ _ _ S Ext.rfl' fun _ => rfl)⟩
theorem s_one {st : Stmt} {m : MS} (h : PSt X c n W st m) : PSts X c n W [st] m := pss_one h
end
/-- nothing that is followed is let go -/
def Steady (m : MS) : Prop := ∀ e t f e' t', m e t = .ok f e' t' → t ≠ .non → t' ≠ .non
section
variable {X : Cx} {c : CT} {n : Ent} {W : XW} {k : Nat}
/-- an outcome's followed thing: where it was there it is there -/
def OKt (t0 : D) : R Flow → Prop
  | .ok _ _ t => t0 ≠ .non → t ≠ .non
  | _ => True
theorem s_seq {st : Stmt} {rest : List Stmt} {a b : MS} (h1 : PSt X c n W st a) (h2 : PSts X c n W rest b) (hs : ∀ e t, OKt t (a e t)) : PSts X c n W (st :: rest) (sSeq a b) := by
  refine ⟨fun pins s σ H D' I ⟨e, t, H0, p, S, q⟩ => ?_⟩
  refine (pss_cons h1 h2).run pins s σ H D' I ⟨e, t, H0, p, S, ?_⟩
  have q : RS (tb X c) n H0 p t D' W ((a e t).bind fun f e t => match f with | .next => b e t | .ret d => .ok (.ret d) e t) := q
  have hs := hs e t
  cases hx : a e t with
  | ok f e1 t1 =>
    rw [hx] at q hs
    cases f with
    | next =>
      intro σ' G0 G p' S1 x1 k1
      refine ⟨e1, t1, G0, p', S1, ?_⟩
      have q : RS (tb X c) n H0 p t D' W (b e1 t1) := q
      have hs : t ≠ .non → t1 ≠ .non := hs
      cases hy : b e1 t1 with
      | ok f e2 t2 =>
        rw [hy] at q
        cases f with
        | next => exact fun σ2 K0 K p2 S2 x2 k2 => q σ2 K0 K p2 S2 (x1.trans x2) fun z => (k2 (hs z)).trans (k1 z)
        | ret d => exact fun v σ2 K0 K p2 S2 x2 k2 => q v σ2 K0 K p2 S2 (x1.trans x2) fun z => (k2 (hs z)).trans (k1 z)
      | err c fs => rw [hy] at q; exact q
      | stuck => rw [hy] at q; exact q
    | ret d => exact q
  | err c fs => rw [hx] at q; exact q
  | stuck => rw [hx] at q; exact q
theorem s_expr {ex : Expr} {m : ME} {pos : Pos} (h : PM X c n W ex m) (hs : swapsWith ex none pos.line X.env = pure false) : PSt X c n W (.Expr ex pos) (sExpr m) := by
  refine ⟨fun pins s σ H D' I ⟨e, t, H0, p, S, q⟩ => ?_⟩
  refine (ps_expr h hs).run pins s σ H D' I ⟨e, t, H0, p, S, ?_⟩
  have q : RS (tb X c) n H0 p t D' W ((m e t).bind fun _ e t => .ok .next e t) := q
  cases hx : m e t with
  | ok d e1 t1 =>
    rw [hx] at q
    exact fun v G0 G S1 x1 _ => q _ _ _ _ S1 x1 fun _ => rfl
  | err c fs => rw [hx] at q; exact q
  | stuck => rw [hx] at q; exact q
theorem s_ret {ex : Expr} {m : ME} {pos : Pos} (h : PM X c n W ex m) : PSt X c n W (.Return (some ex) pos) (sRet m) := by
  refine ⟨fun pins s σ H D' I ⟨e, t, H0, p, S, q⟩ => ?_⟩
  refine (ps_ret h).run pins s σ H D' I ⟨e, t, H0, p, S, ?_⟩
  have q : RS (tb X c) n H0 p t D' W ((m e t).bind fun d e t => .ok (.ret d) e t) := q
  cases hx : m e t with
  | ok d e1 t1 =>
    rw [hx] at q
    exact fun v G0 G S1 x1 R1 => q v σ _ _ _ S1 x1 (fun _ => rfl) R1
  | err c fs => rw [hx] at q; exact q
  | stuck => rw [hx] at q; exact q
theorem s_if {x : Expr} {a b : List Stmt} {mx : ME} {ma mb : MS} {pos : Pos} (hx : PB X c n W x mx) (ha : PSts X c n W a ma) (hb : PSts X c n W b mb) (hs : ∀ e t, match asB (mx e t) with | .ok _ _ t' => t ≠ .non → t' ≠ .non | _ => True) : PSt X c n W (.If x a b pos) (sIf mx ma mb) := by
  refine ⟨fun pins s σ H D' I ⟨e, t, H0, p, S, q⟩ => ?_⟩
  have q : RS (tb X c) n H0 p t D' W ((asB (mx e t)).bind fun c e t => if c then ma e t else mb e t) := q
  have hs := hs e t
  refine (ps_if hx ha hb).run pins s σ H D' I ⟨e, t, H0, p, S, ?_⟩
  show RT (tb X c) n σ H0 p _ W (asB (mx e t))
  cases hy : asB (mx e t) with
  | ok b1 e1 t1 =>
    rw [hy] at q hs
    intro G0 G S1 x1
    cases b1 with
    | true => exact ⟨e1, t1, G0, p, S1, (RS.mono q x1).from hs⟩
    | false => exact ⟨e1, t1, G0, p, S1, (RS.mono q x1).from hs⟩
  | err c fs => rw [hy] at q; exact q
  | stuck => rw [hy] at q; exact q
theorem s_set {i : Nat} {x : Str} {ex : Expr} {m : ME} {pos pos' : Pos} (hN : X.N.Nodup) (hi : X.N[i]? = some x) (hx : Loc X.env.scope x) (hf : X.fn x = true ∨ X.env.scope.names.lookup x = some .local) (h : PM X c n W ex m) (hs : swapsWith ex (some (.Name x pos')) pos.line X.env = pure false) :
    PSt X c n W (.Assign [.Name x pos'] ex pos) (sSet i m) := by
  refine ⟨fun pins s σ H D' I ⟨e, t, H0, p, S, q⟩ => ?_⟩
  refine (ps_set hN hi hx h hs hf).run pins s σ H D' I ⟨e, t, H0, p, S, ?_⟩
  have q : RS (tb X c) n H0 p t D' W ((m e t).bind fun d e t => .ok .next (e.set i (.val d)) t) := q
  cases hx : m e t with
  | ok d e1 t1 =>
    rw [hx] at q
    exact fun v G0 G S1 x1 R1 => q _ _ _ _ (S1.put R1) x1 fun _ => rfl
  | err c fs => rw [hx] at q; exact q
  | stuck => rw [hx] at q; exact q
theorem SI.putOwn {T : Tb} {e : Env} {t : D} {σ : L2.St} {H0 H : Hp} {p a : Addr} {i : Nat} {d : D} (S : SI T n e t σ H0 H p) (o : OwnAt T H0 H d a) (F : Fresh n e t σ H0 p a) : SI T n (e.set i (.own d)) t (σ.set i (some (.ref a))) H0 H p := by
  have off : ∀ (j : Nat) (dj : D) (b : Addr), j ≠ i → (e.set i (.own d))[j]? = some (.own dj) → (σ.set i (some (.ref a)))[j]? = some (some (.ref b)) → b ≠ a := by
    intro j dj b hj h1 h2 z
    rw [List.getElem?_set_ne (Ne.symm hj)] at h1 h2
    exact F.own j dj h1 (z ▸ h2)
  refine ⟨S.toSince, fun j s h => ?_, fun j k dj dk b h1 h2 h3 h4 => ?_, S.trk, S.tpq, by rw [List.length_set, List.length_set]; exact S.len⟩
  · by_cases hj : i = j
    · subst hj
      by_cases hl : i < e.length
      · rw [getElem?_set_self' hl] at h
        cases h
        exact ⟨a, getElem?_set_self' (by rw [← S.len]; exact hl), o, F.he, F.h0, F.tp⟩
      · rw [List.getElem?_eq_none (by simpa using hl)] at h
        cases h
    · rw [List.getElem?_set_ne hj] at h
      rw [List.getElem?_set_ne hj]
      exact S.slot j s h
  · by_cases hj : j = i
    · by_cases hk : k = i
      · rw [hj, hk]
      · subst hj
        have hb : b = a := by
          by_cases hl : j < σ.length
          · rw [getElem?_set_self' hl] at h3; cases h3; rfl
          · rw [List.getElem?_eq_none (by simpa using hl)] at h3; cases h3
        exact absurd hb (off k dk b hk h2 h4)
    · by_cases hk : k = i
      · subst hk
        have hb : b = a := by
          by_cases hl : k < σ.length
          · rw [getElem?_set_self' hl] at h4; cases h4; rfl
          · rw [List.getElem?_eq_none (by simpa using hl)] at h4; cases h4
        exact absurd hb (off j dj b hj h1 h3)
      · rw [List.getElem?_set_ne (Ne.symm hj)] at h1 h3
        rw [List.getElem?_set_ne (Ne.symm hk)] at h2 h4
        exact S.sep j k dj dk b h1 h2 h3 h4
theorem s_own {i : Nat} {x : Str} {ex : Expr} {m : ME} {pos pos' : Pos} (hN : X.N.Nodup) (hi : X.N[i]? = some x) (hx : Loc X.env.scope x) (hf : X.fn x = true ∨ X.env.scope.names.lookup x = some .local) (h : PNw X c n W ex m) (hs : swapsWith ex (some (.Name x pos')) pos.line X.env = pure false) :
    PSt X c n W (.Assign [.Name x pos'] ex pos) (sOwn i m) := by
  refine ⟨fun pins s σ H D' I ⟨e, t, H0, p, S, q⟩ => ?_⟩
  refine (ps_set hN hi hx h hs hf).run pins s σ H D' I ⟨e, t, H0, p, S, ?_⟩
  have q : RS (tb X c) n H0 p t D' W ((m e t).bind fun d e t => .ok .next (e.set i (.own d)) t) := q
  cases hx : m e t with
  | ok d e1 t1 =>
    rw [hx] at q
    exact fun a G0 G S1 x1 o1 F1 => q _ _ _ _ (S1.putOwn o1 F1) x1 fun _ => rfl
  | err c fs => rw [hx] at q; exact q
  | stuck => rw [hx] at q; exact q
theorem SI.putTrk {T : Tb} {e : Env} {d : D} {σ : L2.St} {H0 H : Hp} {p a : Addr} {i : Nat} (S : SI T n e .non σ H0 H p) (o : OwnAt T H0 H d a) (F : Fresh n e .non σ H0 p a) (hd : d ≠ .non) : SI T n (e.set i .trk) d (σ.set i (some (.ref a))) H0 H a := by
  refine ⟨S.toSince, fun j s h => ?_, fun j k dj dk b h1 h2 h3 h4 => ?_, fun _ => ⟨o, F.h0, .inr F.he⟩, fun q hq => absurd rfl (S.tpq q hq).2, by rw [List.length_set, List.length_set]; exact S.len⟩
  · by_cases hj : i = j
    · subst hj
      by_cases hl : i < e.length
      · rw [getElem?_set_self' hl] at h
        cases h
        exact ⟨getElem?_set_self' (by rw [← S.len]; exact hl), hd⟩
      · rw [List.getElem?_eq_none (by simpa using hl)] at h
        cases h
    · rw [List.getElem?_set_ne hj] at h
      rw [List.getElem?_set_ne hj]
      have q := S.slot j s h
      cases s with
      | none => trivial
      | val d => exact q
      | own d' =>
        obtain ⟨b, h1, h2, h3, h4, h5⟩ := q
        exact ⟨b, h1, h2, h3, h4, fun _ => by rintro rfl; exact F.own j d' h h1⟩
      | trk => exact absurd rfl q.2
  · have n1 : i ≠ j := by
      rintro rfl
      by_cases hl : i < e.length
      · rw [getElem?_set_self' hl] at h1; cases h1
      · rw [List.getElem?_eq_none (by simpa using hl)] at h1; cases h1
    have n2 : i ≠ k := by
      rintro rfl
      by_cases hl : i < e.length
      · rw [getElem?_set_self' hl] at h2; cases h2
      · rw [List.getElem?_eq_none (by simpa using hl)] at h2; cases h2
    rw [List.getElem?_set_ne n1] at h1 h3
    rw [List.getElem?_set_ne n2] at h2 h4
    exact S.sep j k dj dk b h1 h2 h3 h4
theorem s_put {tg ex : Expr} {g : Tgt} {m : ME} {pos : Pos} (h : PM X c n W ex m) (hg : PTg X c n tg g) (hs : swapsWithSole [tg] ex pos.line X.env = pure false) (hw : swappedStores [tg] ex X.env = pure none) (h1 : (assignEach [tg] X.env).map (·.2) = [assign tg X.env]) :
    PSt X c n W (.Assign [tg] ex pos) (sPut g m) := by
  refine ⟨fun pins s σ H D' I ⟨e, t, H0, p, S, q⟩ => ?_⟩
  refine (ps_asg h hg hs hw h1).run pins s σ H D' I ⟨e, t, H0, p, S, ?_⟩
  have q : RS (tb X c) n H0 p t D' W ((m e t).bind fun d e t => match g.put d e with | some e => .ok .next e t | none => .stuck) := q
  cases hx : m e t with
  | ok d e1 t1 =>
    rw [hx] at q
    have q : RS (tb X c) n H0 p t D' W (match g.put d e1 with | some e => .ok .next e t1 | none => .stuck) := q
    intro v G0 G S1 x1 R1
    cases hp : g.put d e1 with
    | none => rw [hp] at q; exact q.elim
    | some e2 =>
      rw [hp] at q
      exact ⟨e1, e2, t1, G0, p, d, S1, R1, hp, fun σ' S2 _ => q _ _ _ _ S2 x1 fun _ => rfl⟩
  | err c fs => rw [hx] at q; exact q
  | stuck => rw [hx] at q; exact q

/-! ### for -/
theorem s_for {tg iter : Expr} {body : List Stmt} {g : Tgt} {it : ML} {mb : MS} {pos : Pos} (hp : PassesOwn (model X.prog X.w) X.A X.env X.xe) (hc : X.calm = true) (hi : PIt X c n W tg iter it) (hg : PTg X c n tg g) (hb : PSts X c n W body mb)
    (hs : ∀ x, foldedSetIterable iter X.env x = pure x) (hs1 : ∀ e t, match it e t with | .ok _ _ t' => t ≠ .non → t' ≠ .non | _ => True) (hs2 : ∀ e t, OKt t (mb e t)) : PSt X c n W (.For tg iter body [] pos) (sFor g it mb) := by
  refine ⟨fun pins s σ H D' I ⟨e, t, H0, p, S, q⟩ => ?_⟩
  refine (ps_for hp hc hi hg hb hs).run pins s σ H D' I ⟨e, t, H0, p, S, ?_⟩
  have q : RS (tb X c) n H0 p t D' W ((it e t).bind fun ds e t => forLoop g mb ds e t) := q
  have hs1 := hs1 e t
  cases hx : it e t with
  | err c fs => rw [hx] at q; exact q
  | stuck => rw [hx] at q; exact q
  | ok ds e1 t1 =>
    rw [hx] at q hs1
    have q : RS (tb X c) n H0 p t D' W (forLoop g mb ds e1 t1) := q
    have hs1 : t ≠ .non → t1 ≠ .non := hs1
    intro J G0 G S1 x1 jo
    refine ⟨fun i m σ H => m = ds.length - i ∧ i ≤ ds.length ∧ ∃ e2 t2 K0 p2, SI (tb X c) n e2 t2 σ K0 H p2 ∧ Ext G0 K0 ∧ (t ≠ .non → p2 = p ∧ t2 ≠ .non) ∧ RS (tb X c) n K0 p t D' W (forLoop g mb (ds.drop i) e2 t2), ⟨_, rfl, Nat.zero_le _, e1, t1, G0, p, S1, Ext.rfl', fun z => ⟨rfl, hs1 z⟩, q.mono x1⟩, ?_⟩
    rintro i m σ2 H2 ⟨rfl, hi, e2, t2, K0, p2, S2, y2, k2, q2⟩
    by_cases hlt : i < ds.length
    · have hd : ds.drop i = ds[i] :: ds.drop (i + 1) := List.drop_eq_getElem_cons hlt
      rw [hd] at q2
      have q2 : RS (tb X c) n K0 p t D' W (match g.put ds[i] e2 with | none => .stuck | some e => (mb e t2).bind fun f e t => match f with | .next => forLoop g mb (ds.drop (i + 1)) e t | .ret d => .ok (.ret d) e t) := q2
      refine .inr ⟨jo.go i K0 H2 y2 S2.sub hlt, fun σ' H' => i + 1 ≤ ds.length ∧ ∃ e2 t2 K0 p2, SI (tb X c) n e2 t2 σ' K0 H' p2 ∧ Ext G0 K0 ∧ (t ≠ .non → p2 = p ∧ t2 ≠ .non) ∧ RS (tb X c) n K0 p t D' W (forLoop g mb (ds.drop (i + 1)) e2 t2), fun σ' H' z => ⟨ds.length - (i + 1), by omega, rfl, z⟩, fun x H3 hy => ?_⟩
      obtain ⟨K1, gr, R1⟩ := jo.yld i ds[i] K0 H2 x H3 y2 S2.sub (by simp [hlt]) hy
      have S3 := S2.grow gr
      cases hp : g.put ds[i] e2 with
      | none => rw [hp] at q2; exact q2.elim
      | some e3 =>
        rw [hp] at q2
        refine ⟨e2, e3, t2, K1, p2, ds[i], S3, R1, hp, fun σ3 S4 _ => ⟨e3, t2, K1, p2, S4, ?_⟩⟩
        have q2 : RS (tb X c) n K0 p t D' W ((mb e3 t2).bind fun f e t => match f with | .next => forLoop g mb (ds.drop (i + 1)) e t | .ret d => .ok (.ret d) e t) := q2
        have q2 := q2.mono gr.ext0
        have h2 := hs2 e3 t2
        cases hm : mb e3 t2 with
        | ok f e4 t4 =>
          rw [hm] at q2 h2
          have h2 : t2 ≠ .non → t4 ≠ .non := h2
          cases f with
          | next =>
            intro σ5 K5 H5 p5 S5 x5 k5
            exact ⟨hlt, e4, t4, K5, p5, S5, (y2.trans gr.ext0).trans x5, fun z => ⟨(k5 (k2 z).2).trans (k2 z).1, h2 (k2 z).2⟩, RS.mono (show RS (tb X c) n K1 p t D' W (forLoop g mb (ds.drop (i + 1)) e4 t4) from q2) x5⟩
          | ret d => exact fun v σ5 K5 H5 p5 S5 x5 k5 => q2 v σ5 K5 H5 p5 S5 x5 fun z => (k5 (k2 z).2).trans (k2 z).1
        | err c fs => rw [hm] at q2; exact q2
        | stuck => rw [hm] at q2; exact q2
    · have e0 : i = ds.length := by omega
      subst e0
      rw [List.drop_length] at q2
      refine .inl ⟨jo.stop _ K0 H2 y2 S2.sub (Nat.le_refl _), ?_⟩
      exact q2 σ2 K0 H2 p2 S2 Ext.rfl' fun z => (k2 z).1
end
end DI
set_option linter.all false
set_option Elab.async false
set_option maxRecDepth 100000
set_option maxHeartbeats 4000000
/-! DSnd5: comprehensions; the followed thing stays. -/
namespace DI
open PySem PySem.Spec PyProof.Rows L2
/-- reckoning neither lets the followed thing go nor begins to follow one -/
def StE (m : ME) : Prop := ∀ e t d e' t', m e t = .ok d e' t' → (t' = .non ↔ t = .non)
def StL (m : ML) : Prop := ∀ e t d e' t', m e t = .ok d e' t' → (t' = .non ↔ t = .non)
def StO (x : R D) (t : D) : Prop := ∀ d e' t', x = .ok d e' t' → (t' = .non ↔ t = .non)

/-- the turn's own entry -/
theorem SI.block {T : Tb} {n : Ent} {e : Env} {t : D} {σ : L2.St} {H0 H : Hp} {p : Addr} {vs : List Nat} (S : SI T n e t σ H0 H p) : SI T ⟨H, H0, tpOf t p⟩ (clearE vs (hideE e)) t (wipe σ vs) H0 H p := by
  have hlen : ∀ (vs : List Nat) (e : Env), (clearE vs e).length = e.length := by
    intro vs
    induction vs with
    | nil => intro e; rfl
    | cons v vs ih => intro e; show (clearE vs (e.set v .none)).length = _; rw [ih, List.length_set]
  have hget : ∀ (vs : List Nat) (e : Env) (i : Nat) (s : Slot), (clearE vs e)[i]? = some s → s = .none ∨ (e[i]? = some s ∧ i ∉ vs) := by
    intro vs
    induction vs with
    | nil => intro e i s h; exact .inr ⟨h, by simp⟩
    | cons v vs ih =>
      intro e i s h
      have h : (clearE vs (e.set v .none))[i]? = some s := h
      rcases ih _ _ _ h with z | ⟨z, z2⟩
      · exact .inl z
      · by_cases hv : v = i
        · subst hv
          by_cases hl : v < e.length
          · rw [getElem?_set_self' hl] at z; cases z; exact .inl rfl
          · rw [List.getElem?_eq_none (by simpa using hl)] at z; cases z
        · rw [List.getElem?_set_ne hv] at z
          exact .inr ⟨z, by simp only [List.mem_cons, not_or]; exact ⟨fun q => hv q.symm, z2⟩⟩
  have hhide : ∀ (i : Nat) (s : Slot), (hideE e)[i]? = some s → s = .none ∨ (e[i]? = some s ∧ ∀ d, s ≠ .own d) := by
    intro i s h
    unfold hideE at h
    rw [List.getElem?_map] at h
    cases q : e[i]? with
    | none => rw [q] at h; cases h
    | some s' =>
      rw [q] at h
      cases s' with
      | own d => cases h; exact .inl rfl
      | none => cases h; exact .inl rfl
      | val d => cases h; exact .inr ⟨rfl, fun _ z => nomatch z⟩
      | trk => cases h; exact .inr ⟨rfl, fun _ z => nomatch z⟩
  have hw : ∀ (vs : List Nat) (i : Nat), i ∉ vs → (wipe σ vs)[i]? = σ[i]? := by
    intro vs
    induction vs with
    | nil => intro i _; rfl
    | cons v vs ih =>
      intro i hi
      unfold wipe
      have : v ≠ i := fun z => hi (by rw [z]; exact List.mem_cons_self)
      rw [List.getElem?_set_ne this]
      exact ih i fun z => hi (List.mem_cons_of_mem _ z)
  refine ⟨⟨S.sub, fun _ _ h _ => h, fun _ _ => rfl, Ext.rfl'⟩, fun i s h => ?_, fun i j di dj a h1 h2 => ?_, fun ht => ?_, fun q hq => ?_, by rw [hlen, wipe_length]; unfold hideE; rw [List.length_map]; exact S.len⟩
  · rcases hget _ _ _ _ h with z | ⟨z, z2⟩
    · subst z; trivial
    · rcases hhide _ _ z with y | ⟨y, y2⟩
      · subst y; trivial
      · have q := S.slot i s y
        cases s with
        | none => trivial
        | val d => obtain ⟨v, q1, q2⟩ := q; exact ⟨v, by rw [hw _ _ z2]; exact q1, q2⟩
        | own d => exact absurd rfl (y2 d)
        | trk => exact ⟨by rw [hw _ _ z2]; exact q.1, q.2⟩
  · rcases hget _ _ _ _ h1 with z | ⟨z, _⟩
    · cases z
    · rcases hhide _ _ z with y | ⟨_, y2⟩
      · cases y
      · exact absurd rfl (y2 di)
  · obtain ⟨h1, h2, _⟩ := S.trk ht
    exact ⟨h1, h2, .inl (tpOf_some ht)⟩
  · cases t with
    | non => cases hq
    | _ => cases hq; exact ⟨rfl, fun z => nomatch z⟩
/-- back from a turn -/
theorem SI.unblock {T : Tb} {n : Ent} {e e2 : Env} {t t2 : D} {σ σ2 : L2.St} {H0 H K0 K : Hp} {p : Addr} (S : SI T n e t σ H0 H p) (B : SI T ⟨H, H0, tpOf t p⟩ e2 t2 σ2 K0 K p) (ht : t2 = .non ↔ t = .non) : SI T n e t2 σ K0 K p := by
  by_cases h : t = .non
  · subst h
    obtain rfl : t2 = .non := ht.mpr rfl
    exact S.grow (Since.same B.toSince)
  · have h2 : t2 ≠ .non := fun z => h (ht.mp z)
    have B' := B.toSince
    rw [tpOf_some h] at B'
    obtain ⟨o1, o2, _⟩ := B.trk h2
    exact S.turned h B' o1 o2 h2
/-- what is new stays as it is through a turn -/
theorem Fresh.block {T : Tb} {n : Ent} {e e2 : Env} {t t2 : D} {σ σ2 : L2.St} {H0 H K0 K : Hp} {p a : Addr} {d : D} (F : Fresh n e t σ H0 p a) (B : SI T ⟨H, H0, tpOf t p⟩ e2 t2 σ2 K0 K p) (ht : t2 = .non ↔ t = .non) (o : OwnAt T H0 H d a) : OwnAt T K0 K d a ∧ Fresh n e t2 σ K0 p a ∧ ∀ u, H a = some u → K a = some u := by
  have k : ∀ u, H a = some u → K a = some u := fun u hu => by
    refine B.low a u hu fun z => ?_
    have z : tpOf t p = some a := z
    cases t with
    | non => cases z
    | _ => exact absurd (Option.some.inj z).symm (F.tp (fun y => nomatch y))
  obtain ⟨u, hu⟩ := o.there
  refine ⟨o.ext B.ext0 k, ⟨?_, F.he, F.own, fun h2 => F.tp fun z => h2 (ht.mpr z)⟩, k⟩
  rw [B.low0 a (ne_none hu)]
  exact F.h0

/-- wiping twice, or behind a target of these names -/
theorem wipe_same {σ σ' : L2.St} {vs : List Nat} (h : ∀ j, j ∉ vs → σ'[j]? = σ[j]?) (hl : σ'.length = σ.length) : wipe σ' vs = wipe σ vs := by
  apply List.ext_getElem?
  intro i
  by_cases hi : i ∈ vs
  · have hw : ∀ (τ : L2.St) (vs : List Nat), i ∈ vs → (wipe τ vs)[i]? = if i < τ.length then some none else none := by
      intro τ vs
      induction vs with
      | nil => intro h; cases h
      | cons v vs ih =>
        intro hm
        unfold wipe
        by_cases hv : v = i
        · subst hv
          by_cases hlt : v < τ.length
          · rw [if_pos hlt, getElem?_set_self' (by rw [wipe_length]; exact hlt)]
          · rw [if_neg hlt, List.getElem?_eq_none (by rw [List.length_set, wipe_length]; omega)]
        · rw [List.getElem?_set_ne hv]
          rcases List.mem_cons.mp hm with z | z
          · exact absurd z.symm hv
          · exact ih z
    rw [hw σ' vs hi, hw σ vs hi, hl]
  · rw [wipe_out hi, wipe_out hi, h i hi]
theorem wipe_wipe {σ : L2.St} {vs : List Nat} : wipe (wipe σ vs) vs = wipe σ vs := wipe_same (fun j hj => wipe_out hj) (wipe_length σ vs)

theorem setAll_elen : ∀ {is : List Nat} {ds : List D} {e e' : Env}, setAll is ds e = some e' → e'.length = e.length
  | [], [], _, _, h => by cases h; rfl
  | [], _ :: _, _, _, h => by cases h
  | _ :: _, [], _, _, h => by cases h
  | i :: is, d :: ds, e, e', h => by
    have h : setAll is ds (e.set i (.val d)) = some e' := h
    rw [setAll_elen h, List.length_set]
theorem put_len {g : Tgt} {d : D} {e e' : Env} (h : g.put d e = some e') : e'.length = e.length := by
  cases g with
  | one i => cases h; exact List.length_set
  | many is =>
    have h : (items d).bind (fun ds => setAll is ds e) = some e' := h
    cases hds : items d with
    | none => rw [hds] at h; cases h
    | some ds =>
      rw [hds] at h
      exact setAll_elen (show setAll is ds e = some e' from h)
section
variable {X : Cx} {c : CT} {n : Ent} {W : XW} {k : Nat}
abbrev W0 : XW := fun _ _ _ => False
/-- how a value in the block is read: at every entry -/
abbrev PMb (X : Cx) (c : CT) (scope : Scope) (ex : Expr) (m : ME) : Prop := ∀ (n : Ent) (s : Shared) (H : Hp) (C : Addr) (cl : List (Str × Addr)) (fp : List Addr), PM (X.blk s H scope (compEnvC scope cl C X.env) fp) c n W0 ex m
abbrev PTgb (X : Cx) (c : CT) (scope : Scope) (tg : Expr) (g : Tgt) : Prop := ∀ (n : Ent) (s : Shared) (H : Hp) (C : Addr) (cl : List (Str × Addr)) (fp : List Addr), PTg (X.blk s H scope (compEnvC scope cl C X.env) fp) c n tg g
/-- a test, or none -/
inductive PTsb (X : Cx) (c : CT) (scope : Scope) : List Expr → Option ME → Prop where
  | none : PTsb X c scope [] none
  | one {x : Expr} {m : ME} (h : ∀ (n : Ent) (s : Shared) (H : Hp) (C : Addr) (cl : List (Str × Addr)) (fp : List Addr), PB (X.blk s H scope (compEnvC scope cl C X.env) fp) c n W0 x m) (st : StE m) : PTsb X c scope [x] (some m)
def tTo (T : Tb) (n : Ent) : Option ME → TT
  | none => tYes
  | some m => tT T n W0 fun e t => asB (m e t)
/-- any entry -/
def exG (T : Tb) (g : Tgt) : TG := fun v σ H Q => ∃ n, tG T n g v σ H Q
def exT (T : Tb) (m : Option ME) : TT := fun σ H Q => ∃ n, tTo T n m σ H Q
def exE (T : Tb) (m : ME) : TE := fun σ H Q => ∃ n, tE T n W0 m σ H Q
theorem pg_ex {X : Cx} {tg : Expr} {g : Tgt} (h : ∀ n, PTg X c n tg g) : PG X tg (exG (tb X c) g) := ⟨fun pins s σ H v u Q I r ⟨n, q⟩ => (h n).run pins s σ H v u Q I r q⟩
theorem pe_ex {X : Cx} {ex : Expr} {m : ME} (h : ∀ n, PM X c n W0 ex m) : PE X ex (exE (tb X c) m) := ⟨fun pins s σ H Q I ⟨n, q⟩ => (h n).run pins s σ H Q I q⟩
theorem pts_ex {scope : Scope} {ifs : List Expr} {m : Option ME} (h : PTsb X c scope ifs m) (s : Shared) (H : Hp) (C : Addr) (cl : List (Str × Addr)) (fp : List Addr) : PTs (X.blk s H scope (compEnvC scope cl C X.env) fp) ifs (exT (tb X c) m) := by
  cases h with
  | none => exact ⟨fun pins s σ H Q I ⟨n, q⟩ => pts_nil.run pins s σ H Q I q⟩
  | one h st => exact ⟨fun pins s' σ H' Q I ⟨n, q⟩ => (pts_one (h n s H C cl fp)).run pins s' σ H' Q I q⟩
/-- the test of a turn -/
theorem cond_read {T : Tb} {co : Option ME} {α : Type} {kk : α → Env → D → R α} {a : α} {g : Tgt} {d : D} {e e1 : Env} {t : D} {σ : L2.St} {n : Ent} {H0 H : Hp} {p : Addr} {Q : Bool → Hp → Prop} (S : SI T n e1 t σ H0 H p) (hp : g.put d e = some e1) (hs : ∀ m, co = some m → StE m)
    {C : R α → Prop} (h : C (compTurn g co kk a d e t)) (hs0 : C .stuck → False) (he0 : ∀ c fs, C (.err c fs) → False)
    (hq : ∀ b e2 t2 K0 K, SI T n e2 t2 σ K0 K p → Ext H0 K0 → (t2 = .non ↔ t = .non) → C (if b then kk a e2 t2 else .ok a e2 t2) → Q b K) : tTo T n co σ H Q := by
  have h : C (compIf co kk a e1 t) := by
    unfold compTurn at h; rw [hp] at h; exact h
  unfold compIf at h
  cases co with
  | none => exact hq true e1 t H0 H S Ext.rfl' Iff.rfl (by simpa using h)
  | some m =>
    refine ⟨e1, t, H0, p, S, ?_⟩
    show RT T n σ H0 p Q W0 (asB (m e1 t))
    have h : C ((asB (m e1 t)).bind fun b e2 t2 => if b then kk a e2 t2 else .ok a e2 t2) := h
    cases hm : m e1 t with
    | ok d2 e2 t2 =>
      rw [hm] at h
      have st := hs m rfl _ _ _ _ _ hm
      cases d2 with
      | bl b => exact fun G0 G S2 x2 => hq b e2 t2 G0 G S2 x2 st h
      | _ => exact (hs0 h).elim
    | err k fs => rw [hm] at h; exact (he0 k fs h).elim
    | stuck => rw [hm] at h; exact (hs0 h).elim
theorem lim_eq : lim = sizeLine := by rw [sizeLine_eq]
/-- the reading of a list comprehension -/
theorem lc_read {it : ML} {g : Tgt} {co : Option ME} {m : ME} {vs : List Nat} {σ : L2.St} {H : Hp} {Q : VK} (hg : ∀ i ∈ g.slots, i ∈ vs) (hco : ∀ m, co = some m → StE m) (hm : StE m) (hit : StL it)
    (q : tN (tb X c) n W (mComp vs it g co m) σ H Q) : tLc (tI (tb X c) n W it) (exG (tb X c) g) (exT (tb X c) co) (exE (tb X c) m) vs σ H Q := by
  obtain ⟨e, t, H0, p, S, q⟩ := q
  refine ⟨e, t, H0, p, S, ?_⟩
  have q : RN (tb X c) n σ H0 p Q W ((it e t).bind fun ds e1 t1 => (compLoop g co (pushL m) (clearE vs (hideE e1)) ds [] t1).only fun a t2 => .ok (.lst a) e1 t2) := q
  cases hx : it e t with
  | err kk fs => rw [hx] at q; exact q
  | stuck => rw [hx] at q; exact q
  | ok ds e1 t1 =>
    rw [hx] at q
    have q : RN (tb X c) n σ H0 p Q W ((compLoop g co (pushL m) (clearE vs (hideE e1)) ds [] t1).only fun a t2 => .ok (.lst a) e1 t2) := q
    intro J G0 G S1 x1 jo Dl hD
    generalize he0 : clearE vs (hideE e1) = e0 at q
    obtain ⟨S2, F2⟩ := S1.lay (o := .lst []) hD
    refine ⟨fun i mm H2 => mm = ds.length - i ∧ i ≤ ds.length ∧ ∃ t2 K0 acc av, SI (tb X c) n e1 t2 σ K0 H2 p ∧ Ext G0 K0 ∧ Fresh n e1 t2 σ K0 p Dl ∧ H2 Dl = some (.lst av) ∧ Reps (tb X c) K0 acc av ∧
      RN (tb X c) n σ H0 p Q W ((compLoop g co (pushL m) e0 (ds.drop i) acc t2).only fun a t2 => .ok (.lst a) e1 t2),
      ⟨_, rfl, Nat.zero_le _, t1, G0, [], [], S2, Ext.rfl', F2, upd_same, rfl, q⟩, ?_⟩
    rintro i mm H2 ⟨rfl, hi, t2, K0, acc, av, S3, y3, F3, hD3, R3, q3⟩
    by_cases hlt : i < ds.length
    · have hd : ds.drop i = ds[i] :: ds.drop (i + 1) := List.drop_eq_getElem_cons hlt
      rw [hd] at q3
      refine .inr ⟨jo.go i K0 H2 y3 S3.sub hlt, fun H2 => i + 1 ≤ ds.length ∧ ∃ t2 K0 acc av, SI (tb X c) n e1 t2 σ K0 H2 p ∧ Ext G0 K0 ∧ Fresh n e1 t2 σ K0 p Dl ∧ H2 Dl = some (.lst av) ∧ Reps (tb X c) K0 acc av ∧
        RN (tb X c) n σ H0 p Q W ((compLoop g co (pushL m) e0 (ds.drop (i + 1)) acc t2).only fun a t2 => .ok (.lst a) e1 t2), fun H' z => ⟨ds.length - (i + 1), by omega, rfl, z⟩, fun x H3 hy => ?_⟩
      obtain ⟨K1, gr, R1⟩ := jo.yld i ds[i] K0 H2 x H3 y3 S3.sub (by simp [hlt]) hy
      have S4 := S3.grow gr
      have F4 := F3.grow gr (ne_none hD3)
      have hD4 : H3 Dl = some (.lst av) := gr.ext _ _ hD3
      have R4 := R3.ext gr.ext0
      have o4 : OwnAt (tb X c) K1 H3 (.lst acc) Dl := ⟨av, hD4, R4⟩
      have B4 := S4.block (vs := vs)
      rw [he0] at B4
      have C0 : RN (tb X c) n σ H0 p Q W (((compTurn g co (pushL m) acc ds[i] e0 t2).only fun a t => compLoop g co (pushL m) e0 (ds.drop (i + 1)) a t).only fun a t2 => .ok (.lst a) e1 t2) := q3
      cases hp : g.put ds[i] e0 with
      | none => unfold compTurn at C0; rw [hp] at C0; exact C0.elim
      | some e3 =>
        refine ⟨⟨H3, K1, tpOf t2 p⟩, e0, e3, t2, K1, p, ds[i], B4, R1, hp, fun σ3 B5 k5 => ⟨?_, ⟨H3, K1, tpOf t2 p⟩, ?_⟩⟩
        · rw [wipe_same (σ := wipe σ vs) (fun j hj => k5 j fun z => hj (hg j z)) (by rw [← B5.len, ← B4.len]; exact put_len hp), wipe_wipe]
        refine cond_read (C := fun r => RN (tb X c) n σ H0 p Q W ((r.only fun a t => compLoop g co (pushL m) e0 (ds.drop (i + 1)) a t).only fun a t2 => .ok (.lst a) e1 t2)) B5 hp hco C0 (fun z => z) (fun _ _ z => z) fun b e4 t4 L0 L B6 x6 st6 C6 => ?_
        cases b with
        | true =>
          show (if true = true then _ else _)
          rw [if_pos rfl]
          rw [if_pos rfl] at C6
          refine ⟨⟨H3, K1, tpOf t2 p⟩, e4, t4, L0, p, B6, ?_⟩
          have C6 : RN (tb X c) n σ H0 p Q W ((((m e4 t4).bind fun d e t => if acc.length < lim then .ok (acc ++ [d]) e t else .stuck).only fun a t => compLoop g co (pushL m) e0 (ds.drop (i + 1)) a t).only fun a t2 => .ok (.lst a) e1 t2) := C6
          cases hme : m e4 t4 with
          | err kk fs => rw [hme] at C6; exact C6.elim
          | stuck => rw [hme] at C6; exact C6.elim
          | ok d e5 t5 =>
            rw [hme] at C6
            have C6 : RN (tb X c) n σ H0 p Q W (((if acc.length < lim then R.ok (acc ++ [d]) e5 t5 else .stuck).only fun a t => compLoop g co (pushL m) e0 (ds.drop (i + 1)) a t).only fun a t2 => .ok (.lst a) e1 t2) := C6
            by_cases hz : acc.length < lim
            · rw [if_pos hz] at C6
              intro y M0 M B7 x7 R7
              have st7 : t5 = .non ↔ t2 = .non := (hm _ _ _ _ _ hme).trans st6
              obtain ⟨o7, F7, k7⟩ := F4.block B7 st7 o4
              have S7 := S4.unblock B7 st7
              have hD7 := k7 _ hD4
              refine ⟨av, hD7, by rw [← R4.length, ← lim_eq]; exact hz, hlt, t5, M0, acc ++ [d], av ++ [y], ?_, (y3.trans gr.ext0).trans B7.ext0, F7, upd_same, (R4.ext B7.ext0).append (Reps.one R7), C6⟩
              refine S7.but ⟨fun b u hb => ?_, fun b u hb hne => ?_, fun _ _ => rfl, Ext.rfl'⟩ F7
              · by_cases z : b = Dl
                · subst z; rw [F7.h0] at hb; cases hb
                · rw [upd_ne z]; exact S7.sub _ _ hb
              · rw [upd_ne (fun z => hne (by rw [z]))]; exact hb
            · rw [if_neg hz] at C6; exact C6.elim
        | false =>
          show (if false = true then _ else _)
          rw [if_neg Bool.false_ne_true]
          rw [if_neg Bool.false_ne_true] at C6
          obtain ⟨o7, F7, k7⟩ := F4.block B6 st6 o4
          exact ⟨hlt, t4, L0, acc, av, S4.unblock B6 st6, (y3.trans gr.ext0).trans B6.ext0, F7, k7 _ hD4, R4.ext B6.ext0, C6⟩
    · have e0' : i = ds.length := by omega
      subst e0'
      rw [List.drop_length] at q3
      refine .inl ⟨jo.stop _ K0 H2 y3 S3.sub (Nat.le_refl _), ?_⟩
      exact q3 Dl K0 H2 S3 (x1.trans y3) ⟨av, hD3, R3⟩ F3
theorem m_comp {elt tg iter : Expr} {ifs : List Expr} {scope : Scope} {own : List (Str × Nat)} {pos : Pos} {it : ML} {g : Tgt} {co : Option ME} {m : ME} (hc : X.calm = true) (hN : X.N.Nodup) (hi : PIt X c n W tg iter it) (ok : BlkOk X.N X.env.scope scope own)
    (hg : PTgb X c scope tg g) (ht : PTsb X c scope ifs co) (he : PMb X c scope elt m) (hs : ∀ x, foldedSetIterable iter X.env x = pure x) (hgs : ∀ i ∈ g.slots, i ∈ own.map (·.2)) (hm : StE m) (hit : StL it) :
    PNw X c n W (.ListComp elt [⟨tg, iter, ifs, 0⟩] scope pos) (mComp (own.map (·.2)) it g co m) := by
  refine ⟨fun pins s σ H Q I q => ?_⟩
  refine (pe_lc hc hN hi ok (fun s H C cl fp => pg_ex fun n => hg n s H C cl fp) (fun s H C cl fp => pts_ex ht s H C cl fp) (fun s H C cl fp => pe_ex fun n => he n s H C cl fp) hs).run pins s σ H Q I (lc_read hgs (fun mm hmm => ?_) hm hit q)
  cases ht with
  | none => cases hmm
  | one h st => cases hmm; exact st
/-- x = [..] on one line -/
theorem s_comp {own? : Bool} {i : Nat} {y : Str} {py : Pos} {elt tg iter : Expr} {ifs : List Expr} {scope : Scope} {own : List (Str × Nat)} {pos spos : Pos} {it : ML} {g : Tgt} {co : Option ME} {m : ME} (hc : X.calm = true) (hN : X.N.Nodup) (hy : X.N[i]? = some y) (hyl : X.env.scope.names.lookup y = some .local)
    (hsw : swapsWith (.ListComp elt [⟨tg, iter, ifs, 0⟩] scope pos) (some (.Name y py)) spos.line X.env = pure true) (hi : PIt X c n W tg iter it) (ok : BlkOk X.N X.env.scope scope own)
    (hg : PTgb X c scope tg g) (ht : PTsb X c scope ifs co) (he : PMb X c scope elt m) (hs : ∀ x, foldedSetIterable iter X.env x = pure x) (hgs : ∀ i ∈ g.slots, i ∈ own.map (·.2)) (hm : StE m) (hit : StL it) :
    PSt X c n W (.Assign [.Name y py] (.ListComp elt [⟨tg, iter, ifs, 0⟩] scope pos) spos) (sOwn i (mComp (own.map (·.2)) it g co m)) := by
  refine ⟨fun pins s σ H D' I ⟨e, t, H0, p, S, q⟩ => ?_⟩
  refine (ps_setLc hc hN hy hyl hsw hi ok (fun s H C cl fp => pg_ex fun n => hg n s H C cl fp) (fun s H C cl fp => pts_ex ht s H C cl fp) (fun s H C cl fp => pe_ex fun n => he n s H C cl fp) hs).run pins s σ H D' I (lc_read (Q := fun x H1 => gName i x σ H1 D'.nx) hgs (fun mm hmm => ?_) hm hit ⟨e, t, H0, p, S, ?_⟩)
  · cases ht with
    | none => cases hmm
    | one h st => cases hmm; exact st
  · have q : RS (tb X c) n H0 p t D' W ((mComp (own.map (·.2)) it g co m e t).bind fun d e t => .ok .next (e.set i (.own d)) t) := q
    cases hx : mComp (own.map (·.2)) it g co m e t with
    | ok d e1 t1 =>
      rw [hx] at q
      exact fun a G0 G S1 x1 o1 F1 => q _ _ _ _ (S1.putOwn o1 F1) x1 fun _ => rfl
    | err c fs => rw [hx] at q; exact q
    | stuck => rw [hx] at q; exact q
end
end DI
set_option linter.all false
set_option Elab.async false
set_option maxRecDepth 100000
set_option maxHeartbeats 4000000
/-! DSnd6: operators. -/
namespace DI
open PySem PySem.Spec PyProof.Rows L2
section
variable {X : Cx} {c : CT} {n : Ent} {W : XW} {k : Nat}
theorem Grow.tup {H0 H : Hp} {a : Addr} {o : HO} (s : Ext H0 H) (ha : H a = none) : Grow H0 H (upd H0 a o) (upd H a o) ∧ Ext H0 (upd H0 a o) := by
  have h0 : H0 a = none := by
    cases q : H0 a with
    | none => rfl
    | some u => rw [s _ _ q] at ha; cases ha
  refine ⟨⟨Ext.upd ha, Ext.upd h0, fun b u hb => ?_, fun b hb => upd_ne (by rintro rfl; exact hb ha)⟩, Ext.upd h0⟩
  by_cases e : b = a
  · subst e; rw [upd_same] at hb ⊢; exact hb
  · rw [upd_ne e] at hb ⊢; exact s _ _ hb
theorem limle {n : Nat} : (n ≤ lim) ↔ (n ≤ sizeLine) := by rw [lim_eq]
theorem str_len (s : Str) : s.length = s.cps.size := rfl
/-- a list + a list, both tracked -/
theorem op2_add : Op2 X c (binaryOp .Add) pAdd := by
  intro pins s σ H0 H x y v u dx dy d Q I x0 rx ry Rx Ry e q
  cases dx with
  | int i =>
    cases dy with
    | int j =>
      cases e
      have Rx : x = .int i := Rx
      have Ry : y = .int j := Ry
      subst Rx Ry
      exact op_add pins s σ H _ _ v u Q I rx ry ⟨i, j, rfl, rfl, q _ _ _ (Grow.refl x0) rfl⟩
    | _ => cases e
  | str a =>
    cases dy with
    | str b =>
      have e : (if a.length + b.length ≤ lim then some (D.str (a ++ b)) else none) = some d := e
      by_cases h : a.length + b.length ≤ lim
      · rw [if_pos h] at e
        cases e
        have Rx : x = .str a := Rx
        have Ry : y = .str b := Ry
        subst Rx Ry
        exact op_add_str pins s σ H _ _ v u Q I rx ry ⟨a, b, rfl, rfl, limle.mp h, q _ _ _ (Grow.refl x0) rfl⟩
      · rw [if_neg h] at e; cases e
    | _ => cases e
  | lst a =>
    cases dy with
    | lst b =>
      have e : (if a.length + b.length ≤ lim then some (D.lst (a ++ b)) else none) = some d := e
      by_cases h : a.length + b.length ≤ lim
      · rw [if_pos h] at e
        cases e
        obtain ⟨l, vs, rfl, h1, h2⟩ := Rx
        obtain ⟨l', vs', rfl, h1', h2'⟩ := Ry
        refine op_cat pins s σ H _ _ v u Q I rx ry ⟨l, l', vs, vs', rfl, rfl, x0 _ _ h1, x0 _ _ h1', ?_, fun p hp => ?_⟩
        · rw [← h2.length, ← h2'.length]; exact limle.mp h
        · obtain ⟨g, x1⟩ := Grow.tup (o := .lst (vs ++ vs')) x0 hp
          exact q _ _ _ g ⟨p, _, rfl, upd_same, (h2.append h2').ext x1⟩
      · rw [if_neg h] at e; cases e
    | _ => cases e
  | tup a =>
    cases dy with
    | tup b =>
      have e : (if a.length + b.length ≤ lim then some (D.tup (a ++ b)) else none) = some d := e
      by_cases h : a.length + b.length ≤ lim
      · rw [if_pos h] at e
        cases e
        obtain ⟨l, vs, rfl, h1, h2⟩ := Rx
        obtain ⟨l', vs', rfl, h1', h2'⟩ := Ry
        refine op_catA pins s σ H _ _ v u Q I rx ry ⟨l, l', vs, vs', rfl, rfl, h1.ext x0, h1'.ext x0, ?_, fun z => ?_, fun z z' => ?_, fun z z' p hp => ?_⟩
        · rw [← h2.length, ← h2'.length]; exact limle.mp h
        · subst z
          have : a = [] := List.length_eq_zero_iff.mp h2.length
          subst this
          exact q _ _ _ (Grow.refl x0) ⟨l', vs', rfl, h1', h2'⟩
        · subst z'
          have : b = [] := List.length_eq_zero_iff.mp h2'.length
          subst this
          rw [List.append_nil] at q
          exact q _ _ _ (Grow.refl x0) ⟨l, vs, rfl, h1, h2⟩
        · obtain ⟨g, x1⟩ := Grow.tup (o := .tup (vs ++ vs')) x0 hp
          exact q _ _ _ g ⟨p, _, rfl, SqT.of upd_same, (h2.append h2').ext x1⟩
      · rw [if_neg h] at e; cases e
    | _ => cases e
  | _ => cases dy <;> cases e
/-- two ints by an rI rule -/
theorem op2_int {f : Value → Value → Sem Value} {C : Int → Int → Prop} {r : Int → Int → V} {g : D → D → Option D} (h : OpR X f (rI C r)) (hg : ∀ dx dy d, g dx dy = some d → ∃ i j d', dx = .int i ∧ dy = .int j ∧ C i j ∧ d = d' ∧ ∀ (H : Hp), Rep (tb X c) H d' (r i j)) : Op2 X c f g := by
  intro pins s σ H0 H x y v u dx dy d Q I x0 rx ry Rx Ry e q
  obtain ⟨i, j, d', rfl, rfl, hc, rfl, hr⟩ := hg dx dy d e
  have Rx : x = .int i := Rx
  have Ry : y = .int j := Ry
  subst Rx Ry
  exact h pins s σ H _ _ v u Q I rx ry ⟨i, j, rfl, rfl, hc, q _ _ _ (Grow.refl x0) (hr _)⟩
theorem op2_int0 {f : Value → Value → Sem Value} {r : Int → Int → V} {g : D → D → Option D} (h : OpR X f (rI0 r)) (hg : ∀ dx dy d, g dx dy = some d → ∃ i j d', dx = .int i ∧ dy = .int j ∧ d = d' ∧ ∀ (H : Hp), Rep (tb X c) H d' (r i j)) : Op2 X c f g := by
  intro pins s σ H0 H x y v u dx dy d Q I x0 rx ry Rx Ry e q
  obtain ⟨i, j, d', rfl, rfl, rfl, hr⟩ := hg dx dy d e
  have Rx : x = .int i := Rx
  have Ry : y = .int j := Ry
  subst Rx Ry
  exact h pins s σ H _ _ v u Q I rx ry ⟨i, j, rfl, rfl, q _ _ _ (Grow.refl x0) (hr _)⟩
theorem op2_sub : Op2 X c (binaryOp .Sub) pSub := op2_int0 op_sub fun dx dy d e => by
  unfold pSub at e
  split at e <;> cases e
  exact ⟨_, _, _, rfl, rfl, rfl, fun _ => rfl⟩
theorem op2_mul : Op2 X c (binaryOp .Mult) pMul := op2_int op_mul fun dx dy d e => by
  unfold pMul at e
  split at e
  · split at e
    · cases e
      rename_i h
      exact ⟨_, _, _, rfl, rfl, h, rfl, fun _ => rfl⟩
    · cases e
  · cases e
theorem op2_fdiv : Op2 X c (binaryOp .FloorDiv) pFdiv := op2_int op_fdiv fun dx dy d e => by
  unfold pFdiv at e
  split at e
  · split at e
    · cases e
      rename_i h
      exact ⟨_, _, _, rfl, rfl, h, rfl, fun _ => rfl⟩
    · cases e
  · cases e
theorem op2_mod : Op2 X c (binaryOp .Mod) pMod := op2_int op_mod fun dx dy d e => by
  unfold pMod at e
  split at e
  · split at e
    · cases e
      rename_i h
      exact ⟨_, _, _, rfl, rfl, h, rfl, fun _ => rfl⟩
    · cases e
  · cases e
theorem op2_pow : Op2 X c (binaryOp .Pow) pPow := op2_int op_pow fun dx dy d e => by
  unfold pPow at e
  split at e
  · split at e
    · cases e
      rename_i h
      exact ⟨_, _, _, rfl, rfl, h, rfl, fun _ => rfl⟩
    · cases e
  · cases e
/-- ints or texts compared -/
theorem op2_ord {f : Value → Value → Sem Value} {r : Int → Int → V} {rs : Str → Str → V} {g : D → D → Option D} (h : OpR X f (rI0 r)) (h2 : OpR X f (fun x y H Q => ∃ i j, x = .str i ∧ y = .str j ∧ Q (rs i j) H))
    (hg : ∀ dx dy d, g dx dy = some d → (∃ i j d', dx = .int i ∧ dy = .int j ∧ d = d' ∧ ∀ (H : Hp), Rep (tb X c) H d' (r i j)) ∨ (∃ i j d', dx = .str i ∧ dy = .str j ∧ d = d' ∧ ∀ (H : Hp), Rep (tb X c) H d' (rs i j))) : Op2 X c f g := by
  intro pins s σ H0 H x y v u dx dy d Q I x0 rx ry Rx Ry e q
  rcases hg dx dy d e with ⟨i, j, d', rfl, rfl, rfl, hr⟩ | ⟨i, j, d', rfl, rfl, rfl, hr⟩
  · have Rx : x = .int i := Rx
    have Ry : y = .int j := Ry
    subst Rx Ry
    exact h pins s σ H _ _ v u Q I rx ry ⟨i, j, rfl, rfl, q _ _ _ (Grow.refl x0) (hr _)⟩
  · have Rx : x = .str i := Rx
    have Ry : y = .str j := Ry
    subst Rx Ry
    exact h2 pins s σ H _ _ v u Q I rx ry ⟨i, j, rfl, rfl, q _ _ _ (Grow.refl x0) (hr _)⟩
theorem op2_lt : Op2 X c (compareOp .Lt) pLt := op2_ord op_lt op_lt_str fun dx dy d e => by
  unfold pLt at e
  split at e <;> cases e
  · exact .inl ⟨_, _, _, rfl, rfl, rfl, fun _ => rfl⟩
  · exact .inr ⟨_, _, _, rfl, rfl, rfl, fun _ => rfl⟩
theorem op2_le : Op2 X c (compareOp .LtE) pLe := op2_ord op_le op_le_str fun dx dy d e => by
  unfold pLe at e
  split at e <;> cases e
  · exact .inl ⟨_, _, _, rfl, rfl, rfl, fun _ => rfl⟩
  · exact .inr ⟨_, _, _, rfl, rfl, rfl, fun _ => rfl⟩
theorem op2_gt : Op2 X c (compareOp .Gt) pGt := op2_ord op_gt op_gt_str fun dx dy d e => by
  unfold pGt at e
  split at e <;> cases e
  · exact .inl ⟨_, _, _, rfl, rfl, rfl, fun _ => rfl⟩
  · exact .inr ⟨_, _, _, rfl, rfl, rfl, fun _ => rfl⟩
theorem op2_ge : Op2 X c (compareOp .GtE) pGe := op2_ord op_ge op_ge_str fun dx dy d e => by
  unfold pGe at e
  split at e <;> cases e
  · exact .inl ⟨_, _, _, rfl, rfl, rfl, fun _ => rfl⟩
  · exact .inr ⟨_, _, _, rfl, rfl, rfl, fun _ => rfl⟩
/-! ### is None -/
theorem isNon_rep {T : Tb} {H : Hp} {d : D} {x : V} (R : Rep T H d x) : decide (x = .non) = isNon d := by
  cases d with
  | non => have R : x = .non := R; subst R; rfl
  | bl b => have R : x = .bl b := R; subst R; rfl
  | int b => have R : x = .int b := R; subst R; rfl
  | str b => have R : x = .str b := R; subst R; rfl
  | lst _ => obtain ⟨a, _, rfl, _⟩ := R; rfl
  | tup _ => obtain ⟨a, _, rfl, _⟩ := R; rfl
  | dic _ => obtain ⟨a, _, rfl, _⟩ := R; rfl
  | kdic _ => obtain ⟨a, _, rfl, _⟩ := R; rfl
  | obj _ _ => obtain ⟨a, _, _, rfl, _⟩ := R; rfl
  | trk => exact R.elim
theorem m1_run {T : Tb} {σ : L2.St} {H0 : Hp} {p : Addr} {Q : VK} {m : ME} {g : D → Option D} {e : Env} {t : D} (q : RE T n σ H0 p Q W (m1 g m e t)) :
    RE T n σ H0 p (fun x H1 => ∃ d d' e1 t1 G0, SI T n e1 t1 σ G0 H1 p ∧ Rep T G0 d x ∧ g d = some d' ∧ RE T n σ G0 p Q W (.ok d' e1 t1)) W (m e t) := by
  have q : RE T n σ H0 p Q W ((m e t).bind fun x e t => R.of (g x) e t) := q
  cases hx : m e t with
  | ok d e1 t1 =>
    rw [hx] at q
    have q : RE T n σ H0 p Q W (R.of (g d) e1 t1) := q
    intro v G0 G S1 x1 R1
    cases hg : g d with
    | none => rw [hg] at q; exact q.elim
    | some d' => rw [hg] at q; exact ⟨d, d', e1, t1, G0, S1, R1, hg, RE.mono (x := .ok d' e1 t1) q x1⟩
  | err k fs => rw [hx] at q; exact q
  | stuck => rw [hx] at q; exact q
theorem m_isN {a : Expr} {ma : ME} {j} {pos pos' : Pos} (ha : PM X c n W a ma) : PM X c n W (.Compare a [.Is] [.Constant .none j pos'] pos) (m1 pIsN ma) := by
  refine ⟨fun pins s σ H Q I ⟨e, t, H0, p, S, q⟩ => ?_⟩
  refine (pe_cmp (pc_isN ha) rfl).run pins s σ H Q I ⟨e, t, H0, p, S, ?_⟩
  have h := m1_run q
  cases hx : ma e t with
  | ok d e1 t1 =>
    rw [hx] at h
    intro v G0 G S1 x1 R1
    obtain ⟨d, d', e2, t2, G2, S2, R2, hg, q2⟩ := h v G0 G S1 x1 R1
    cases hg
    exact q2 _ _ _ S2 Ext.rfl' (by rw [isNon_rep R2]; rfl)
  | err k fs => rw [hx] at h; exact h
  | stuck => rw [hx] at h; exact h
theorem m_notN {a : Expr} {ma : ME} {j} {pos pos' : Pos} (ha : PM X c n W a ma) : PM X c n W (.Compare a [.IsNot] [.Constant .none j pos'] pos) (m1 pNotN ma) := by
  refine ⟨fun pins s σ H Q I ⟨e, t, H0, p, S, q⟩ => ?_⟩
  refine (pe_cmp (pc_notN ha) rfl).run pins s σ H Q I ⟨e, t, H0, p, S, ?_⟩
  have h := m1_run q
  cases hx : ma e t with
  | ok d e1 t1 =>
    rw [hx] at h
    intro v G0 G S1 x1 R1
    obtain ⟨d, d', e2, t2, G2, S2, R2, hg, q2⟩ := h v G0 G S1 x1 R1
    cases hg
    exact q2 _ _ _ S2 Ext.rfl' (by rw [isNon_rep R2]; rfl)
  | err k fs => rw [hx] at h; exact h
  | stuck => rw [hx] at h; exact h
/-- any comparison as a test, by its value -/
theorem b_val {x : Expr} {m : ME} (h : ∀ (pins : List (Addr × Obj)) (s : Shared) (σ : L2.St) (H : Hp) (Q : VK), Inv X pins σ H s → tE (tb X c) n W m σ H Q → wpAny (model X.prog X.w) X.A (isTrue x X.env (eval x X.env)) (TP X pins σ fun b H1 => Q (.bl b) H1) X.xe s) : PB X c n W x m := by
  refine ⟨fun pins s σ H Q I ⟨e, t, H0, p, S, q⟩ => ?_⟩
  refine thn (h pins s σ H (fun v H1 => ∀ b, v = .bl b → Q b H1) I ⟨e, t, H0, p, S, ?_⟩) fun b s1 ⟨H1, I1, q1⟩ => ⟨H1, I1, q1 b rfl⟩
  have q : RT (tb X c) n σ H0 p Q W (asB (m e t)) := q
  cases hx : m e t with
  | ok d e1 t1 =>
    rw [hx] at q
    intro v G0 G S1 x1 R1 b hb
    cases d with
    | bl b' =>
      have R1 : v = .bl b' := R1
      subst R1
      cases hb
      exact q G0 G S1 x1
    | _ => exact q.elim
  | err k fs => rw [hx] at q; exact q
  | stuck => rw [hx] at q; exact q
theorem b_isN {a : Expr} {ma : ME} {j} {pos pos' : Pos} (ha : PM X c n W a ma) : PB X c n W (.Compare a [.Is] [.Constant .none j pos'] pos) (m1 pIsN ma) := by
  refine b_val fun pins s σ H Q I q => ?_
  refine (pt_cmp (pc_isN ha) rfl).run pins s σ H (fun b H1 => Q (.bl b) H1) I ?_
  obtain ⟨e, t, H0, p, S, q⟩ := q
  refine ⟨e, t, H0, p, S, ?_⟩
  have h := m1_run q
  cases hx : ma e t with
  | ok d e1 t1 =>
    rw [hx] at h
    intro v G0 G S1 x1 R1
    obtain ⟨d, d', e2, t2, G2, S2, R2, hg, q2⟩ := h v G0 G S1 x1 R1
    cases hg
    exact ⟨_, rfl, q2 _ _ _ S2 Ext.rfl' (by rw [isNon_rep R2]; rfl)⟩
  | err k fs => rw [hx] at h; exact h
  | stuck => rw [hx] at h; exact h
theorem b_notN {a : Expr} {ma : ME} {j} {pos pos' : Pos} (ha : PM X c n W a ma) : PB X c n W (.Compare a [.IsNot] [.Constant .none j pos'] pos) (m1 pNotN ma) := by
  refine b_val fun pins s σ H Q I q => ?_
  refine (pt_cmp (pc_notN ha) rfl).run pins s σ H (fun b H1 => Q (.bl b) H1) I ?_
  obtain ⟨e, t, H0, p, S, q⟩ := q
  refine ⟨e, t, H0, p, S, ?_⟩
  have h := m1_run q
  cases hx : ma e t with
  | ok d e1 t1 =>
    rw [hx] at h
    intro v G0 G S1 x1 R1
    obtain ⟨d, d', e2, t2, G2, S2, R2, hg, q2⟩ := h v G0 G S1 x1 R1
    cases hg
    exact ⟨_, rfl, q2 _ _ _ S2 Ext.rfl' (by rw [isNon_rep R2]; rfl)⟩
  | err k fs => rw [hx] at h; exact h
  | stuck => rw [hx] at h; exact h
/-- a op b op' c -/
theorem m_chain {x y z : Expr} {mx my mz : ME} {f g : D → D → Option D} {o1 o2 : CmpOp} {pos : Pos} (hf : Op2 X c (compareOp o1) f) (hg : Op2 X c (compareOp o2) g) (hx : PM X c n W x mx) (hy : PM X c n W y my) (hz : PM X c n W z mz)
    (hch : ∀ {r r' : R2}, OpR X (compareOp o1) r → OpR X (compareOp o2) r' → ∀ {ta tb' tc : TE}, PE X x ta → PE X y tb' → PE X z tc → PE X (.Compare x [o1, o2] [y, z] pos) (tChain r r' ta tb' tc)) : PM X c n W (.Compare x [o1, o2] [y, z] pos) (mChain f g mx my mz) := by
  refine ⟨fun pins s σ H Q I ⟨e, t, H0, p, S, q⟩ => ?_⟩
  have q : RE (tb X c) n σ H0 p Q W ((mx e t).bind fun x e t => (my e t).bind fun y e t => (asB (R.of (f x y) e t)).bind fun k e t => if k then (mz e t).bind fun z e t => R.of (g y z) e t else .ok (.bl false) e t) := q
  refine (hch (r := fun x y H Q => ∃ H0 dx dy d, Ext H0 H ∧ Rep (tb X c) H0 dx x ∧ Rep (tb X c) H0 dy y ∧ f dx dy = some d ∧ ∀ z H0' H', Grow H0 H H0' H' → Rep (tb X c) H0' d z → Q z H')
    (r' := fun x y H Q => ∃ H0 dx dy d, Ext H0 H ∧ Rep (tb X c) H0 dx x ∧ Rep (tb X c) H0 dy y ∧ g dx dy = some d ∧ ∀ z H0' H', Grow H0 H H0' H' → Rep (tb X c) H0' d z → Q z H')
    (fun pins s σ H x y v u Q I rx ry ⟨H0, dx, dy, d, x0, Rx, Ry, e, q⟩ => hf pins s σ H0 H x y v u dx dy d Q I x0 rx ry Rx Ry e q)
    (fun pins s σ H x y v u Q I rx ry ⟨H0, dx, dy, d, x0, Rx, Ry, e, q⟩ => hg pins s σ H0 H x y v u dx dy d Q I x0 rx ry Rx Ry e q) hx hy hz).run pins s σ H Q I ⟨e, t, H0, p, S, ?_⟩
  have h1 := bindE (T := tb X c) (n := n) (σ := σ) (H0 := H0) (p := p) (W := W) (C := RE (tb X c) n σ H0 p Q W) RE.e RE.s q
  cases h : mx e t with
  | err k fs => rw [h] at h1; exact h1
  | stuck => rw [h] at h1; exact h1
  | ok dx e1 t1 =>
    rw [h] at h1
    intro vx G0 G S1 x1 R1
    obtain ⟨dx, e1, t1, G1, S1, x1, R1, q1⟩ := h1 vx G0 G S1 x1 R1
    refine ⟨e1, t1, G1, p, S1, ?_⟩
    have h2 := bindE (T := tb X c) (n := n) (σ := σ) (H0 := G1) (p := p) (W := W) (C := RE (tb X c) n σ G1 p Q W) RE.e RE.s (q1.mono x1)
    cases hh : my e1 t1 with
    | err k fs => rw [hh] at h2; exact h2
    | stuck => rw [hh] at h2; exact h2
    | ok dy e2 t2 =>
      rw [hh] at h2
      intro vy K0 K S2 x2 R2
      obtain ⟨dy, e2, t2, G2, S2, x2, R2, q2⟩ := h2 vy K0 K S2 x2 R2
      cases hfd : f dx dy with
      | none => rw [hfd] at q2; exact q2.elim
      | some d =>
        rw [hfd] at q2
        refine ⟨G2, dx, dy, d, S2.sub, R1.ext x2, R2, hfd, fun z H0' H' gr Rz => ?_⟩
        have q3 : RE (tb X c) n σ G2 p Q W ((asB (.ok d e2 t2)).bind fun k e t => if k then (mz e t).bind fun z e t => R.of (g dy z) e t else .ok (.bl false) e t) := RE.mono q2 x2
        have S3 := S2.grow gr
        cases d with
        | bl b =>
          have Rz : z = .bl b := Rz
          subst Rz
          refine ⟨b, rfl, ?_⟩
          cases b with
          | false =>
            show (if false = true then _ else _)
            rw [if_neg Bool.false_ne_true]
            exact q3 _ _ _ S3 gr.ext0 rfl
          | true =>
            show (if true = true then _ else _)
            rw [if_pos rfl]
            have q4 : RE (tb X c) n σ H0' p Q W ((mz e2 t2).bind fun z e t => R.of (g dy z) e t) := RE.mono (x := (mz e2 t2).bind fun z e t => R.of (g dy z) e t) (by simpa using q3) gr.ext0
            refine ⟨e2, t2, H0', p, S3, ?_⟩
            have h4 := bindE (T := tb X c) (n := n) (σ := σ) (H0 := H0') (p := p) (W := W) (C := RE (tb X c) n σ H0' p Q W) RE.e RE.s q4
            cases hz' : mz e2 t2 with
            | err k fs => rw [hz'] at h4; exact h4
            | stuck => rw [hz'] at h4; exact h4
            | ok dz e5 t5 =>
              rw [hz'] at h4
              intro vz L0 L S5 x5 R5
              obtain ⟨dz, e5, t5, G5, S5, x5, R5, q5⟩ := h4 vz L0 L S5 x5 R5
              cases hgd : g dy dz with
              | none => rw [hgd] at q5; exact q5.elim
              | some d2 =>
                rw [hgd] at q5
                exact ⟨G5, dy, dz, d2, S5.sub, (R2.ext gr.ext0).ext x5, R5, hgd, fun z H0' H' gr2 Rz => q5 _ _ _ (S5.grow gr2) (x5.trans gr2.ext0) Rz⟩
        | _ => exact q3.elim
end
end DI
set_option linter.all false
set_option Elab.async false
set_option maxRecDepth 100000
set_option maxHeartbeats 4000000
/-! DSnd7: equality of data, membership. -/
namespace DI
open PySem PySem.Spec PyProof.Rows L2

def eAt : List D → List D → Nat → Bool
  | x :: _, y :: _, 0 => deq x y
  | _ :: xs, _ :: ys, j + 1 => eAt xs ys j
  | _, _, _ => true
theorem eAt_min : ∀ xs ys : List D, ((List.range (min xs.length ys.length)).all (eAt xs ys) && (xs.length == ys.length)) = deqL xs ys
  | [], [] => rfl
  | [], _ :: _ => rfl
  | _ :: _, [] => rfl
  | x :: xs, y :: ys => by
    have e : min (x :: xs).length (y :: ys).length = min xs.length ys.length + 1 := by simp only [List.length_cons]; omega
    rw [e, List.range_succ_eq_map, List.all_cons, List.all_map]
    have e2 : (eAt (x :: xs) (y :: ys) ∘ Nat.succ) = eAt xs ys := by funext j; rfl
    rw [e2]
    show (deq x y && (List.range _).all (eAt xs ys) && (xs.length + 1 == ys.length + 1)) = (deq x y && deqL xs ys)
    rw [← eAt_min xs ys, Bool.and_assoc]
    congr 2
    rw [Bool.eq_iff_iff]
    simp
theorem eAt_all {xs ys : List D} (h : xs.length = ys.length) : (List.range xs.length).all (eAt xs ys) = deqL xs ys := by
  rw [← eAt_min xs ys, ← h, Nat.min_self]
  simp
theorem deqL_len {xs ys : List D} (h : xs.length ≠ ys.length) : deqL xs ys = false := by
  rw [← eAt_min xs ys]
  simp [h]

theorem valV_mem {κ : Type} [DecidableEq κ] : ∀ {kv : List (κ × V)} {q : κ × V}, (kv.map (·.1)).Nodup → q ∈ kv → valV kv q.1 = some q.2
  | [], _, _, h => by cases h
  | p :: r, q, nd, h => by
    rw [List.map_cons, List.nodup_cons] at nd
    rcases List.mem_cons.mp h with rfl | h
    · exact valV_pos rfl
    · rw [valV_neg (by intro e; exact nd.1 (e ▸ List.mem_map_of_mem h))]
      exact valV_mem nd.2 h


def flatD : D → Option V
  | .non => some .non
  | .bl b => some (.bl b)
  | .int i => some (.int i)
  | .str s => some (.str s)
  | _ => none
theorem flat_rep {T : Tb} {H : Hp} {x : D} {v v0 : V} (h : flatD x = some v0) (r : Rep T H x v) : v = v0 := by
  cases x <;> first | (cases h; exact r) | cases h
theorem rep_flat {T : Tb} {H : Hp} {y : D} {v : V} (r : Rep T H y v) (h : ∀ a, v ≠ .ref a) : flatD y = some v := by
  cases y with
  | non => have r : v = _ := r; rw [r]; rfl
  | bl _ => have r : v = _ := r; rw [r]; rfl
  | int _ => have r : v = _ := r; rw [r]; rfl
  | str _ => have r : v = _ := r; rw [r]; rfl
  | lst _ => obtain ⟨_, _, e, _⟩ := r; exact absurd e (h _)
  | tup _ => obtain ⟨_, _, e, _⟩ := r; exact absurd e (h _)
  | dic _ => obtain ⟨_, _, e, _⟩ := r; exact absurd e (h _)
  | kdic _ => obtain ⟨_, _, e, _⟩ := r; exact absurd e (h _)
  | obj _ _ => obtain ⟨_, _, _, e, _⟩ := r; exact absurd e (h _)
  | trk => exact r.elim
theorem flat_inj {x y : D} {v : V} (h : flatD x = some v) (k : flatD y = some v) : x = y := by
  cases x <;> cases h <;> cases y <;> cases k <;> rfl
theorem flat_same {T : Tb} {H : Hp} {x y : D} {v v0 : V} (h : flatD x = some v0) (hv : ∀ a, v0 ≠ .ref a) (r : Rep T H x v) (k : Rep T H y v) : x = y := by
  cases flat_rep h r
  exact flat_inj h (rep_flat k hv)
section
variable {X : Cx} {c : CT} {n : Ent} {W : XW} {pins : List (Addr × Obj)} {σ : L2.St} {H : Hp} {s : Shared}
theorem lst_tup (I : Inv X pins σ H s) {a : Addr} {vs us : List V} (h : H a = some (.lst vs)) (k : SqT X.K H a us) : False := by
  obtain ⟨_, _, ⟨o, _, e1, e2, _⟩, _⟩ := I.list (SqL.of h)
  obtain ⟨_, _, ⟨o', f1, f2, _⟩, _⟩ := I.tuple k
  rw [e1] at f1
  cases f1
  rw [e2] at f2
  exact absurd (Value.type.inj f2) (by decide)
theorem frz_nd (I : Inv X pins σ H s) {a : Addr} {o : Obj} {kv : List (Key × V)} (h : H a = some (.frz o (.dK kv))) : (kv.map (·.1)).Nodup := by
  obtain ⟨_, _, vs, r, _, _, _, _, _, _, _, _, nd⟩ := dk_rd I.hok (.inr ⟨o, h⟩)
  rw [r.keys]
  exact nd
mutual
theorem same_deq (I : Inv X pins σ H s) : ∀ (x : D) (n : Nat) (b : Bool) (y : D) (v : V), cok x n b y = true → Rep (tb X c) H x v → Rep (tb X c) H y v → deq x y = true
  | .non, _, _, y, v, _, h, k => by cases flat_same (v0 := .non) rfl (fun _ z => nomatch z) h k; rfl
  | .bl b, _, _, y, v, _, h, k => by cases flat_same (v0 := .bl b) rfl (fun _ z => nomatch z) h k; exact beq_self_eq_true _
  | .int b, _, _, y, v, _, h, k => by cases flat_same (v0 := .int b) rfl (fun _ z => nomatch z) h k; exact decide_eq_true rfl
  | .str b, _, _, y, v, _, h, k => by cases flat_same (v0 := .str b) rfl (fun _ z => nomatch z) h k; exact decide_eq_true rfl
  | .lst xs, 0, _, y, v, z, h, k => by cases z
  | .lst xs, n + 1, b, y, v, z, h, k => by
    obtain ⟨a, vs, rfl, h1, h2⟩ := h
    cases y with
    | lst ys =>
      obtain ⟨a', vs', e, k1, k2⟩ := k
      cases e
      rw [h1] at k1
      cases k1
      have z : (decide (xs.length ≠ ys.length) || cokL xs n b ys) = true := z
      rw [h2.length, k2.length] at z
      exact same_deqL I xs n b ys vs (by simpa using z) h2 k2
    | tup ys =>
      obtain ⟨a', vs', e, k1, k2⟩ := k
      cases e
      exact (lst_tup I h1 k1).elim
    | non => cases (show V.ref a = _ from k)
    | bl _ => cases (show V.ref a = _ from k)
    | int _ => cases (show V.ref a = _ from k)
    | str _ => cases (show V.ref a = _ from k)
    | _ => cases z
  | .tup xs, 0, _, y, v, z, h, k => by cases z
  | .tup xs, n + 1, b, y, v, z, h, k => by
    obtain ⟨a, vs, rfl, h1, h2⟩ := h
    cases y with
    | tup ys =>
      obtain ⟨a', vs', e, k1, k2⟩ := k
      cases e
      cases I.tuple_inj h1 k1
      exact same_deqL I xs n false ys vs z h2 k2
    | lst ys =>
      obtain ⟨a', vs', e, k1, k2⟩ := k
      cases e
      exact (lst_tup I k1 h1).elim
    | non => cases (show V.ref a = _ from k)
    | bl _ => cases (show V.ref a = _ from k)
    | int _ => cases (show V.ref a = _ from k)
    | str _ => cases (show V.ref a = _ from k)
    | _ => cases z
  | .dic ks, 0, _, y, v, z, h, k => by cases z
  | .dic ks, n + 1, b, y, v, z, h, k => by
    obtain ⟨a, kv, rfl, ⟨o, h1⟩, h2⟩ := h
    cases y with
    | dic ls =>
      obtain ⟨a', kv', e, ⟨o', k1⟩, k2⟩ := k
      cases e
      rw [h1] at k1
      cases k1
      have z : (b && (decide (ks.length ≠ ls.length) || cokK ks n b ls)) = true := z
      rw [h2.length, k2.length] at z
      show (decide (ks.length = ls.length) && deqK ks ls) = true
      rw [h2.length, k2.length]
      have z2 : b = true ∧ cokK ks n b ls = true := by simpa using z
      rw [same_deqK I ks n b ls kv kv z2.2 h2 k2 (frz_nd I h1) fun _ h => h]
      simp
    | _ => cases z
  | .kdic _, _, _, _, _, z, _, _ => by cases z
  | .obj _ _, _, _, _, _, z, _, _ => by cases z
  | .trk, _, _, _, _, z, _, _ => by cases z
termination_by structural x => x
theorem same_deqL (I : Inv X pins σ H s) : ∀ (xs : List D) (n : Nat) (b : Bool) (ys : List D) (vs : List V), cokL xs n b ys = true → Reps (tb X c) H xs vs → Reps (tb X c) H ys vs → deqL xs ys = true
  | [], _, _, ys, vs, _, h, k => by
    have h : vs = [] := h
    subst h
    cases ys with
    | nil => rfl
    | cons _ _ => obtain ⟨_, _, e, _⟩ := k; cases e
  | x :: xs, n, b, ys, vs, z, h, k => by
    obtain ⟨v, r, rfl, h1, h2⟩ := h
    cases ys with
    | nil => cases (show _ = [] from k)
    | cons y ys =>
      obtain ⟨v', r', e, k1, k2⟩ := k
      cases e
      have z : (cok x n b y && cokL xs n b ys) = true := z
      rw [Bool.and_eq_true] at z
      show (deq x y && deqL xs ys) = true
      rw [same_deq I x n b y v z.1 h1 k1, same_deqL I xs n b ys r z.2 h2 k2]
      rfl
termination_by structural x => x
theorem same_deqP (I : Inv X pins σ H s) : ∀ (p : D × D) (n : Nat) (b : Bool) (ls : List (D × D)) (q : Key × V) (kv : List (Key × V)), cokP p n b ls = true → RepP (tb X c) H p q → RepK (tb X c) H ls kv → (kv.map (·.1)).Nodup → q ∈ kv → deqP p ls = true
  | (k, d), n, b, ls, q, kv, z, h, hl, nd, hm => by
    obtain ⟨e, h⟩ := h
    have e : k = keyD q.1 := e
    subst e
    have z : (match dlook (keyD q.1) ls with | some u => cok d n b u | none => true) = true := z
    show (match dlook (keyD q.1) ls with | some u => deq d u | none => false) = true
    rcases hl.look (k := q.1) with ⟨u, v, e1, e2, r⟩ | ⟨_, e2⟩
    · rw [valV_mem nd hm] at e2
      cases e2
      rw [e1] at z ⊢
      exact same_deq I d n b u _ z h r
    · rw [valV_mem nd hm] at e2
      cases e2
termination_by structural x => x
theorem same_deqK (I : Inv X pins σ H s) : ∀ (ks : List (D × D)) (n : Nat) (b : Bool) (ls : List (D × D)) (kv1 kv : List (Key × V)), cokK ks n b ls = true → RepK (tb X c) H ks kv1 → RepK (tb X c) H ls kv → (kv.map (·.1)).Nodup → (∀ q, q ∈ kv1 → q ∈ kv) → deqK ks ls = true
  | [], _, _, ls, vs, _, _, h, k, _, _ => rfl
  | p :: ks, n, b, ls, kv1, kv, z, h, k, nd, hm => by
    obtain ⟨q, r, rfl, h1, h2⟩ := h
    have z : (cokP p n b ls && cokK ks n b ls) = true := z
    rw [Bool.and_eq_true] at z
    show (deqP p ls && deqK ks ls) = true
    rw [same_deqP I p n b ls q kv z.1 h1 k nd (hm q List.mem_cons_self), same_deqK I ks n b ls r kv z.2 h2 k nd fun q hq => hm q (List.mem_cons_of_mem _ hq)]
    rfl
termination_by structural x => x
end
theorem EqAt_rc {A : Around} {u v : Value} {b b' : Bool} (h : SeqAt.RcAt A s u v b) (e : b = b') : SeqAt.RcAt A s u v b' := e ▸ h
theorem EqAt_cast {A : Around} {u v : Value} {b b' : Bool} (h : SeqAt.EqAt A s u v b) (e : b = b') : SeqAt.EqAt A s u v b' := e ▸ h
open SeqAt in
theorem at_flat (I : Inv X pins σ H s) {A : Around} {x y : D} {v0 : V} {vx vy : V} {u v : Value} (hx : flatD x = some v0) (hy : simple y = true) (hu : A.units < cLine) (Rx : Rep (tb X c) H x vx) (Ry : Rep (tb X c) H y vy) (rx : RelV vx u) (ry : RelV vy v) : EqAt A s u v (deq x y) ∧ EqAt A s v u (deq x y) := by
  have dI : ∀ i j : Int, (i == j) = decide (i = j) := fun i j => rfl
  have dS : ∀ i j : Str, (i == j) = decide (i = j) := fun i j => by rw [Bool.eq_iff_iff]; simp
  have cI : ∀ i j : Int, (i == j) = decide (j = i) := fun i j => by rw [Bool.eq_iff_iff, beq_iff_eq, decide_eq_true_eq]; exact eq_comm
  have cS : ∀ i j : Str, (i == j) = decide (j = i) := fun i j => by rw [Bool.eq_iff_iff, beq_iff_eq, decide_eq_true_eq]; exact eq_comm
  have cB : ∀ i j : Bool, (i == j) = (j == i) := fun i j => by cases i <;> cases j <;> rfl
  cases x <;> cases hx
  case non =>
    cases y with
    | non =>
      have Rx : vx = .non := Rx
      subst Rx
      cases rx
      have Ry : vy = .non := Ry
      subst Ry
      cases ry
      refine ⟨EqAt_cast (EqAt.same _) ?_, EqAt_cast (EqAt.same _) ?_⟩ <;> first | rfl | exact dI _ _ | exact cI _ _ | exact dS _ _ | exact cS _ _ | exact cB _ _
    | bl b =>
      have Rx : vx = .non := Rx
      subst Rx
      cases rx
      have Ry : vy = .bl _ := Ry
      subst Ry
      cases ry
      refine ⟨EqAt_cast (EqAt.none_bool _) ?_, EqAt_cast (EqAt.bool_none _) ?_⟩ <;> first | rfl | exact dI _ _ | exact cI _ _ | exact dS _ _ | exact cS _ _ | exact cB _ _
    | int b =>
      have Rx : vx = .non := Rx
      subst Rx
      cases rx
      have Ry : vy = .int _ := Ry
      subst Ry
      obtain ⟨ty, rfl⟩ := ry
      refine ⟨EqAt_cast (EqAt.none_int _ _) ?_, EqAt_cast (EqAt.int_none _ _) ?_⟩ <;> first | rfl | exact dI _ _ | exact cI _ _ | exact dS _ _ | exact cS _ _ | exact cB _ _
    | str b =>
      have Rx : vx = .non := Rx
      subst Rx
      cases rx
      have Ry : vy = .str _ := Ry
      subst Ry
      obtain ⟨ty, rfl⟩ := ry
      refine ⟨EqAt_cast (EqAt.none_str _ _) ?_, EqAt_cast (EqAt.str_none _ _) ?_⟩ <;> first | rfl | exact dI _ _ | exact cI _ _ | exact dS _ _ | exact cS _ _ | exact cB _ _
    | lst ys =>
      have Rx : vx = .non := Rx
      subst Rx
      cases rx
      obtain ⟨a, vs, rfl, h1, _⟩ := Ry
      obtain ⟨its, _, p, _⟩ := I.list (SqL.of h1)
      have hq := p.isList
      obtain rfl : v = Value.ref a := ry
      refine ⟨EqAt_cast (EqAt.none_list hq hu) ?_, EqAt_cast (EqAt.list_none hq hu) ?_⟩ <;> first | rfl | exact dI _ _ | exact cI _ _ | exact dS _ _ | exact cS _ _ | exact cB _ _
    | tup ys =>
      have Rx : vx = .non := Rx
      subst Rx
      cases rx
      obtain ⟨a, vs, rfl, h1, _⟩ := Ry
      obtain ⟨its, _, p, _⟩ := I.tuple h1
      have hq : s.heap.IsTuple a its.toArray := p
      obtain rfl : v = Value.ref a := ry
      refine ⟨EqAt_cast (EqAt.none_tuple hq hu) ?_, EqAt_cast (EqAt.tuple_none hq hu) ?_⟩ <;> first | rfl | exact dI _ _ | exact cI _ _ | exact dS _ _ | exact cS _ _ | exact cB _ _
    | _ => cases hy
  case bl =>
    cases y with
    | non =>
      have Rx : vx = .bl _ := Rx
      subst Rx
      cases rx
      have Ry : vy = .non := Ry
      subst Ry
      cases ry
      refine ⟨EqAt_cast (EqAt.bool_none _) ?_, EqAt_cast (EqAt.none_bool _) ?_⟩ <;> first | rfl | exact dI _ _ | exact cI _ _ | exact dS _ _ | exact cS _ _ | exact cB _ _
    | bl b =>
      have Rx : vx = .bl _ := Rx
      subst Rx
      cases rx
      have Ry : vy = .bl _ := Ry
      subst Ry
      cases ry
      refine ⟨EqAt_cast (EqAt.bool_bool _ _) ?_, EqAt_cast (EqAt.bool_bool _ _) ?_⟩ <;> first | rfl | exact dI _ _ | exact cI _ _ | exact dS _ _ | exact cS _ _ | exact cB _ _
    | int b =>
      have Rx : vx = .bl _ := Rx
      subst Rx
      cases rx
      have Ry : vy = .int _ := Ry
      subst Ry
      obtain ⟨ty, rfl⟩ := ry
      refine ⟨EqAt_cast (EqAt.bool_int _ _ _) ?_, EqAt_cast (EqAt.int_bool _ _ _) ?_⟩ <;> first | rfl | exact dI _ _ | exact cI _ _ | exact dS _ _ | exact cS _ _ | exact cB _ _
    | str b =>
      have Rx : vx = .bl _ := Rx
      subst Rx
      cases rx
      have Ry : vy = .str _ := Ry
      subst Ry
      obtain ⟨ty, rfl⟩ := ry
      refine ⟨EqAt_cast (EqAt.bool_str _ _ _) ?_, EqAt_cast (EqAt.str_bool _ _ _) ?_⟩ <;> first | rfl | exact dI _ _ | exact cI _ _ | exact dS _ _ | exact cS _ _ | exact cB _ _
    | lst ys =>
      have Rx : vx = .bl _ := Rx
      subst Rx
      cases rx
      obtain ⟨a, vs, rfl, h1, _⟩ := Ry
      obtain ⟨its, _, p, _⟩ := I.list (SqL.of h1)
      have hq := p.isList
      obtain rfl : v = Value.ref a := ry
      refine ⟨EqAt_cast (EqAt.bool_list _ hq hu) ?_, EqAt_cast (EqAt.list_bool _ hq hu) ?_⟩ <;> first | rfl | exact dI _ _ | exact cI _ _ | exact dS _ _ | exact cS _ _ | exact cB _ _
    | tup ys =>
      have Rx : vx = .bl _ := Rx
      subst Rx
      cases rx
      obtain ⟨a, vs, rfl, h1, _⟩ := Ry
      obtain ⟨its, _, p, _⟩ := I.tuple h1
      have hq : s.heap.IsTuple a its.toArray := p
      obtain rfl : v = Value.ref a := ry
      refine ⟨EqAt_cast (EqAt.bool_tuple _ hq hu) ?_, EqAt_cast (EqAt.tuple_bool _ hq hu) ?_⟩ <;> first | rfl | exact dI _ _ | exact cI _ _ | exact dS _ _ | exact cS _ _ | exact cB _ _
    | _ => cases hy
  case int =>
    cases y with
    | non =>
      have Rx : vx = .int _ := Rx
      subst Rx
      obtain ⟨tx, rfl⟩ := rx
      have Ry : vy = .non := Ry
      subst Ry
      cases ry
      refine ⟨EqAt_cast (EqAt.int_none _ _) ?_, EqAt_cast (EqAt.none_int _ _) ?_⟩ <;> first | rfl | exact dI _ _ | exact cI _ _ | exact dS _ _ | exact cS _ _ | exact cB _ _
    | bl b =>
      have Rx : vx = .int _ := Rx
      subst Rx
      obtain ⟨tx, rfl⟩ := rx
      have Ry : vy = .bl _ := Ry
      subst Ry
      cases ry
      refine ⟨EqAt_cast (EqAt.int_bool _ _ _) ?_, EqAt_cast (EqAt.bool_int _ _ _) ?_⟩ <;> first | rfl | exact dI _ _ | exact cI _ _ | exact dS _ _ | exact cS _ _ | exact cB _ _
    | int b =>
      have Rx : vx = .int _ := Rx
      subst Rx
      obtain ⟨tx, rfl⟩ := rx
      have Ry : vy = .int _ := Ry
      subst Ry
      obtain ⟨ty, rfl⟩ := ry
      refine ⟨EqAt_cast (EqAt.int_int _ _ _ _) ?_, EqAt_cast (EqAt.int_int _ _ _ _) ?_⟩ <;> first | rfl | exact dI _ _ | exact cI _ _ | exact dS _ _ | exact cS _ _ | exact cB _ _
    | str b =>
      have Rx : vx = .int _ := Rx
      subst Rx
      obtain ⟨tx, rfl⟩ := rx
      have Ry : vy = .str _ := Ry
      subst Ry
      obtain ⟨ty, rfl⟩ := ry
      refine ⟨EqAt_cast (EqAt.int_str _ _ _ _) ?_, EqAt_cast (EqAt.str_int _ _ _ _) ?_⟩ <;> first | rfl | exact dI _ _ | exact cI _ _ | exact dS _ _ | exact cS _ _ | exact cB _ _
    | lst ys =>
      have Rx : vx = .int _ := Rx
      subst Rx
      obtain ⟨tx, rfl⟩ := rx
      obtain ⟨a, vs, rfl, h1, _⟩ := Ry
      obtain ⟨its, _, p, _⟩ := I.list (SqL.of h1)
      have hq := p.isList
      obtain rfl : v = Value.ref a := ry
      refine ⟨EqAt_cast (EqAt.int_list _ _ hq hu) ?_, EqAt_cast (EqAt.list_int _ _ hq hu) ?_⟩ <;> first | rfl | exact dI _ _ | exact cI _ _ | exact dS _ _ | exact cS _ _ | exact cB _ _
    | tup ys =>
      have Rx : vx = .int _ := Rx
      subst Rx
      obtain ⟨tx, rfl⟩ := rx
      obtain ⟨a, vs, rfl, h1, _⟩ := Ry
      obtain ⟨its, _, p, _⟩ := I.tuple h1
      have hq : s.heap.IsTuple a its.toArray := p
      obtain rfl : v = Value.ref a := ry
      refine ⟨EqAt_cast (EqAt.int_tuple _ _ hq hu) ?_, EqAt_cast (EqAt.tuple_int _ _ hq hu) ?_⟩ <;> first | rfl | exact dI _ _ | exact cI _ _ | exact dS _ _ | exact cS _ _ | exact cB _ _
    | _ => cases hy
  case str =>
    cases y with
    | non =>
      have Rx : vx = .str _ := Rx
      subst Rx
      obtain ⟨tx, rfl⟩ := rx
      have Ry : vy = .non := Ry
      subst Ry
      cases ry
      refine ⟨EqAt_cast (EqAt.str_none _ _) ?_, EqAt_cast (EqAt.none_str _ _) ?_⟩ <;> first | rfl | exact dI _ _ | exact cI _ _ | exact dS _ _ | exact cS _ _ | exact cB _ _
    | bl b =>
      have Rx : vx = .str _ := Rx
      subst Rx
      obtain ⟨tx, rfl⟩ := rx
      have Ry : vy = .bl _ := Ry
      subst Ry
      cases ry
      refine ⟨EqAt_cast (EqAt.str_bool _ _ _) ?_, EqAt_cast (EqAt.bool_str _ _ _) ?_⟩ <;> first | rfl | exact dI _ _ | exact cI _ _ | exact dS _ _ | exact cS _ _ | exact cB _ _
    | int b =>
      have Rx : vx = .str _ := Rx
      subst Rx
      obtain ⟨tx, rfl⟩ := rx
      have Ry : vy = .int _ := Ry
      subst Ry
      obtain ⟨ty, rfl⟩ := ry
      refine ⟨EqAt_cast (EqAt.str_int _ _ _ _) ?_, EqAt_cast (EqAt.int_str _ _ _ _) ?_⟩ <;> first | rfl | exact dI _ _ | exact cI _ _ | exact dS _ _ | exact cS _ _ | exact cB _ _
    | str b =>
      have Rx : vx = .str _ := Rx
      subst Rx
      obtain ⟨tx, rfl⟩ := rx
      have Ry : vy = .str _ := Ry
      subst Ry
      obtain ⟨ty, rfl⟩ := ry
      refine ⟨EqAt_cast (EqAt.str_str _ _ _ _) ?_, EqAt_cast (EqAt.str_str _ _ _ _) ?_⟩ <;> first | rfl | exact dI _ _ | exact cI _ _ | exact dS _ _ | exact cS _ _ | exact cB _ _
    | lst ys =>
      have Rx : vx = .str _ := Rx
      subst Rx
      obtain ⟨tx, rfl⟩ := rx
      obtain ⟨a, vs, rfl, h1, _⟩ := Ry
      obtain ⟨its, _, p, _⟩ := I.list (SqL.of h1)
      have hq := p.isList
      obtain rfl : v = Value.ref a := ry
      refine ⟨EqAt_cast (EqAt.str_list _ _ hq hu) ?_, EqAt_cast (EqAt.list_str _ _ hq hu) ?_⟩ <;> first | rfl | exact dI _ _ | exact cI _ _ | exact dS _ _ | exact cS _ _ | exact cB _ _
    | tup ys =>
      have Rx : vx = .str _ := Rx
      subst Rx
      obtain ⟨tx, rfl⟩ := rx
      obtain ⟨a, vs, rfl, h1, _⟩ := Ry
      obtain ⟨its, _, p, _⟩ := I.tuple h1
      have hq : s.heap.IsTuple a its.toArray := p
      obtain rfl : v = Value.ref a := ry
      refine ⟨EqAt_cast (EqAt.str_tuple _ _ hq hu) ?_, EqAt_cast (EqAt.tuple_str _ _ hq hu) ?_⟩ <;> first | rfl | exact dI _ _ | exact cI _ _ | exact dS _ _ | exact cS _ _ | exact cB _ _
    | _ => cases hy

theorem lst_at (I : Inv X pins σ H s) {a : Addr} {vs : List V} (h : H a = some (.lst vs)) : ∃ its : List Value, Vals vs its ∧ s.heap.IsList a its.toArray := by
  obtain ⟨its, r, p, _⟩ := I.list (SqL.of h)
  exact ⟨its, r, p.isList⟩
theorem tup_at (I : Inv X pins σ H s) {a : Addr} {vs : List V} (h : SqT X.K H a vs) : ∃ its : List Value, Vals vs its ∧ s.heap.IsTuple a its.toArray := by
  obtain ⟨its, r, p, _⟩ := I.tuple h
  exact ⟨its, r, p⟩
open SeqAt in
/-- a list or tuple against what is neither -/
theorem at_seq_flat (I : Inv X pins σ H s) {A : Around} {x y : D} {v0 : V} {vx vy : V} {u v : Value} (hx : simple x = true) (hy : flatD y = some v0) (hu : A.units < cLine) (Rx : Rep (tb X c) H x vx) (Ry : Rep (tb X c) H y vy) (rx : RelV vx u) (ry : RelV vy v) (e : deq y x = deq x y) : EqAt A s u v (deq x y) :=
  EqAt_cast (at_flat I hy hx hu Ry Rx ry rx).2 e
mutual
theorem at_run (I : Inv X pins σ H s) : ∀ (x : D) (n : Nat) (y : D) (A : Around) (vx vy : V) (u v : Value), cok x n false y = true → A.units + n < cLine → Rep (tb X c) H x vx → Rep (tb X c) H y vy → RelV vx u → RelV vy v → SeqAt.EqAt A s u v (deq x y)
  | .non, n, y, A, vx, vy, u, v, z, hu, Rx, Ry, rx, ry => (at_flat I (v0 := .non) rfl z (by omega) Rx Ry rx ry).1
  | .bl b, n, y, A, vx, vy, u, v, z, hu, Rx, Ry, rx, ry => (at_flat I (v0 := .bl b) rfl z (by omega) Rx Ry rx ry).1
  | .int b, n, y, A, vx, vy, u, v, z, hu, Rx, Ry, rx, ry => (at_flat I (v0 := .int b) rfl z (by omega) Rx Ry rx ry).1
  | .str b, n, y, A, vx, vy, u, v, z, hu, Rx, Ry, rx, ry => (at_flat I (v0 := .str b) rfl z (by omega) Rx Ry rx ry).1
  | .lst xs, 0, y, _, _, _, _, _, z, _, _, _, _, _ => by cases z
  | .lst xs, n + 1, y, A, vx, vy, u, v, z, hu, Rx, Ry, rx, ry => by
    have hu0 : A.units < cLine := by omega
    cases y with
    | non => exact at_seq_flat (v0 := .non) I rfl rfl hu0 Rx Ry rx ry rfl
    | bl b => exact at_seq_flat (v0 := .bl b) I rfl rfl hu0 Rx Ry rx ry rfl
    | int b => exact at_seq_flat (v0 := .int b) I rfl rfl hu0 Rx Ry rx ry rfl
    | str b => exact at_seq_flat (v0 := .str b) I rfl rfl hu0 Rx Ry rx ry rfl
    | tup ys =>
      obtain ⟨a, vs, rfl, h1, h2⟩ := Rx
      obtain ⟨a', vs', rfl, k1, k2⟩ := Ry
      obtain rfl : u = Value.ref a := rx
      obtain rfl : v = Value.ref a' := ry
      obtain ⟨its, r, p⟩ := lst_at I h1
      obtain ⟨its', r', p'⟩ := tup_at I k1
      exact EqAt_cast (.list_tuple p p' hu0) rfl
    | lst ys =>
      have z : (decide (xs.length ≠ ys.length) || cokL xs n false ys) = true := z
      by_cases hs : ∃ a, u = .ref a ∧ v = .ref a
      · obtain ⟨a, rfl, rfl⟩ := hs
        have e : vx = vy := rx.inj ry
        subst e
        exact EqAt_cast (.same _) (same_deq I (.lst xs) (n + 1) false (.lst ys) vx z Rx Ry).symm
      · obtain ⟨a, vs, rfl, h1, h2⟩ := Rx
        obtain ⟨a', vs', rfl, k1, k2⟩ := Ry
        obtain rfl : u = Value.ref a := rx
        obtain rfl : v = Value.ref a' := ry
        obtain ⟨its, r, p⟩ := lst_at I h1
        obtain ⟨its', r', p'⟩ := lst_at I k1
        have hne : a ≠ a' := by rintro rfl; exact hs ⟨a, rfl, rfl⟩
        have l1 : its.toArray.size = xs.length := by rw [List.size_toArray, ← r.length, h2.length]
        have l2 : its'.toArray.size = ys.length := by rw [List.size_toArray, ← r'.length, k2.length]
        by_cases hl : xs.length = ys.length
        · have z : cokL xs n false ys = true := by simpa [hl] using z
          refine .of_refs hne (EqAt_rc (.lists (e := eAt xs ys) p p' (by rw [l1, l2, hl]) hu0 fun j j1 j2 => ?_) (by rw [l1]; exact eAt_all hl))
          have := at_runL I xs n ys A.in1 vs vs' its its' z (by show A.units + 1 + n < cLine; omega) h2 k2 r r' j (by simpa using j1) (by simpa using j2)
          simpa using this
        · refine .of_refs hne (EqAt_rc (.lists_lengths p p' (by rw [l1, l2]; simpa using hl) hu0) (deqL_len hl).symm)
    | _ => cases z
  | .tup xs, 0, y, _, _, _, _, _, z, _, _, _, _, _ => by cases z
  | .tup xs, n + 1, y, A, vx, vy, u, v, z, hu, Rx, Ry, rx, ry => by
    have hu0 : A.units < cLine := by omega
    cases y with
    | non => exact at_seq_flat (v0 := .non) I rfl rfl hu0 Rx Ry rx ry rfl
    | bl b => exact at_seq_flat (v0 := .bl b) I rfl rfl hu0 Rx Ry rx ry rfl
    | int b => exact at_seq_flat (v0 := .int b) I rfl rfl hu0 Rx Ry rx ry rfl
    | str b => exact at_seq_flat (v0 := .str b) I rfl rfl hu0 Rx Ry rx ry rfl
    | lst ys =>
      obtain ⟨a, vs, rfl, h1, h2⟩ := Rx
      obtain ⟨a', vs', rfl, k1, k2⟩ := Ry
      obtain rfl : u = Value.ref a := rx
      obtain rfl : v = Value.ref a' := ry
      obtain ⟨its, r, p⟩ := tup_at I h1
      obtain ⟨its', r', p'⟩ := lst_at I k1
      exact EqAt_cast (.tuple_list p p' hu0) rfl
    | tup ys =>
      have z : cokL xs n false ys = true := z
      by_cases hs : ∃ a, u = .ref a ∧ v = .ref a
      · obtain ⟨a, rfl, rfl⟩ := hs
        have e : vx = vy := rx.inj ry
        subst e
        exact EqAt_cast (.same _) (same_deq I (.tup xs) (n + 1) false (.tup ys) vx z Rx Ry).symm
      · obtain ⟨a, vs, rfl, h1, h2⟩ := Rx
        obtain ⟨a', vs', rfl, k1, k2⟩ := Ry
        obtain rfl : u = Value.ref a := rx
        obtain rfl : v = Value.ref a' := ry
        obtain ⟨its, r, p⟩ := tup_at I h1
        obtain ⟨its', r', p'⟩ := tup_at I k1
        have hne : a ≠ a' := by rintro rfl; exact hs ⟨a, rfl, rfl⟩
        have l1 : its.toArray.size = xs.length := by rw [List.size_toArray, ← r.length, h2.length]
        have l2 : its'.toArray.size = ys.length := by rw [List.size_toArray, ← r'.length, k2.length]
        refine .of_refs hne (EqAt_rc (.tuples (e := eAt xs ys) p p' hu0 fun j j1 j2 => ?_) (by rw [l1, l2]; exact eAt_min xs ys))
        have := at_runL I xs n ys A.in1 vs vs' its its' z (by show A.units + 1 + n < cLine; omega) h2 k2 r r' j (by simpa using j1) (by simpa using j2)
        simpa using this
    | _ => cases z
  | .dic ks, 0, y, _, _, _, _, _, z, _, _, _, _, _ => by cases z
  | .dic ks, n + 1, y, _, _, _, _, _, z, _, _, _, _, _ => by cases y <;> cases z
  | .kdic _, _, _, _, _, _, _, _, z, _, _, _, _, _ => by cases z
  | .obj _ _, _, _, _, _, _, _, _, z, _, _, _, _, _ => by cases z
  | .trk, _, _, _, _, _, _, _, z, _, _, _, _, _ => by cases z
termination_by structural x => x
theorem at_runL (I : Inv X pins σ H s) : ∀ (xs : List D) (n : Nat) (ys : List D) (A : Around) (vs ws : List V) (us ts : List Value), cokL xs n false ys = true → A.units + n < cLine → Reps (tb X c) H xs vs → Reps (tb X c) H ys ws → Vals vs us → Vals ws ts →
    ∀ j (h1 : j < us.length) (h2 : j < ts.length), SeqAt.EqAt A s us[j] ts[j] (eAt xs ys j)
  | [], _, ys, A, vs, ws, us, ts, z, hu, R1, R2, r1, r2 => by
    intro j h1 h2
    have R1 : vs = [] := R1
    subst R1
    cases r1
    exact absurd h1 (Nat.not_lt_zero j)
  | x :: xs, n, ys, A, vs, ws, us, ts, z, hu, R1, R2, r1, r2 => by
    intro j h1 h2
    obtain ⟨v, vr, rfl, a1, a2⟩ := R1
    cases ys with
    | nil =>
      have R2 : ws = [] := R2
      subst R2
      cases r2
      exact absurd h2 (Nat.not_lt_zero j)
    | cons y ys =>
      obtain ⟨w, wr, rfl, b1, b2⟩ := R2
      have z : (cok x n false y && cokL xs n false ys) = true := z
      rw [Bool.and_eq_true] at z
      cases r1 with
      | cons c1 d1 =>
        cases r2 with
        | cons c2 d2 =>
          cases j with
          | zero => exact at_run I x n y A v w _ _ z.1 hu a1 b1 c1 c2
          | succ j => exact at_runL I xs n ys A vr wr _ _ z.2 hu a2 b2 d1 d2 j (Nat.lt_of_succ_lt_succ h1) (Nat.lt_of_succ_lt_succ h2)
termination_by structural x => x
end
mutual
/-- .. dicts among them -/
theorem p_run (I : Inv X pins σ H s) : ∀ (x : D) (n : Nat) (b : Bool) (y : D) (A : Around) (vx vy : V) (u v : Value), cok x n b y = true → A.units + n < cLine → Rep (tb X c) H x vx → Rep (tb X c) H y vy → RelV vx u → RelV vy v → SeqAt.EqP X.prog X.w A s u v (deq x y)
  | .non, n, b, y, A, vx, vy, u, v, z, hu, Rx, Ry, rx, ry => (at_run I .non n y A vx vy u v z hu Rx Ry rx ry).eqP
  | .bl d, n, b, y, A, vx, vy, u, v, z, hu, Rx, Ry, rx, ry => (at_run I (.bl d) n y A vx vy u v z hu Rx Ry rx ry).eqP
  | .int d, n, b, y, A, vx, vy, u, v, z, hu, Rx, Ry, rx, ry => (at_run I (.int d) n y A vx vy u v z hu Rx Ry rx ry).eqP
  | .str d, n, b, y, A, vx, vy, u, v, z, hu, Rx, Ry, rx, ry => (at_run I (.str d) n y A vx vy u v z hu Rx Ry rx ry).eqP
  | .tup xs, n, b, y, A, vx, vy, u, v, z, hu, Rx, Ry, rx, ry => (at_run I (.tup xs) n y A vx vy u v (by cases n with | zero => exact z | succ n => exact z) hu Rx Ry rx ry).eqP
  | .lst xs, 0, b, y, _, _, _, _, _, z, _, _, _, _, _ => by cases z
  | .lst xs, n + 1, b, y, A, vx, vy, u, v, z, hu, Rx, Ry, rx, ry => by
    have hu0 : A.units < cLine := by omega
    cases y with
    | lst ys =>
      have z : (decide (xs.length ≠ ys.length) || cokL xs n b ys) = true := z
      by_cases hs : ∃ a, u = .ref a ∧ v = .ref a
      · obtain ⟨a, rfl, rfl⟩ := hs
        have e : vx = vy := rx.inj ry
        subst e
        rw [same_deq I (.lst xs) (n + 1) b (.lst ys) vx z Rx Ry]
        exact (SeqAt.EqAt.same _).eqP
      · by_cases hl : xs.length = ys.length
        · have z : cokL xs n b ys = true := by simpa [hl] using z
          obtain ⟨a, vs, rfl, h1, h2⟩ := Rx
          obtain ⟨a', vs', rfl, k1, k2⟩ := Ry
          obtain rfl : u = Value.ref a := rx
          obtain rfl : v = Value.ref a' := ry
          obtain ⟨its, r, p⟩ := lst_at I h1
          obtain ⟨its', r', p'⟩ := lst_at I k1
          have hne : a ≠ a' := by rintro rfl; exact hs ⟨a, rfl, rfl⟩
          have l1 : its.toArray.size = xs.length := by rw [List.size_toArray, ← r.length, h2.length]
          have l2 : its'.toArray.size = ys.length := by rw [List.size_toArray, ← r'.length, k2.length]
          refine SeqAt.eqP_refs hne fun E Q q => ?_
          refine SeqAt.rcP_lists (e := eAt xs ys) p p' (by rw [l1, l2, hl]) hu0 (fun j j1 j2 => ?_) E Q ?_
          · have := p_runL I xs n b ys A.in1 vs vs' its its' z (by show A.units + 1 + n < cLine; omega) h2 k2 r r' j (by simpa using j1) (by simpa using j2)
            simpa using this
          · rw [l1, eAt_all hl]; exact q
        · have z2 : cok (.lst xs) (n + 1) false (.lst ys) = true := by
            show (decide (xs.length ≠ ys.length) || cokL xs n false ys) = true
            simp [hl]
          exact (at_run I (.lst xs) (n + 1) (.lst ys) A vx vy u v z2 hu Rx Ry rx ry).eqP
    | non => exact (at_run I (.lst xs) (n + 1) .non A vx vy u v z hu Rx Ry rx ry).eqP
    | bl d => exact (at_run I (.lst xs) (n + 1) (.bl d) A vx vy u v z hu Rx Ry rx ry).eqP
    | int d => exact (at_run I (.lst xs) (n + 1) (.int d) A vx vy u v z hu Rx Ry rx ry).eqP
    | str d => exact (at_run I (.lst xs) (n + 1) (.str d) A vx vy u v z hu Rx Ry rx ry).eqP
    | tup d => exact (at_run I (.lst xs) (n + 1) (.tup d) A vx vy u v z hu Rx Ry rx ry).eqP
    | _ => cases z
  | .dic ks, 0, b, y, _, _, _, _, _, z, _, _, _, _, _ => by cases z
  | .dic ks, n + 1, b, y, A, vx, vy, u, v, z, hu, Rx, Ry, rx, ry => by
    have hu0 : A.units < cLine := by omega
    cases y with
    | dic ls =>
      by_cases hs : ∃ a, u = .ref a ∧ v = .ref a
      · obtain ⟨a, rfl, rfl⟩ := hs
        have e : vx = vy := rx.inj ry
        subst e
        rw [same_deq I (.dic ks) (n + 1) b (.dic ls) vx z Rx Ry]
        exact (SeqAt.EqAt.same _).eqP
      · have z : (b && (decide (ks.length ≠ ls.length) || cokK ks n b ls)) = true := z
        rw [Bool.and_eq_true] at z
        obtain ⟨a, kv, rfl, ⟨o, h1⟩, h2⟩ := Rx
        obtain ⟨a', kv', rfl, ⟨o', k1⟩, k2⟩ := Ry
        obtain rfl : u = Value.ref a := rx
        obtain rfl : v = Value.ref a' := ry
        have hne : a ≠ a' := by rintro rfl; exact hs ⟨a, rfl, rfl⟩
        obtain ⟨_, ya, va, ra, da⟩ := dk_rd I.hok (.inr ⟨o, h1⟩)
        obtain ⟨_, yb, vb, rb, db⟩ := dk_rd I.hok (.inr ⟨o', k1⟩)
        refine SeqAt.eqP_refs hne fun E Q q => ?_
        have q : Q (.bool (decide (ks.length = ls.length) && deqK ks ls)) s := q
        have la : va.length = ks.length := by rw [← ra.length, h2.length]
        have lb : vb.length = ls.length := by rw [← rb.length, k2.length]
        refine PySem.W.rcP_dicts (knd := mixKind X.prog X.w) (r := deqK ks ls) ya yb da db hu0 (fun hl => ?_) E Q ?_
        · rw [la, lb] at hl
          exact p_runK I ks n b ls A.in1 kv va kv' vb (by simpa [hl] using z.2) (by show A.units + 1 + n < cLine; omega) h2 ra k2 rb
        · rw [la, lb]; exact q
    | _ => cases z
  | .kdic _, _, _, _, _, _, _, _, _, z, _, _, _, _, _ => by cases z
  | .obj _ _, _, _, _, _, _, _, _, _, z, _, _, _, _, _ => by cases z
  | .trk, _, _, _, _, _, _, _, _, z, _, _, _, _, _ => by cases z
termination_by structural x => x
theorem p_runL (I : Inv X pins σ H s) : ∀ (xs : List D) (n : Nat) (b : Bool) (ys : List D) (A : Around) (vs ws : List V) (us ts : List Value), cokL xs n b ys = true → A.units + n < cLine → Reps (tb X c) H xs vs → Reps (tb X c) H ys ws → Vals vs us → Vals ws ts →
    ∀ j (h1 : j < us.length) (h2 : j < ts.length), SeqAt.EqP X.prog X.w A s us[j] ts[j] (eAt xs ys j)
  | [], _, _, ys, A, vs, ws, us, ts, z, hu, R1, R2, r1, r2 => by
    intro j h1 h2
    have R1 : vs = [] := R1
    subst R1
    cases r1
    exact absurd h1 (Nat.not_lt_zero j)
  | x :: xs, n, b, ys, A, vs, ws, us, ts, z, hu, R1, R2, r1, r2 => by
    intro j h1 h2
    obtain ⟨v, vr, rfl, a1, a2⟩ := R1
    cases ys with
    | nil =>
      have R2 : ws = [] := R2
      subst R2
      cases r2
      exact absurd h2 (Nat.not_lt_zero j)
    | cons y ys =>
      obtain ⟨w, wr, rfl, b1, b2⟩ := R2
      have z : (cok x n b y && cokL xs n b ys) = true := z
      rw [Bool.and_eq_true] at z
      cases r1 with
      | cons c1 d1 =>
        cases r2 with
        | cons c2 d2 =>
          cases j with
          | zero => exact p_run I x n b y A v w _ _ z.1 hu a1 b1 c1 c2
          | succ j => exact p_runL I xs n b ys A vr wr _ _ z.2 hu a2 b2 d1 d2 j (Nat.lt_of_succ_lt_succ h1) (Nat.lt_of_succ_lt_succ h2)
termination_by structural x => x
theorem p_runP (I : Inv X pins σ H s) : ∀ (p : D × D) (n : Nat) (b : Bool) (ls : List (D × D)) (A : Around) (q : Key × V) (v : Value) (kv' : List (Key × V)) (vb : List (Key × Value)), cokP p n b ls = true → A.units + n < cLine → RepP (tb X c) H p q → RelV q.2 v → RepK (tb X c) H ls kv' → KV kv' vb →
    (valueAt vb q.1 = none ∧ deqP p ls = false) ∨ ∃ y, valueAt vb q.1 = some y ∧ SeqAt.EqP X.prog X.w A s v y (deqP p ls)
  | (k, d), n, b, ls, A, q, v, kv', vb, z, hu, R, r, Rl, rb => by
    obtain ⟨e, R⟩ := R
    have e : k = keyD q.1 := e
    subst e
    have z : (match dlook (keyD q.1) ls with | some u => cok d n b u | none => true) = true := z
    have hd : deqP (keyD q.1, d) ls = (match dlook (keyD q.1) ls with | some u => deq d u | none => false) := rfl
    have rr := rb.val q.1
    rcases Rl.look (k := q.1) with ⟨u, w, e1, e2, Ru⟩ | ⟨e1, e2⟩
    · rw [e2] at rr
      obtain ⟨y, hy, ry⟩ := rr.some_of
      rw [e1] at z hd
      exact .inr ⟨y, hy, by rw [hd]; exact p_run I d n b u A q.2 w v y z hu R Ru r ry⟩
    · rw [e2] at rr
      rw [e1] at hd
      refine .inl ⟨?_, hd⟩
      cases hv : valueAt vb q.1 with
      | none => rfl
      | some y => rw [hv] at rr; exact rr.elim
termination_by structural x => x
theorem p_runK (I : Inv X pins σ H s) : ∀ (ks : List (D × D)) (n : Nat) (b : Bool) (ls : List (D × D)) (A : Around) (kv : List (Key × V)) (va : List (Key × Value)) (kv' : List (Key × V)) (vb : List (Key × Value)), cokK ks n b ls = true → A.units + n < cLine → RepK (tb X c) H ks kv → KV kv va → RepK (tb X c) H ls kv' → KV kv' vb →
    PySem.W.KeqHitsP X.prog X.w A s vb va (deqK ks ls)
  | [], n, b, ls, A, kv, va, kv', vb, z, hu, R, ra, Rl, rb => by
    have R : kv = [] := R
    subst R
    cases ra
    exact .nil
  | p :: ks, n, b, ls, A, kv, va, kv', vb, z, hu, R, ra, Rl, rb => by
    obtain ⟨q, r, rfl, R1, R2⟩ := R
    have z : (cokP p n b ls && cokK ks n b ls) = true := z
    rw [Bool.and_eq_true] at z
    cases ra with
    | cons h t =>
      rename_i qv vr
      obtain ⟨key, v⟩ := qv
      obtain ⟨h1, h2⟩ := h
      have h1 : q.1 = key := h1
      subst h1
      show PySem.W.KeqHitsP X.prog X.w A s vb ((q.1, v) :: vr) (deqP p ls && deqK ks ls)
      rcases p_runP I p n b ls A q v kv' vb z.1 hu R1 h2 Rl rb with ⟨e1, e2⟩ | ⟨y, e1, e2⟩
      · rw [e2]; exact .miss e1
      · exact .hit e1 e2 (p_runK I ks n b ls A r vr kv' vb z.2 hu R2 t Rl rb)
termination_by structural x => x
end
end
end DI
set_option linter.all false
set_option Elab.async false
set_option maxRecDepth 100000
set_option maxHeartbeats 4000000
/-! DSnd8: membership, items, slices, == of any values. -/
namespace DI
open PySem PySem.Spec PyProof.Rows L2
section
variable {X : Cx} {c : CT} {n : Ent} {W : XW} {k : Nat} {pins : List (Addr × Obj)} {σ : L2.St} {H : Hp} {s : Shared}

/-! ### membership -/
mutual
theorem deq_cong (I : Inv X pins σ H s) : ∀ (z z' : D) (v : V) (n : Nat) (x : D), cok z n false x = true → cok z' n false x = true → Rep (tb X c) H z v → Rep (tb X c) H z' v → deq z x = deq z' x
  | .non, z', v, n, x, _, _, h, k => by cases flat_same (v0 := .non) rfl (fun _ z => nomatch z) h k; rfl
  | .bl b, z', v, n, x, _, _, h, k => by cases flat_same (v0 := .bl b) rfl (fun _ z => nomatch z) h k; rfl
  | .int b, z', v, n, x, _, _, h, k => by cases flat_same (v0 := .int b) rfl (fun _ z => nomatch z) h k; rfl
  | .str b, z', v, n, x, _, _, h, k => by cases flat_same (v0 := .str b) rfl (fun _ z => nomatch z) h k; rfl
  | .lst xs, z', v, n, x, c1, c2, h, k => by
    obtain ⟨a, vs, rfl, h1, h2⟩ := h
    cases n with
    | zero => cases c1
    | succ n =>
      cases z' with
      | lst xs' =>
        obtain ⟨a', vs', e, k1, k2⟩ := k
        cases e
        rw [h1] at k1
        cases k1
        cases x with
        | lst ys =>
          show deqL xs ys = deqL xs' ys
          by_cases hl : xs.length = ys.length
          · have c1 : (decide (xs.length ≠ ys.length) || cokL xs n false ys) = true := c1
            have c2 : (decide (xs'.length ≠ ys.length) || cokL xs' n false ys) = true := c2
            have hl' : xs'.length = ys.length := by rw [k2.length, ← h2.length]; exact hl
            exact deq_congL I xs xs' vs n ys (by simpa [hl] using c1) (by simpa [hl'] using c2) h2 k2
          · rw [deqL_len hl, deqL_len (by rw [k2.length, ← h2.length]; exact hl)]
        | _ => rfl
      | tup xs' =>
        obtain ⟨a', vs', e, k1, k2⟩ := k
        cases e
        exact (lst_tup I h1 k1).elim
      | non => cases (show V.ref a = _ from k)
      | bl _ => cases (show V.ref a = _ from k)
      | int _ => cases (show V.ref a = _ from k)
      | str _ => cases (show V.ref a = _ from k)
      | dic _ => cases x <;> cases c2
      | _ => cases c2
  | .tup xs, z', v, n, x, c1, c2, h, k => by
    obtain ⟨a, vs, rfl, h1, h2⟩ := h
    cases n with
    | zero => cases c1
    | succ n =>
      cases z' with
      | tup xs' =>
        obtain ⟨a', vs', e, k1, k2⟩ := k
        cases e
        cases I.tuple_inj h1 k1
        cases x with
        | tup ys =>
          show deqL xs ys = deqL xs' ys
          exact deq_congL I xs xs' vs n ys c1 c2 h2 k2
        | _ => rfl
      | lst xs' =>
        obtain ⟨a', vs', e, k1, k2⟩ := k
        cases e
        exact (lst_tup I k1 h1).elim
      | non => cases (show V.ref a = _ from k)
      | bl _ => cases (show V.ref a = _ from k)
      | int _ => cases (show V.ref a = _ from k)
      | str _ => cases (show V.ref a = _ from k)
      | dic _ => cases x <;> cases c2
      | _ => cases c2
  | .dic _, _, _, n, x, c1, _, _, _ => by
    cases n with
    | zero => cases c1
    | succ n => cases x <;> cases c1
  | .kdic _, _, _, _, _, c1, _, _, _ => by cases c1
  | .obj _ _, _, _, _, _, c1, _, _, _ => by cases c1
  | .trk, _, _, _, _, c1, _, _, _ => by cases c1
termination_by structural x => x
theorem deq_congL (I : Inv X pins σ H s) : ∀ (xs xs' : List D) (vs : List V) (n : Nat) (ys : List D), cokL xs n false ys = true → cokL xs' n false ys = true → Reps (tb X c) H xs vs → Reps (tb X c) H xs' vs → deqL xs ys = deqL xs' ys
  | [], xs', vs, n, ys, _, _, h, k => by
    have h : vs = [] := h
    subst h
    cases xs' with
    | nil => rfl
    | cons _ _ => obtain ⟨_, _, e, _⟩ := k; cases e
  | x :: xs, xs', vs, n, ys, c1, c2, h, k => by
    obtain ⟨v, r, rfl, h1, h2⟩ := h
    cases xs' with
    | nil => cases (show _ = [] from k)
    | cons x' xs' =>
      obtain ⟨v', r', e, k1, k2⟩ := k
      cases e
      cases ys with
      | nil => rfl
      | cons y ys =>
        have c1 : (cok x n false y && cokL xs n false ys) = true := c1
        have c2 : (cok x' n false y && cokL xs' n false ys) = true := c2
        rw [Bool.and_eq_true] at c1 c2
        show (deq x y && deqL xs ys) = (deq x' y && deqL xs' ys)
        rw [deq_cong I x x' v n y c1.1 c2.1 h1 k1, deq_congL I xs xs' r n ys c1.2 c2.2 h2 k2]
termination_by structural x => x
end
theorem Reps.mem' {T : Tb} : ∀ {ds : List D} {vs : List V} {us : List Value} {u : Value}, Reps T H ds vs → Vals vs us → u ∈ us → ∃ d v, d ∈ ds ∧ Rep T H d v ∧ RelV v u
  | [], vs, us, u, h, r, hm => by
    have h : vs = [] := h
    subst h
    cases r
    cases hm
  | d :: ds, vs, us, u, h, r, hm => by
    obtain ⟨v, r', rfl, h2, h3⟩ := h
    cases r with
    | cons r1 r2 =>
      rcases List.mem_cons.mp hm with rfl | hm
      · exact ⟨d, v, List.mem_cons_self, h2, r1⟩
      · obtain ⟨d', v', h4, h5, h6⟩ := Reps.mem' h3 r2 hm
        exact ⟨d', v', List.mem_cons_of_mem _ h4, h5, h6⟩
open Classical in
/-- whether a value equals x: by any of the data that it is -/
noncomputable def eOf (T : Tb) (H : Hp) (zs : List D) (x : D) (u : Value) : Bool := if h : ∃ d, d ∈ zs ∧ ∃ v, Rep T H d v ∧ RelV v u then deq h.choose x else false
theorem eOf_eq (I : Inv X pins σ H s) {zs : List D} {x d : D} {u : Value} {v : V} {m : Nat} (hc : ∀ z ∈ zs, cok z m false x = true) (hm : d ∈ zs) (R : Rep (tb X c) H d v) (r : RelV v u) : eOf (tb X c) H zs x u = deq d x := by
  have h : ∃ d, d ∈ zs ∧ ∃ v, Rep (tb X c) H d v ∧ RelV v u := ⟨d, hm, v, R, r⟩
  unfold eOf
  rw [dif_pos h]
  obtain ⟨h1, v', h2, h3⟩ := h.choose_spec
  cases h3.inj r
  exact deq_cong I _ _ _ m x (hc _ h1) (hc _ hm) h2 R
theorem eOf_any (I : Inv X pins σ H s) {all : List D} {x : D} {m : Nat} (hc : ∀ z ∈ all, cok z m false x = true) : ∀ {zs : List D} {vs : List V} {us : List Value}, (∀ z ∈ zs, z ∈ all) → Reps (tb X c) H zs vs → Vals vs us → us.any (eOf (tb X c) H all x) = zs.any fun z => deq z x
  | [], vs, us, _, h, r => by
    have h : vs = [] := h
    subst h
    cases r
    rfl
  | d :: ds, vs, us, hs, h, r => by
    obtain ⟨v, r', rfl, h2, h3⟩ := h
    cases r with
    | cons r1 r2 =>
      rw [List.any_cons, List.any_cons, eOf_eq I hc (hs d List.mem_cons_self) h2 r1, eOf_any I hc (fun z hz => hs z (List.mem_cons_of_mem _ hz)) h3 r2]
theorem nsIn_kve {K : PySem.W.Frag} {w : World} {a : Addr} {es : Array DictEntry} {m : Nat} {kv : List (Key × V)} (D : KDict K w a es m) (h : KVE es.toList kv) (z : Str) : ∃ r, PySem.W.nsIn K a z = some r ∧ RelO (valV kv (.inr z)) r := by
  have aux : ∀ (kv : List (Key × V)) (es : List DictEntry), KVE es kv → es.any (·.refKey) = false ∧ RelO (valV kv (.inr z)) ((es.find? (·.key.isStr z)).map (·.val)) := by
    intro kv es h
    unfold KVE at h
    induction h with
    | nil => exact ⟨rfl, trivial⟩
    | @cons q e qs es h t ih =>
      obtain ⟨y, tk, h1, h2, h3⟩ := h
      obtain ⟨q1, q2⟩ := q
      have h1 : q1 = .inr y := h1
      subst h1
      obtain ⟨i1, i2⟩ := ih
      refine ⟨?_, ?_⟩
      · rw [List.any_cons, i1]
        unfold DictEntry.refKey
        rw [h2]
        rfl
      · by_cases hz : y = z
        · subst hz
          rw [valV_pos rfl, List.find?_cons]
          have : e.key.isStr y = true := by rw [h2]; simp [Value.isStr]
          rw [this]
          exact h3
        · rw [valV_neg (fun h => hz (Sum.inr.inj h)), List.find?_cons]
          have : e.key.isStr z = false := by rw [h2]; simp [Value.isStr, hz]
          rw [this]
          exact i2
  obtain ⟨h1, h2⟩ := aux kv es.toList h
  unfold PySem.W.nsIn
  rw [D.at_]
  cases hf : es.toList.find? (·.key.isStr z) with
  | some e =>
    rw [hf] at h2
    refine ⟨_, ?_, h2⟩
    dsimp only
    rw [hf]
    rfl
  | none =>
    rw [hf] at h2
    refine ⟨none, ?_, h2⟩
    dsimp only
    rw [hf]
    dsimp only
    rw [h1]
    rfl
theorem isKey_key {d : D} (h : isKey d = true) : ∃ k, d = keyD k := by
  cases d with
  | int i => exact ⟨.inl i, rfl⟩
  | str z => exact ⟨.inr z, rfl⟩
  | _ => cases h
theorem keyD_kV {T : Tb} {H : Hp} {k : Key} {x : V} (h : Rep T H (keyD k) x) : x = kV k := by
  cases k with
  | inl i => exact h
  | inr z => exact h
theorem RelO_isSome {x : Option V} {u : Option Value} (h : RelO x u) : u.isSome = x.isSome := by
  cases x <;> cases u <;> first | rfl | exact h.elim
theorem in_run {H0 : Hp} {x y : V} {v u : Value} {dx dy : D} {b : Bool} {Q : VK} (hu : X.A.units + 64 < cLine) (I : Inv X pins σ H s) (x0 : Ext H0 H) (rx : RelV x v) (ry : RelV y u) (Rx : Rep (tb X c) H0 dx x) (Ry : Rep (tb X c) H0 dy y) (e : inD dx dy = some b) :
    (Q (.bl b) H → wpAny (model X.prog X.w) X.A (compareOp .In v u) (EP X pins σ Q) X.xe s) ∧ (Q (.bl (!b)) H → wpAny (model X.prog X.w) X.A (compareOp .NotIn v u) (EP X pins σ Q) X.xe s) := by
  cases dy with
  | lst zs =>
    have e : (if zs.all fun z => cok z dep false dx then some (zs.any fun z => deq z dx) else none) = some b := e
    by_cases ha : (zs.all fun z => cok z dep false dx) = true
    · rw [if_pos ha] at e
      cases e
      obtain ⟨a, vs, rfl, h1, h2⟩ := Ry
      obtain rfl : u = Value.ref a := ry
      obtain ⟨its, r, p⟩ := lst_at I (x0 _ _ h1)
      have hc : ∀ z ∈ zs, cok z dep false dx = true := List.all_eq_true.mp ha
      have he : ∀ y, y ∈ its.toArray → SeqAt.EqAt X.A.in1 s y v (eOf (tb X c) H zs dx y) := fun y hy => by
        obtain ⟨d, w, m1, m2, m3⟩ := Reps.mem' (h2.ext x0) r (by simpa using hy)
        rw [eOf_eq I hc m1 m2 m3]
        exact at_run I d dep dx X.A.in1 w x y v (hc _ m1) (by show X.A.units + 1 + 40 < cLine; omega) m2 (Rx.ext x0) m3 rx
      have ea : its.toArray.any (eOf (tb X c) H zs dx) = zs.any fun z => deq z dx := by
        rw [List.any_toArray]
        exact eOf_any I hc (fun _ h => h) (h2.ext x0) r
      exact ⟨fun q => SeqAt.in_listAt (eOf (tb X c) H zs dx) p he ⟨.bl _, H, I, rfl, by rw [ea]; exact q⟩, fun q => SeqAt.notIn_listAt (eOf (tb X c) H zs dx) p he ⟨.bl _, H, I, rfl, by rw [ea]; exact q⟩⟩
    · rw [if_neg ha] at e; cases e
  | tup zs =>
    have e : (if zs.all fun z => cok z dep false dx then some (zs.any fun z => deq z dx) else none) = some b := e
    by_cases ha : (zs.all fun z => cok z dep false dx) = true
    · rw [if_pos ha] at e
      cases e
      obtain ⟨a, vs, rfl, h1, h2⟩ := Ry
      obtain rfl : u = Value.ref a := ry
      obtain ⟨its, r, p⟩ := tup_at I (h1.ext x0)
      have hc : ∀ z ∈ zs, cok z dep false dx = true := List.all_eq_true.mp ha
      have he : ∀ y, y ∈ its.toArray → SeqAt.EqAt X.A.in1 s y v (eOf (tb X c) H zs dx y) := fun y hy => by
        obtain ⟨d, w, m1, m2, m3⟩ := Reps.mem' (h2.ext x0) r (by simpa using hy)
        rw [eOf_eq I hc m1 m2 m3]
        exact at_run I d dep dx X.A.in1 w x y v (hc _ m1) (by show X.A.units + 1 + 40 < cLine; omega) m2 (Rx.ext x0) m3 rx
      have ea : its.toArray.any (eOf (tb X c) H zs dx) = zs.any fun z => deq z dx := by
        rw [List.any_toArray]
        exact eOf_any I hc (fun _ h => h) (h2.ext x0) r
      exact ⟨fun q => SeqAt.in_tupleAt (eOf (tb X c) H zs dx) p he ⟨.bl _, H, I, rfl, by rw [ea]; exact q⟩, fun q => SeqAt.notIn_tupleAt (eOf (tb X c) H zs dx) p he ⟨.bl _, H, I, rfl, by rw [ea]; exact q⟩⟩
    · rw [if_neg ha] at e; cases e
  | dic kvs =>
    have e : (if isKey dx then some (dlook dx kvs).isSome else none) = some b := e
    by_cases hk : isKey dx = true
    · rw [if_pos hk] at e
      cases e
      obtain ⟨kk, rfl⟩ := isKey_key hk
      obtain ⟨a, kv, rfl, ⟨o, h1⟩, h2⟩ := Ry
      obtain rfl : u = Value.ref a := ry
      have g : DGet H a x (valV kv kk) := .inl ⟨kv, kk, .inr ⟨o, x0 _ _ h1⟩, keyD_kV Rx, rfl⟩
      have eb : (dlook (keyD kk) kvs).isSome = (valV kv kk).isSome := by
        rcases h2.look (k := kk) with ⟨d, w, e1, e2, _⟩ | ⟨e1, e2⟩
        · rw [e1, e2]; rfl
        · rw [e1, e2]; rfl
      rw [eb]
      exact ⟨fun q => d_in (by omega) I g rx fun s' I' => ⟨.bl _, H, I', rfl, q⟩, fun q => d_notIn (by omega) I g rx fun s' I' => ⟨.bl _, H, I', rfl, q⟩⟩
    · rw [if_neg hk] at e; cases e
  | kdic kvs =>
    cases dx with
    | str z =>
      have e : some (dlook (.str z) kvs).isSome = some b := e
      cases e
      have Rx : x = .str z := Rx
      subst Rx
      obtain ⟨a, kv, rfl, ⟨es, m, h1, h2, h3⟩, h4⟩ := Ry
      obtain ⟨r, hr, hv⟩ := nsIn_kve h1 h2 z
      have eb : (dlook (.str z) kvs).isSome = r.isSome := by
        rw [RelO_isSome hv]
        rcases h4.look (k := .inr z) with ⟨d, w, e1, e2, _⟩ | ⟨e1, e2⟩
        · rw [show D.str z = keyD (.inr z) from rfl, e1, e2]; rfl
        · rw [show D.str z = keyD (.inr z) from rfl, e1, e2]; rfl
      rw [eb]
      exact ⟨fun q => op_in_kd h1 pins s σ H _ _ v u Q I rx ry ⟨z, r, rfl, rfl, hr, q⟩, fun q => op_notIn_kd h1 pins s σ H _ _ v u Q I rx ry ⟨z, r, rfl, rfl, hr, q⟩⟩
    | _ => cases e
  | str z =>
    cases dx with
    | str w =>
      have e : (match w.cps.toList with | [k] => some (decide (k ∈ z.cps.toList)) | _ => none) = some b := e
      have Rx : x = .str w := Rx
      have Ry : y = .str z := Ry
      subst Rx Ry
      cases hw : w.cps.toList with
      | nil => rw [hw] at e; cases e
      | cons k r =>
        cases r with
        | nil =>
          rw [hw] at e
          cases e
          have ew : w = ⟨#[k]⟩ := by
            cases w with
            | mk cps =>
              have : cps = #[k] := by
                apply Array.toList_inj.mp
                exact hw
              rw [this]
          subst ew
          exact ⟨fun q => op_in_sign pins s σ H _ _ v u Q I rx ry ⟨k, z, rfl, rfl, q⟩, fun q => op_notIn_sign pins s σ H _ _ v u Q I rx ry ⟨k, z, rfl, rfl, q⟩⟩
        | cons _ _ => rw [hw] at e; cases e
    | _ => cases e
  | _ => cases e
theorem op2_in (hu : X.A.units + 64 < cLine) : Op2 X c (compareOp .In) pIn := by
  intro pins s σ H0 H x y v u dx dy d Q I x0 rx ry Rx Ry e q
  unfold pIn at e
  cases hb : inD dx dy with
  | none => rw [hb] at e; cases e
  | some b => rw [hb] at e; cases e; exact (in_run hu I x0 rx ry Rx Ry hb).1 (q _ _ _ (Grow.refl x0) rfl)
theorem op2_notIn (hu : X.A.units + 64 < cLine) : Op2 X c (compareOp .NotIn) pNotIn := by
  intro pins s σ H0 H x y v u dx dy d Q I x0 rx ry Rx Ry e q
  unfold pNotIn at e
  cases hb : inD dx dy with
  | none => rw [hb] at e; cases e
  | some b => rw [hb] at e; cases e; exact (in_run hu I x0 rx ry Rx Ry hb).2 (q _ _ _ (Grow.refl x0) rfl)
end
end DI
set_option linter.all false
set_option Elab.async false
set_option maxRecDepth 100000
set_option maxHeartbeats 4000000
/-! DSnd9: items, slices, built-ins, isinstance. -/
namespace DI
open PySem PySem.Spec PyProof.Rows L2
/-- isinstance: of these built-in classes, of these own ones; obs: the own classes that are asked about -/
def pIsA (ts : List Ty) (cs obs : List Nat) : D → Option D
  | .obj k _ => if obs.contains k then some (.bl (cs.contains k)) else none
  | .trk => none
  | d => some (.bl (ts.any (isTy d)))
section
variable {X : Cx} {c : CT} {n : Ent} {W : XW} {k : Nat}
/-! ### items -/
theorem atI_ix {α : Type} {xs : List α} {i : Int} : atI xs i = ixD xs i := by
  unfold atI ixD ixN
  by_cases h0 : 0 ≤ i
  · rw [if_pos h0, if_pos h0]
    by_cases h1 : i < xs.length
    · rw [if_pos h1]; rfl
    · rw [if_neg h1, List.getElem?_eq_none (by omega)]; rfl
  · rw [if_neg h0, if_neg h0]
    by_cases h1 : 0 ≤ i + xs.length
    · rw [if_pos h1, if_pos (by omega)]; rfl
    · rw [if_neg h1, if_neg (by omega)]; rfl
theorem Reps.ix {T : Tb} {H : Hp} {ds : List D} {vs : List V} {i : Int} {d : D} (h : Reps T H ds vs) (e : ixD ds i = some d) : ∃ v, atI vs i = some v ∧ Rep T H d v := by
  rw [atI_ix]
  unfold ixD at e ⊢
  rw [← h.length]
  by_cases h0 : 0 ≤ i
  · rw [if_pos h0] at e ⊢
    exact h.get e
  · rw [if_neg h0] at e ⊢
    by_cases h1 : 0 ≤ i + ds.length
    · rw [if_pos h1] at e ⊢
      exact h.get e
    · rw [if_neg h1] at e; cases e
theorem ix_D (hu : X.A.units + 64 < cLine) : IxR X (fun x y H Q => ∃ H0 dx dy d, Ext H0 H ∧ Rep (tb X c) H0 dx x ∧ Rep (tb X c) H0 dy y ∧ pItem dx dy = some d ∧ ∀ z H0' H', Grow H0 H H0' H' → Rep (tb X c) H0' d z → Q z H') := by
  intro value slice pins s σ H x y v u Q I rx ry ⟨H0, dx, dy, d, x0, Rx, Ry, e, q⟩ hs
  cases dx with
  | lst xs =>
    cases dy with
    | int i =>
      obtain ⟨a, vs, rfl, h1, h2⟩ := Rx
      have Ry : y = .int i := Ry
      subst Ry
      obtain ⟨w, h3, h4⟩ := h2.ix e
      exact ix_list value slice pins s σ H _ _ v u Q I rx ry ⟨a, vs, i, w, rfl, rfl, SqL.of (x0 _ _ h1), h3, q _ _ _ (Grow.refl x0) h4⟩ hs
    | _ => cases e
  | tup xs =>
    cases dy with
    | int i =>
      obtain ⟨a, vs, rfl, h1, h2⟩ := Rx
      have Ry : y = .int i := Ry
      subst Ry
      obtain ⟨w, h3, h4⟩ := h2.ix e
      exact ix_tup value slice pins s σ H _ _ v u Q I rx ry ⟨a, vs, i, w, rfl, rfl, h1.ext x0, h3, q _ _ _ (Grow.refl x0) h4⟩ hs
    | _ => cases e
  | str z =>
    cases dy with
    | int i =>
      have Rx : x = .str z := Rx
      have Ry : y = .int i := Ry
      subst Rx Ry
      have e : (if z.length ≤ lim then (ixD z.cps.toList i).map fun k => .str ⟨#[k]⟩ else none) = some d := e
      by_cases hz : z.length ≤ lim
      · rw [if_pos hz] at e
        obtain ⟨ch, e1, e2⟩ := Option.map_eq_some_iff.mp e
        subst e2
        exact ix_str value slice pins s σ H _ _ v u Q I rx ry ⟨z, i, ch, rfl, rfl, limle.mp hz, by rw [atI_ix]; exact e1, q _ _ _ (Grow.refl x0) rfl⟩ hs
      · rw [if_neg hz] at e; cases e
    | _ => cases e
  | dic kvs =>
    have e : (if isKey dy then dlook dy kvs else none) = some d := e
    by_cases hk : isKey dy = true
    · rw [if_pos hk] at e
      obtain ⟨kk, rfl⟩ := isKey_key hk
      obtain ⟨a, kv, rfl, ⟨o, h1⟩, h2⟩ := Rx
      obtain rfl : v = Value.ref a := rx
      rcases h2.look (k := kk) with ⟨d', w, e1, e2, R⟩ | ⟨e1, e2⟩
      · rw [e1] at e
        cases e
        have g : DGet H a y (some w) := .inl ⟨kv, kk, .inr ⟨o, x0 _ _ h1⟩, keyD_kV Ry, e2.symm⟩
        exact tail_any (dict_typeIs I g) slot_dict_getitem.lookup (d_getItem (by omega) I g ry fun w' s3 I3 rw' => ⟨w, H, I3, rw', q _ _ _ (Grow.refl x0) R⟩) hs
      · rw [e1] at e; cases e
    · rw [if_neg hk] at e; cases e
  | kdic kvs =>
    cases dy with
    | str z =>
      have e : dlook (.str z) kvs = some d := e
      obtain ⟨a, kv, rfl, ⟨es, m, h1, h2, h3⟩, h4⟩ := Rx
      have Ry : y = .str z := Ry
      subst Ry
      obtain ⟨r, hr, hv⟩ := nsIn_kve h1 h2 z
      rcases h4.look (k := .inr z) with ⟨d', w, e1, e2, R⟩ | ⟨e1, e2⟩
      · rw [show D.str z = keyD (.inr z) from rfl, e1] at e
        cases e
        rw [e2] at hv
        obtain ⟨u0, rfl, ru⟩ := hv.some_of
        exact ix_kdict value slice pins s σ H _ _ v u Q I rx ry ⟨a, z, w, rfl, rfl, ⟨es, m, u0, h1.at_, h1.lit, hr, ru⟩, q _ _ _ (Grow.refl x0) R⟩ hs
      · rw [show D.str z = keyD (.inr z) from rfl, e1] at e; cases e
    | _ => cases e
  | _ => cases e
theorem m_item {a b : Expr} {ma mb : ME} {pos : Pos} (h : Ok X k W) (ha : PM X c n W a ma) (hb : PM X c n W b mb) (hs : PlainIx b) : PM X c n W (.Subscript a b pos) (m2 pItem ma mb) := by
  refine ⟨fun pins s σ H Q I ⟨e, t, H0, p, S, q⟩ => ?_⟩
  refine (pe_ix (ix_D (c := c) h.room.units) ha hb hs).run pins s σ H Q I ⟨e, t, H0, p, S, ?_⟩
  have h1 := bindE (T := tb X c) (n := n) (σ := σ) (H0 := H0) (p := p) (W := W) (C := RE (tb X c) n σ H0 p Q W) RE.e RE.s q
  cases hx : ma e t with
  | err k fs => rw [hx] at h1; exact h1
  | stuck => rw [hx] at h1; exact h1
  | ok d1 e1 t1 =>
    rw [hx] at h1
    intro v G0 G S1 x1 R1
    obtain ⟨d1, e1, t1, G0, S1, x1, R1, q1⟩ := h1 v G0 G S1 x1 R1
    refine ⟨e1, t1, G0, p, S1, ?_⟩
    have h2 := bindE (T := tb X c) (n := n) (σ := σ) (H0 := G0) (p := p) (W := W) (C := RE (tb X c) n σ G0 p Q W) RE.e RE.s (q1.mono x1)
    cases hy : mb e1 t1 with
    | err k fs => rw [hy] at h2; exact h2
    | stuck => rw [hy] at h2; exact h2
    | ok d2 e2 t2 =>
      rw [hy] at h2
      intro v2 K0 K S2 x2 R2
      obtain ⟨d2, e2, t2, G2, S2, x2, R2, q2⟩ := h2 v2 K0 K S2 x2 R2
      cases hg : pItem d1 d2 with
      | none => rw [hg] at q2; exact q2.elim
      | some d =>
        rw [hg] at q2
        exact ⟨G2, d1, d2, d, S2.sub, R1.ext x2, R2, hg, fun z H0' H' gr R => q2 z H0' H' (S2.grow gr) (x2.trans gr.ext0) R⟩

/-! ### slices -/
theorem sIx_cut (n d : Nat) (i : Option Int) : HT.sIx n d i = cutAt n d i := by
  cases i with
  | none => rfl
  | some i =>
    show (if i < 0 then (i + (n : Int)).toNat else min i.toNat n) = (if 0 ≤ i then min i.toNat n else (i + n).toNat)
    by_cases h : i < 0
    · rw [if_pos h, if_neg (by omega)]
    · rw [if_neg h, if_pos (by omega)]
theorem Reps.cut {T : Tb} {H : Hp} {ds : List D} {vs : List V} {lo hi : Option Int} (h : Reps T H ds vs) : Reps T H (cutL ds lo hi) (cutV vs lo hi) := by
  unfold cutL cutV
  rw [sIx_cut, sIx_cut, h.length]
  exact (h.drop _).take _
theorem sl_D : SlR X (fun x lo hi H Q => ∃ H0 dx d, Ext H0 H ∧ Rep (tb X c) H0 dx x ∧ pSlice dx lo hi = some d ∧ ∀ z H0' H', Grow H0 H H0' H' → Rep (tb X c) H0' d z → Q z H') := by
  intro pins s σ H x v vl vu lo hi sl Q I rx hs pl pu ⟨H0, dx, d, x0, Rx, e, q⟩
  cases dx with
  | lst xs =>
    cases e
    obtain ⟨a, vs, rfl, h1, h2⟩ := Rx
    refine sl_list pins s σ H _ v vl vu lo hi sl Q I rx hs pl pu ⟨a, vs, rfl, SqL.of (x0 _ _ h1), fun p hp => ?_⟩
    obtain ⟨g, x1⟩ := Grow.tup (o := .lst (cutV vs lo hi)) x0 hp
    exact q _ _ _ g ⟨p, _, rfl, upd_same, h2.cut.ext x1⟩
  | tup xs =>
    cases e
    obtain ⟨a, vs, rfl, h1, h2⟩ := Rx
    refine sl_tupA pins s σ H _ v vl vu lo hi sl Q I rx hs pl pu ⟨a, vs, rfl, h1.ext x0, fun ⟨w1, w2⟩ => ?_, fun _ p hp => ?_⟩
    · have hc : cutL xs lo hi = xs := by
        rw [sIx_cut] at w1 w2
        unfold cutL
        rw [h2.length, w1, w2, ← h2.length]
        simp
      rw [hc] at q
      exact q _ _ _ (Grow.refl x0) ⟨a, vs, rfl, h1, h2⟩
    · obtain ⟨g, x1⟩ := Grow.tup (o := .tup (cutV vs lo hi)) x0 hp
      exact q _ _ _ g ⟨p, _, rfl, SqT.of upd_same, h2.cut.ext x1⟩
  | _ => cases e
/-- an end of a slice -/
def RO (T : Tb) (n : Ent) (σ : L2.St) (H0 : Hp) (p : Addr) (Q : Option Int → Hp → Prop) (W : XW) : R (Option Int) → Prop
  | .ok i e t => ∀ H0' H', SI T n e t σ H0' H' p → Ext H0 H0' → Q i H'
  | .err c fs => ErrW T n W c fs
  | .stuck => False
def tO (T : Tb) (n : Ent) (W : XW) (m : Option ME) : TO := fun σ H Q => ∃ e t H0 p, SI T n e t σ H0 H p ∧ RO T n σ H0 p Q W (mPart m e t)
theorem o_none : PO X none (tO (tb X c) n W none) := ⟨fun pins s σ H Q I ⟨e, t, H0, p, S, q⟩ => po_none.run pins s σ H Q I (q _ _ S Ext.rfl')⟩
theorem o_some {a : Expr} {ma : ME} (ha : PM X c n W a ma) : PO X (some a) (tO (tb X c) n W (some ma)) := by
  refine ⟨fun pins s σ H Q I ⟨e, t, H0, p, S, q⟩ => ?_⟩
  refine (po_some ha).run pins s σ H Q I ⟨e, t, H0, p, S, ?_⟩
  have q : RO (tb X c) n σ H0 p Q W ((ma e t).bind fun d e t => match d with | .int i => .ok (some i) e t | _ => .stuck) := q
  cases hx : ma e t with
  | ok d e1 t1 =>
    rw [hx] at q
    cases d with
    | int i => exact fun v G0 G S1 x1 R1 => ⟨i, R1, q _ _ S1 x1⟩
    | _ => exact q.elim
  | err k fs => rw [hx] at q; exact q
  | stuck => rw [hx] at q; exact q
theorem bindO {β : Type} {T : Tb} {σ : L2.St} {H0 : Hp} {p : Addr} {x : R (Option Int)} {f : Option Int → Env → D → R β} {C : R β → Prop} (he : ∀ c fs, C (.err c fs) → ErrW T n W c fs) (hs : C .stuck → False) (h : C (x.bind f)) :
    RO T n σ H0 p (fun i G => ∃ e1 t1 G0, SI T n e1 t1 σ G0 G p ∧ Ext H0 G0 ∧ C (f i e1 t1)) W x := by
  cases x with
  | ok d e1 t1 => exact fun G0 G S x => ⟨e1, t1, G0, S, x, h⟩
  | err c fs => exact he c fs h
  | stuck => exact (hs h).elim
theorem m_slice {a : Expr} {lo hi : Option Expr} {ma : ME} {ml mh : Option ME} {p2 pos : Pos} (ha : PM X c n W a ma) (hl : PO X lo (tO (tb X c) n W ml)) (hh : PO X hi (tO (tb X c) n W mh)) : PM X c n W (.Subscript a (.Slice lo hi none p2) pos) (mSlice ma ml mh) := by
  refine ⟨fun pins s σ H Q I ⟨e, t, H0, p, S, q⟩ => ?_⟩
  refine (pe_slice (sl_D (c := c)) ha hl hh).run pins s σ H Q I ⟨e, t, H0, p, S, ?_⟩
  have h1 := bindE (T := tb X c) (n := n) (σ := σ) (H0 := H0) (p := p) (W := W) (C := RE (tb X c) n σ H0 p Q W) RE.e RE.s q
  cases hx : ma e t with
  | err k fs => rw [hx] at h1; exact h1
  | stuck => rw [hx] at h1; exact h1
  | ok d1 e1 t1 =>
    rw [hx] at h1
    intro v G0 G S1 x1 R1
    obtain ⟨d1, e1, t1, G0, S1, x1, R1, q1⟩ := h1 v G0 G S1 x1 R1
    refine ⟨e1, t1, G0, p, S1, ?_⟩
    have h2 := bindO (T := tb X c) (n := n) (σ := σ) (H0 := G0) (p := p) (W := W) (C := RE (tb X c) n σ G0 p Q W) RE.e RE.s (q1.mono x1)
    cases hy : mPart ml e1 t1 with
    | err k fs => rw [hy] at h2; exact h2
    | stuck => rw [hy] at h2; exact h2
    | ok i e2 t2 =>
      rw [hy] at h2
      intro K0 K S2 x2
      obtain ⟨e2, t2, G2, S2, x2, q2⟩ := h2 K0 K S2 x2
      refine ⟨e2, t2, G2, p, S2, ?_⟩
      have h3 := bindO (T := tb X c) (n := n) (σ := σ) (H0 := G2) (p := p) (W := W) (C := RE (tb X c) n σ G2 p Q W) RE.e RE.s (q2.mono x2)
      cases hz : mPart mh e2 t2 with
      | err k fs => rw [hz] at h3; exact h3
      | stuck => rw [hz] at h3; exact h3
      | ok j e3 t3 =>
        rw [hz] at h3
        intro L0 L S3 x3
        obtain ⟨e3, t3, G3, S3, x3, q3⟩ := h3 L0 L S3 x3
        cases hg : pSlice d1 i j with
        | none => rw [hg] at q3; exact q3.elim
        | some d =>
          rw [hg] at q3
          exact ⟨G3, d1, d, S3.sub, (R1.ext x2).ext x3, hg, fun z H0' H' gr R => q3 z H0' H' (S3.grow gr) (x3.trans gr.ext0) R⟩

/-! ### built-ins -/
def Blt (X : Cx) (c : CT) (f : Value) (g : List D → Option D) : Prop :=
  CallR X f (fun xs H Q => ∃ H0 ds d, Ext H0 H ∧ Reps (tb X c) H0 ds xs ∧ g ds = some d ∧ ∀ z H0' H', Grow H0 H H0' H' → Rep (tb X c) H0' d z → Q z H')
/-- .. whose answer is new -/
def BltN (X : Cx) (c : CT) (f : Value) (g : List D → Option D) : Prop :=
  CallR X f (fun xs H Q => ∃ H0 ds d, Ext H0 H ∧ Reps (tb X c) H0 ds xs ∧ g ds = some d ∧ ∀ a o, H a = none → OwnAt (tb X c) H0 (upd H a o) d a → Q (.ref a) (upd H a o))
theorem mN_read {T : Tb} {σ : L2.St} {H0 : Hp} {p : Addr} {Q : VK} {ms : List ME} {g : List D → Option D} {e : Env} {t : D} (q : RE T n σ H0 p Q W (mN g ms e t)) :
    RA T n σ H0 p (fun vs G => ∃ ds d e1 t1 G0, SI T n e1 t1 σ G0 G p ∧ Ext H0 G0 ∧ Reps T G0 ds vs ∧ g ds = some d ∧ RE T n σ G0 p Q W (.ok d e1 t1)) W (mArgs ms e t) := by
  have h1 := bindA (T := T) (n := n) (σ := σ) (H0 := H0) (p := p) (W := W) (C := RE T n σ H0 p Q W) RE.e RE.s q
  cases hx : mArgs ms e t with
  | err k fs => rw [hx] at h1; exact h1
  | stuck => rw [hx] at h1; exact h1
  | ok ds e1 t1 =>
    rw [hx] at h1
    intro vs G0 G S1 x1 R1
    obtain ⟨ds, e1, t1, G0, S1, x1, R1, q1⟩ := h1 vs G0 G S1 x1 R1
    cases hg : g ds with
    | none => rw [hg] at q1; exact q1.elim
    | some d => rw [hg] at q1; exact ⟨ds, d, e1, t1, G0, S1, x1, R1, hg, RE.mono (x := .ok d e1 t1) q1 x1⟩
theorem blt_read {f : Value} {g : List D → Option D} {ms : List ME} {σ : L2.St} {H : Hp} {Q : VK} (q : tE (tb X c) n W (mN g ms) σ H Q) :
    tCB (fun xs H Q => ∃ H0 ds d, Ext H0 H ∧ Reps (tb X c) H0 ds xs ∧ g ds = some d ∧ ∀ z H0' H', Grow H0 H H0' H' → Rep (tb X c) H0' d z → Q z H') (tA (tb X c) n W (mArgs ms)) σ H Q := by
  obtain ⟨e, t, H0, p, S, q⟩ := q
  refine ⟨e, t, H0, p, S, ?_⟩
  have h := mN_read q
  cases hx : mArgs ms e t with
  | err k fs => rw [hx] at h; exact h
  | stuck => rw [hx] at h; exact h
  | ok ds e1 t1 =>
    rw [hx] at h
    intro vs G0 G S1 x1 R1
    obtain ⟨ds, d, e1, t1, G0, S1, x1, R1, hg, q1⟩ := h vs G0 G S1 x1 R1
    exact ⟨G0, ds, d, S1.sub, R1, hg, fun z H0' H' gr R => q1 z H0' H' (S1.grow gr) gr.ext0 R⟩
theorem bltN_read {f : Value} {g : List D → Option D} {ms : List ME} {σ : L2.St} {H : Hp} {Q : VK} (q : tN (tb X c) n W (mN g ms) σ H Q) :
    tCB (fun xs H Q => ∃ H0 ds d, Ext H0 H ∧ Reps (tb X c) H0 ds xs ∧ g ds = some d ∧ ∀ a o, H a = none → OwnAt (tb X c) H0 (upd H a o) d a → Q (.ref a) (upd H a o)) (tA (tb X c) n W (mArgs ms)) σ H Q := by
  obtain ⟨e, t, H0, p, S, q⟩ := q
  refine ⟨e, t, H0, p, S, ?_⟩
  have h1 := bindA (T := tb X c) (n := n) (σ := σ) (H0 := H0) (p := p) (W := W) (C := RN (tb X c) n σ H0 p Q W) RN.e RN.s q
  cases hx : mArgs ms e t with
  | err k fs => rw [hx] at h1; exact h1
  | stuck => rw [hx] at h1; exact h1
  | ok ds e1 t1 =>
    rw [hx] at h1
    intro vs G0 G S1 x1 R1
    obtain ⟨ds, e1, t1, G0, S1, x1, R1, q1⟩ := h1 vs G0 G S1 x1 R1
    cases hg : g ds with
    | none => rw [hg] at q1; exact q1.elim
    | some d =>
      rw [hg] at q1
      refine ⟨G0, ds, d, S1.sub, R1, hg, fun a o ha oo => ?_⟩
      obtain ⟨S2, F2⟩ := S1.lay (o := o) ha
      exact q1 a _ _ S2 x1 oo F2
section
variable {x : Str} {id : String} {g : List D → Option D} {e : Expr} {es : List Expr} {ms : List ME} {p pos : Pos}
theorem m_blt (hc : Blt X c (.builtin id) g) (hg : Gl X x) (hm : X.mg x = none) (hv : bootBuiltins x = some (.builtin id)) (ha : PMs X c n W (e :: es) (mArgs ms)) (hn : x ≠ "__name__") (hdb : (x == ("__debug__" : Str)) = false)
    (he : starEach (e :: es) X.env = (false, eval e X.env) :: starEach es X.env) (hpl : (backTo pos (starEach es X.env)).any (·.1) = false) : PM X c n W (.Call (.Name x p) (e :: es) [] pos) (mN g ms) :=
  ⟨fun pins s σ H Q I q => (pe_callB hc hg hm hv ha hn hdb he hpl).run pins s σ H Q I (blt_read (f := .none) q)⟩
theorem m_bltT (hc : Blt X c (.type id) g) (hg : Gl X x) (hm : X.mg x = none) (hv : bootBuiltins x = some (.type id)) (ha : PMs X c n W (e :: es) (mArgs ms)) (hn : x ≠ "__name__") (hdb : (x == ("__debug__" : Str)) = false)
    (he : starEach (e :: es) X.env = (false, eval e X.env) :: starEach es X.env) (hpl : (backTo pos (starEach es X.env)).any (·.1) = false) : PM X c n W (.Call (.Name x p) (e :: es) [] pos) (mN g ms) :=
  ⟨fun pins s σ H Q I q => (pe_callTy hc hg hm hv ha hn hdb he hpl).run pins s σ H Q I (blt_read (f := .none) q)⟩
theorem n_blt (hc : BltN X c (.builtin id) g) (hg : Gl X x) (hm : X.mg x = none) (hv : bootBuiltins x = some (.builtin id)) (ha : PMs X c n W (e :: es) (mArgs ms)) (hn : x ≠ "__name__") (hdb : (x == ("__debug__" : Str)) = false)
    (he : starEach (e :: es) X.env = (false, eval e X.env) :: starEach es X.env) (hpl : (backTo pos (starEach es X.env)).any (·.1) = false) : PNw X c n W (.Call (.Name x p) (e :: es) [] pos) (mN g ms) :=
  ⟨fun pins s σ H Q I q => (pe_callB hc hg hm hv ha hn hdb he hpl).run pins s σ H Q I (bltN_read (f := .none) q)⟩
theorem n_bltT (hc : BltN X c (.type id) g) (hg : Gl X x) (hm : X.mg x = none) (hv : bootBuiltins x = some (.type id)) (ha : PMs X c n W (e :: es) (mArgs ms)) (hn : x ≠ "__name__") (hdb : (x == ("__debug__" : Str)) = false)
    (he : starEach (e :: es) X.env = (false, eval e X.env) :: starEach es X.env) (hpl : (backTo pos (starEach es X.env)).any (·.1) = false) : PNw X c n W (.Call (.Name x p) (e :: es) [] pos) (mN g ms) :=
  ⟨fun pins s σ H Q I q => (pe_callTy hc hg hm hv ha hn hdb he hpl).run pins s σ H Q I (bltN_read (f := .none) q)⟩
end
theorem one_arg {T : Tb} {H : Hp} {p : D → Option D} {ds : List D} {d : D} {vs : List V} (e : g1 p ds = some d) (r : Reps T H ds vs) : ∃ dx x, ds = [dx] ∧ vs = [x] ∧ p dx = some d ∧ Rep T H dx x := by
  cases ds with
  | nil => cases e
  | cons dx r2 =>
    cases r2 with
    | nil =>
      obtain ⟨x, r', rfl, h1, h2⟩ := r
      have h2 : r' = [] := h2
      subst h2
      exact ⟨dx, x, rfl, rfl, e, h1⟩
    | cons _ _ => cases e
theorem bools_rep {T : Tb} {H : Hp} : ∀ {ds : List D} {bs : List Bool} {vs : List V}, boolsD ds = some bs → Reps T H ds vs → vs = bs.map V.bl
  | [], bs, vs, e, h => by cases e; exact h
  | .bl b :: r, bs, vs, e, h => by
    obtain ⟨v, r', rfl, h1, h2⟩ := h
    have e : (boolsD r).map (b :: ·) = some bs := e
    cases hr : boolsD r with
    | none => rw [hr] at e; cases e
    | some bs' =>
      rw [hr] at e
      cases e
      have h1 : v = .bl b := h1
      rw [h1, bools_rep hr h2]
      rfl
  | .non :: _, _, _, e, _ => by cases e
  | .int _ :: _, _, _, e, _ => by cases e
  | .str _ :: _, _, _, e, _ => by cases e
  | .lst _ :: _, _, _, e, _ => by cases e
  | .tup _ :: _, _, _, e, _ => by cases e
  | .dic _ :: _, _, _, e, _ => by cases e
  | .kdic _ :: _, _, _, e, _ => by cases e
  | .obj _ _ :: _, _, _, e, _ => by cases e
  | .trk :: _, _, _, e, _ => by cases e
theorem ints_rep {T : Tb} {H : Hp} : ∀ {ds : List D} {bs : List Int} {vs : List V}, intsD ds = some bs → Reps T H ds vs → vs = bs.map V.int
  | [], bs, vs, e, h => by cases e; exact h
  | .int b :: r, bs, vs, e, h => by
    obtain ⟨v, r', rfl, h1, h2⟩ := h
    have e : (intsD r).map (b :: ·) = some bs := e
    cases hr : intsD r with
    | none => rw [hr] at e; cases e
    | some bs' =>
      rw [hr] at e
      cases e
      have h1 : v = .int b := h1
      rw [h1, ints_rep hr h2]
      rfl
  | .non :: _, _, _, e, _ => by cases e
  | .bl _ :: _, _, _, e, _ => by cases e
  | .str _ :: _, _, _, e, _ => by cases e
  | .lst _ :: _, _, _, e, _ => by cases e
  | .tup _ :: _, _, _, e, _ => by cases e
  | .dic _ :: _, _, _, e, _ => by cases e
  | .kdic _ :: _, _, _, e, _ => by cases e
  | .obj _ _ :: _, _, _, e, _ => by cases e
  | .trk :: _, _, _, e, _ => by cases e
theorem strs_rep {T : Tb} {H : Hp} : ∀ {ds : List D} {bs : List Str} {vs : List V}, strsD ds = some bs → Reps T H ds vs → vs = bs.map V.str
  | [], bs, vs, e, h => by cases e; exact h
  | .str b :: r, bs, vs, e, h => by
    obtain ⟨v, r', rfl, h1, h2⟩ := h
    have e : (strsD r).map (b :: ·) = some bs := e
    cases hr : strsD r with
    | none => rw [hr] at e; cases e
    | some bs' =>
      rw [hr] at e
      cases e
      have h1 : v = .str b := h1
      rw [h1, strs_rep hr h2]
      rfl
  | .non :: _, _, _, e, _ => by cases e
  | .bl _ :: _, _, _, e, _ => by cases e
  | .int _ :: _, _, _, e, _ => by cases e
  | .lst _ :: _, _, _, e, _ => by cases e
  | .tup _ :: _, _, _, e, _ => by cases e
  | .dic _ :: _, _, _, e, _ => by cases e
  | .kdic _ :: _, _, _, e, _ => by cases e
  | .obj _ _ :: _, _, _, e, _ => by cases e
  | .trk :: _, _, _, e, _ => by cases e
theorem reps_strs {T : Tb} {H : Hp} : ∀ (ss : List Str), Reps T H (ss.map .str) (ss.map V.str)
  | [] => rfl
  | s :: r => ⟨_, _, rfl, rfl, reps_strs r⟩
theorem blt_len : Blt X c (.builtin "len") (g1 pLen) := by
  intro pins s σ H xs us Q I r ⟨H0, ds, d, x0, R, e, q⟩
  obtain ⟨dx, x, rfl, rfl, e, Rx⟩ := one_arg e R
  cases dx with
  | lst zs =>
    cases e
    obtain ⟨a, vs, rfl, h1, h2⟩ := Rx
    exact call_len pins s σ H _ us Q I r ⟨_, vs.length, rfl, .inl ⟨vs, SqL.of (x0 _ _ h1), rfl⟩, q _ _ _ (Grow.refl x0) (by show V.int _ = V.int _; rw [h2.length])⟩
  | tup zs =>
    cases e
    obtain ⟨a, vs, rfl, h1, h2⟩ := Rx
    exact call_len pins s σ H _ us Q I r ⟨_, vs.length, rfl, .inr ⟨vs, h1.ext x0, rfl⟩, q _ _ _ (Grow.refl x0) (by show V.int _ = V.int _; rw [h2.length])⟩
  | dic zs =>
    cases e
    obtain ⟨a, kv, rfl, ⟨o, h1⟩, h2⟩ := Rx
    obtain ⟨u, rfl, ru⟩ := vals1 r
    obtain rfl : u = Value.ref a := ru
    exact d_len I (.inr ⟨o, x0 _ _ h1⟩) fun t s' I' => ⟨.int kv.length, H, I', ⟨t, rfl⟩, q _ _ _ (Grow.refl x0) (by show V.int _ = V.int _; rw [h2.length])⟩
  | str z =>
    have e : (if z.length ≤ lim then some (D.int z.length) else none) = some d := e
    by_cases hz : z.length ≤ lim
    · rw [if_pos hz] at e
      cases e
      have Rx : x = .str z := Rx
      subst Rx
      exact call_len pins s σ H _ us Q I r ⟨_, z.length, rfl, ⟨limle.mp hz, rfl⟩, q _ _ _ (Grow.refl x0) rfl⟩
    · rw [if_neg hz] at e; cases e
  | _ => cases e

theorem blt_all (hc : X.calm = true) : Blt X c (.builtin "all") (g1 pAll) := by
  intro pins s σ H xs us Q I r ⟨H0, ds, d, x0, R, e, q⟩
  obtain ⟨dx, x, rfl, rfl, e, Rx⟩ := one_arg e R
  cases dx with
  | lst zs =>
    have e : (boolsD zs).map (fun bs => D.bl (bs.all id)) = some d := e
    cases hb : boolsD zs with
    | none => rw [hb] at e; cases e
    | some bs =>
      rw [hb] at e
      cases e
      obtain ⟨a, vs, rfl, h1, h2⟩ := Rx
      have hv := bools_rep hb h2
      subst hv
      exact cr_all hc pins s σ H _ us Q I r ⟨a, bs, rfl, SqL.of (x0 _ _ h1), q _ _ _ (Grow.refl x0) rfl⟩
  | _ => cases e
theorem blt_any (hc : X.calm = true) : Blt X c (.builtin "any") (g1 pAny) := by
  intro pins s σ H xs us Q I r ⟨H0, ds, d, x0, R, e, q⟩
  obtain ⟨dx, x, rfl, rfl, e, Rx⟩ := one_arg e R
  cases dx with
  | lst zs =>
    have e : (boolsD zs).map (fun bs => D.bl (bs.any id)) = some d := e
    cases hb : boolsD zs with
    | none => rw [hb] at e; cases e
    | some bs =>
      rw [hb] at e
      cases e
      obtain ⟨a, vs, rfl, h1, h2⟩ := Rx
      have hv := bools_rep hb h2
      subst hv
      exact cr_any hc pins s σ H _ us Q I r ⟨a, bs, rfl, SqL.of (x0 _ _ h1), q _ _ _ (Grow.refl x0) rfl⟩
  | _ => cases e
theorem blt_sum (hc : X.calm = true) : Blt X c (.builtin "sum") (g1 pSum) := by
  intro pins s σ H xs us Q I r ⟨H0, ds, d, x0, R, e, q⟩
  obtain ⟨dx, x, rfl, rfl, e, Rx⟩ := one_arg e R
  cases dx with
  | lst zs =>
    have e : (intsD zs).map (fun bs => D.int bs.sum) = some d := e
    cases hb : intsD zs with
    | none => rw [hb] at e; cases e
    | some bs =>
      rw [hb] at e
      cases e
      obtain ⟨a, vs, rfl, h1, h2⟩ := Rx
      have hv := ints_rep hb h2
      subst hv
      exact cr_sum hc pins s σ H _ us Q I r ⟨a, bs, rfl, SqL.of (x0 _ _ h1), q _ _ _ (Grow.refl x0) rfl⟩
  | _ => cases e
theorem maxL_spec : ∀ (r : List Int) (m : Int), (maxL m r = m ∨ maxL m r ∈ r) ∧ m ≤ maxL m r ∧ ∀ y ∈ r, y ≤ maxL m r
  | [], m => ⟨.inl rfl, by show m ≤ m; omega, fun y h => by cases h⟩
  | x :: r, m => by
    show (maxL (if m < x then x else m) r = m ∨ maxL (if m < x then x else m) r ∈ x :: r) ∧ m ≤ maxL (if m < x then x else m) r ∧ ∀ y ∈ x :: r, y ≤ maxL (if m < x then x else m) r
    obtain ⟨h1, h2, h3⟩ := maxL_spec r (if m < x then x else m)
    by_cases h : m < x
    · rw [if_pos h] at h1 h2 h3 ⊢
      refine ⟨.inr ?_, by omega, fun y hy => ?_⟩
      · rcases h1 with h1 | h1
        · rw [h1]; exact List.mem_cons_self
        · exact List.mem_cons_of_mem _ h1
      · rcases List.mem_cons.mp hy with rfl | hy
        · exact h2
        · exact h3 y hy
    · rw [if_neg h] at h1 h2 h3 ⊢
      refine ⟨?_, h2, fun y hy => ?_⟩
      · rcases h1 with h1 | h1
        · exact .inl h1
        · exact .inr (List.mem_cons_of_mem _ h1)
      · rcases List.mem_cons.mp hy with rfl | hy
        · omega
        · exact h3 y hy
theorem minL_spec : ∀ (r : List Int) (m : Int), (minL m r = m ∨ minL m r ∈ r) ∧ minL m r ≤ m ∧ ∀ y ∈ r, minL m r ≤ y
  | [], m => ⟨.inl rfl, by show m ≤ m; omega, fun y h => by cases h⟩
  | x :: r, m => by
    show (minL (if x < m then x else m) r = m ∨ minL (if x < m then x else m) r ∈ x :: r) ∧ minL (if x < m then x else m) r ≤ m ∧ ∀ y ∈ x :: r, minL (if x < m then x else m) r ≤ y
    obtain ⟨h1, h2, h3⟩ := minL_spec r (if x < m then x else m)
    by_cases h : x < m
    · rw [if_pos h] at h1 h2 h3 ⊢
      refine ⟨.inr ?_, by omega, fun y hy => ?_⟩
      · rcases h1 with h1 | h1
        · rw [h1]; exact List.mem_cons_self
        · exact List.mem_cons_of_mem _ h1
      · rcases List.mem_cons.mp hy with rfl | hy
        · exact h2
        · exact h3 y hy
    · rw [if_neg h] at h1 h2 h3 ⊢
      refine ⟨?_, h2, fun y hy => ?_⟩
      · rcases h1 with h1 | h1
        · exact .inl h1
        · exact .inr (List.mem_cons_of_mem _ h1)
      · rcases List.mem_cons.mp hy with rfl | hy
        · omega
        · exact h3 y hy
theorem blt_max (hc : X.calm = true) : Blt X c (.builtin "max") (g1 pMax) := by
  intro pins s σ H xs us Q I r ⟨H0, ds, d, x0, R, e, q⟩
  obtain ⟨dx, x, rfl, rfl, e, Rx⟩ := one_arg e R
  cases dx with
  | lst zs =>
    have e : (match intsD zs with | some (x :: r) => some (D.int (maxL x r)) | _ => none) = some d := e
    cases hb : intsD zs with
    | none => rw [hb] at e; cases e
    | some bs =>
      rw [hb] at e
      cases bs with
      | nil => cases e
      | cons m l =>
        cases e
        obtain ⟨a, vs, rfl, h1, h2⟩ := Rx
        have hv := ints_rep hb h2
        subst hv
        refine cr_max hc pins s σ H _ us Q I r ⟨a, m :: l, rfl, SqL.of (x0 _ _ h1), Nat.succ_pos _, fun k hk hm => ?_⟩
        have e : k = maxL m l := by
          obtain ⟨s1, s2, s3⟩ := maxL_spec l m
          have u1 : k ≤ maxL m l := by
            rcases List.mem_cons.mp hk with rfl | hk
            · exact s2
            · exact s3 k hk
          have u2 : maxL m l ≤ k := by
            rcases s1 with s1 | s1
            · rw [s1]; exact hm m List.mem_cons_self
            · exact hm _ (List.mem_cons_of_mem _ s1)
          omega
        exact q _ _ _ (Grow.refl x0) (by rw [e]; rfl)
  | _ => cases e
theorem blt_min (hc : X.calm = true) : Blt X c (.builtin "min") (g1 pMin) := by
  intro pins s σ H xs us Q I r ⟨H0, ds, d, x0, R, e, q⟩
  obtain ⟨dx, x, rfl, rfl, e, Rx⟩ := one_arg e R
  cases dx with
  | lst zs =>
    have e : (match intsD zs with | some (x :: r) => some (D.int (minL x r)) | _ => none) = some d := e
    cases hb : intsD zs with
    | none => rw [hb] at e; cases e
    | some bs =>
      rw [hb] at e
      cases bs with
      | nil => cases e
      | cons m l =>
        cases e
        obtain ⟨a, vs, rfl, h1, h2⟩ := Rx
        have hv := ints_rep hb h2
        subst hv
        refine cr_min hc pins s σ H _ us Q I r ⟨a, m :: l, rfl, SqL.of (x0 _ _ h1), Nat.succ_pos _, fun k hk hm => ?_⟩
        have e : k = minL m l := by
          obtain ⟨s1, s2, s3⟩ := minL_spec l m
          have u1 : minL m l ≤ k := by
            rcases List.mem_cons.mp hk with rfl | hk
            · exact s2
            · exact s3 k hk
          have u2 : k ≤ minL m l := by
            rcases s1 with s1 | s1
            · rw [s1]; exact hm m List.mem_cons_self
            · exact hm _ (List.mem_cons_of_mem _ s1)
          omega
        exact q _ _ _ (Grow.refl x0) (by rw [e]; rfl)
  | _ => cases e
theorem blt_abs : Blt X c (.builtin "abs") (g1 pAbs) := by
  intro pins s σ H xs us Q I r ⟨H0, ds, d, x0, R, e, q⟩
  obtain ⟨dx, x, rfl, rfl, e, Rx⟩ := one_arg e R
  cases dx with
  | int i =>
    cases e
    have Rx : x = .int i := Rx
    subst Rx
    exact call_abs pins s σ H _ us Q I r ⟨i, rfl, q _ _ _ (Grow.refl x0) rfl⟩
  | _ => cases e
theorem blt_int : Blt X c (.type "int") (g1 pInt) := by
  intro pins s σ H xs us Q I r ⟨H0, ds, d, x0, R, e, q⟩
  obtain ⟨dx, x, rfl, rfl, e, Rx⟩ := one_arg e R
  cases dx with
  | int i =>
    cases e
    have Rx : x = .int i := Rx
    subst Rx
    exact call_int1 pins s σ H _ us Q I r (.inl ⟨i, rfl, q _ _ _ (Grow.refl x0) rfl⟩)
  | bl i =>
    cases e
    have Rx : x = .bl i := Rx
    subst Rx
    exact call_int1 pins s σ H _ us Q I r (.inr ⟨i, rfl, q _ _ _ (Grow.refl x0) rfl⟩)
  | _ => cases e
theorem blt_tuple : Blt X c (.type "tuple") (g1 pTuple) := by
  intro pins s σ H xs us Q I r ⟨H0, ds, d, x0, R, e, q⟩
  obtain ⟨dx, x, rfl, rfl, e, Rx⟩ := one_arg e R
  cases dx with
  | lst zs =>
    cases e
    obtain ⟨a, vs, rfl, h1, h2⟩ := Rx
    refine call_tuple_of pins s σ H _ us Q I r ⟨a, vs, rfl, .inl ⟨SqL.of (x0 _ _ h1), fun p hp => ?_⟩⟩
    obtain ⟨g, x1⟩ := Grow.tup (o := .tup vs) x0 hp
    exact q _ _ _ g ⟨p, _, rfl, SqT.of upd_same, h2.ext x1⟩
  | tup zs =>
    cases e
    obtain ⟨a, vs, rfl, h1, h2⟩ := Rx
    exact call_tuple_of pins s σ H _ us Q I r ⟨a, vs, rfl, .inr ⟨h1.ext x0, q _ _ _ (Grow.refl x0) ⟨a, vs, rfl, h1, h2⟩⟩⟩
  | _ => cases e
theorem bltN_list (hc : X.calm = true) : BltN X c (.type "list") (g1 pList) := by
  intro pins s σ H xs us Q I r ⟨H0, ds, d, x0, R, e, q⟩
  obtain ⟨dx, x, rfl, rfl, e, Rx⟩ := one_arg e R
  cases dx with
  | lst zs =>
    cases e
    obtain ⟨a, vs, rfl, h1, h2⟩ := Rx
    exact call_list_of pins s σ H _ us Q I r ⟨a, vs, rfl, .inl (SqL.of (x0 _ _ h1)), fun p hp => q p (.lst vs) hp ⟨vs, upd_same, h2⟩⟩
  | tup zs =>
    cases e
    obtain ⟨a, vs, rfl, h1, h2⟩ := Rx
    exact call_list_of pins s σ H _ us Q I r ⟨a, vs, rfl, .inr (h1.ext x0), fun p hp => q p (.lst vs) hp ⟨vs, upd_same, h2⟩⟩
  | dic zs =>
    cases e
    obtain ⟨a, kv, rfl, ⟨o, h1⟩, h2⟩ := Rx
    refine call_listD hc pins s σ H _ us Q I r ⟨a, kv, rfl, .inr ⟨o, x0 _ _ h1⟩, fun p hp => q p _ hp ⟨_, upd_same, ?_⟩⟩
    rw [h2.keysOf]
    have : ∀ kv : List (Key × V), Reps (tb X c) H0 (kv.map fun q => keyD q.1) (kv.map fun q => kV q.1) := by
      intro kv
      induction kv with
      | nil => exact rfl
      | cons p r ih =>
        refine ⟨_, _, rfl, ?_, ih⟩
        obtain ⟨kk, w⟩ := p
        show Rep (tb X c) H0 (keyD kk) (kV kk)
        cases kk <;> exact rfl
    exact this kv
  | _ => cases e
theorem bltN_dict : BltN X c (.type "dict") (g1 pDict) := by
  intro pins s σ H xs us Q I r ⟨H0, ds, d, x0, R, e, q⟩
  obtain ⟨dx, x, rfl, rfl, e, Rx⟩ := one_arg e R
  cases dx with
  | dic zs =>
    cases e
    obtain ⟨a, kv, rfl, ⟨o, h1⟩, h2⟩ := Rx
    exact call_dictD pins s σ H _ us Q I r ⟨a, kv, rfl, .inr ⟨o, x0 _ _ h1⟩, fun p hp => q p _ hp ⟨_, upd_same, h2, frz_nd I (x0 _ _ h1)⟩⟩
  | _ => cases e
theorem sLt_flip {a b : Str} (h : sLt a b = false) : b.cps.toList ≤ a.cps.toList := List.not_lt.mp (by simpa [sLt] using h)
theorem insS_perm (x : Str) : ∀ l : List Str, (insS x l).Perm (x :: l)
  | [] => .refl _
  | y :: r => by
    show (if sLt y x then y :: insS x r else x :: y :: r).Perm _
    by_cases h : sLt y x = true
    · rw [if_pos h]
      exact ((insS_perm x r).cons y).trans (.swap x y r)
    · rw [if_neg h]
theorem sortS_perm : ∀ l : List Str, (sortS l).Perm l
  | [] => .refl _
  | x :: r => (insS_perm x (sortS r)).trans ((sortS_perm r).cons x)
theorem insS_sorted (x : Str) : ∀ l : List Str, l.Pairwise (fun a b => a.cps.toList ≤ b.cps.toList) → (insS x l).Pairwise (fun a b => a.cps.toList ≤ b.cps.toList)
  | [], _ => by simp [insS]
  | y :: r, h => by
    show (if sLt y x then y :: insS x r else x :: y :: r).Pairwise _
    rw [List.pairwise_cons] at h
    by_cases hs : sLt y x = true
    · rw [if_pos hs, List.pairwise_cons]
      refine ⟨fun z hz => ?_, insS_sorted x r h.2⟩
      rcases List.mem_cons.mp ((insS_perm x r).mem_iff.mp hz) with rfl | hz
      · exact List.le_of_lt (by simpa [sLt] using hs)
      · exact h.1 z hz
    · rw [if_neg hs, List.pairwise_cons]
      have hxy := sLt_flip (by simpa using hs)
      refine ⟨fun z hz => ?_, List.pairwise_cons.mpr h⟩
      rcases List.mem_cons.mp hz with rfl | hz
      · exact hxy
      · exact List.le_trans hxy (h.1 z hz)
theorem sortS_sorted : ∀ l : List Str, (sortS l).Pairwise (fun a b => a.cps.toList ≤ b.cps.toList)
  | [] => by simp [sortS]
  | x :: r => insS_sorted x _ (sortS_sorted r)
theorem risingS_pw : ∀ (l : List Str) (p : Str), risingS p l = true → (p :: l).Pairwise (fun a b => a.cps.toList ≤ b.cps.toList)
  | [], p, _ => by simp
  | x :: r, p, h => by
    have h : (!ltCps x.cps.toList p.cps.toList && risingS x r) = true := h
    rw [Bool.and_eq_true] at h
    have ih := risingS_pw r x h.2
    have hp : p.cps.toList ≤ x.cps.toList := List.not_lt.mp (by have := h.1; rw [PyProof.Rows.ltCps_eq] at this; simpa using this)
    rw [List.pairwise_cons]
    refine ⟨fun z hz => ?_, ih⟩
    rcases List.mem_cons.mp hz with rfl | hz
    · exact hp
    · exact List.le_trans hp ((List.pairwise_cons.mp ih).1 z hz)
theorem sorted_is {ys xs : List Str} (hp : ys.Perm xs) (h : sortedS ys = true) : ys = sortS xs := by
  refine List.Perm.eq_of_pairwise (le := fun a b => a.cps.toList ≤ b.cps.toList) (fun a b _ _ h1 h2 => ?_) ?_ (sortS_sorted xs) (hp.trans (sortS_perm xs).symm)
  · have e := List.le_antisymm h1 h2
    cases a with
    | mk x => cases b with
      | mk y => exact congrArg Str.mk (Array.toList_inj.mp e)
  · cases ys with
    | nil => exact .nil
    | cons y r => exact risingS_pw r y h
theorem bltN_sorted : BltN X c (.builtin "sorted") (g1 pSorted) := by
  intro pins s σ H xs us Q I r ⟨H0, ds, d, x0, R, e, q⟩
  obtain ⟨dx, x, rfl, rfl, e, Rx⟩ := one_arg e R
  cases dx with
  | lst zs =>
    have e : (match strsD zs with | some ss => if ss.length < 64 then some (D.lst ((sortS ss).map .str)) else none | none => none) = some d := e
    cases hb : strsD zs with
    | none => rw [hb] at e; cases e
    | some ss =>
      rw [hb] at e
      have e : (if ss.length < 64 then some (D.lst ((sortS ss).map .str)) else none) = some d := e
      by_cases hl : ss.length < 64
      · rw [if_pos hl] at e
        cases e
        obtain ⟨a, vs, rfl, h1, h2⟩ := Rx
        have hv := strs_rep hb h2
        subst hv
        refine cr_sortedS pins s σ H _ us Q I r ⟨a, ss, rfl, SqL.of (x0 _ _ h1), hl, fun ys p hp hs ha => q p _ ha ?_⟩
        rw [sorted_is hp hs]
        exact ⟨_, upd_same, reps_strs _⟩
      · rw [if_neg hl] at e; cases e
  | _ => cases e

/-! ### isinstance -/
/-- an own class that is asked about: what TyOf asks of it -/
structure InsT (K : PySem.W.Frag) (C : Addr) : Prop where
  cl : Cls K C
  ha : PySem.W.findIn K (.ref C) "__class__" = some (some (.builtin "object.__class__"))
  hn : PySem.W.specialIn K (.builtin "object.__class__") "__get__" = some (some (.builtin "getset_descriptor.__get__"))
  htk : PySem.W.takesIn K (.builtin "object.__class__") = some true
  hm : PySem.W.mroIn K C (.type "object") = some true
/-- a value's type's name -/
def tyN : D → String
  | .non => "NoneType"
  | .bl _ => "bool"
  | .int _ => "int"
  | .str _ => "str"
  | .lst _ => "list"
  | .tup _ => "tuple"
  | .dic _ => "dict"
  | .kdic _ => "dict"
  | _ => ""
theorem tyX_rep {T : Tb} {H0 H : Hp} {d : D} {x : V} (x0 : Ext H0 H) (R : Rep T H0 d x) (h1 : ∀ k fs, d ≠ .obj k fs) : TyX T.K H x (.type (tyN d)) := by
  cases d with
  | non => have R : x = _ := R; subst R; exact .base .non
  | bl b => have R : x = _ := R; subst R; exact .base (.bl b)
  | int b => have R : x = _ := R; subst R; exact .base (.int b)
  | str b => have R : x = _ := R; subst R; exact .base (.str b)
  | lst _ => obtain ⟨a, _, rfl, h, _⟩ := R; exact .base (.lst (x0 _ _ h))
  | tup _ =>
    obtain ⟨a, vs, rfl, h, _⟩ := R
    rcases h.ext x0 with (h | ⟨o, h⟩) | ⟨o, its, m, h, hc, _⟩
    · exact .base (.tup h)
    · exact .fTuple h
    · exact .kTuple h hc
  | dic _ => obtain ⟨a, _, rfl, ⟨o, h⟩, _⟩ := R; exact .fDict (x0 _ _ h)
  | kdic _ => obtain ⟨a, _, rfl, ⟨es, m, h, _⟩, _⟩ := R; exact .kDict h.at_ rfl
  | obj k fs => exact absurd rfl (h1 k fs)
  | trk => exact R.elim
/-- one class: what isinstance answers for it -/
structure IsaH (K : PySem.W.Frag) (c : CT) (obs : List Nat) (u : Value) (f : D → Bool) : Prop where
  ty : ∀ d : D, (∀ k fs, d ≠ .obj k fs) → d ≠ .trk → PySem.W.kitOne K (.type (tyN d)) u = some (f d)
  ob : ∀ k fs, obs.contains k = true → PySem.W.kitOne K (.ref (c.ca k)) u = some (f (.obj k fs))
theorem isa_any {K : PySem.W.Frag} {t : Value} {d : D} : ∀ {us : List Value} {fs : List (D → Bool)}, Paired (fun u (f : D → Bool) => PySem.W.kitOne K t u = some (f d)) us fs → PySem.W.kitAny K t us = some (fs.any fun f => f d)
  | _, _, .nil => rfl
  | _, _, .cons (a := u) (b := f) h r => by
    refine kitAny_cons h (fun hb => ?_) fun hb => ?_
    · rw [List.any_cons, hb]
      exact isa_any r
    · rw [List.any_cons, hb]
      rfl
section
variable {obs : List Nat} {a ec : Expr} {ma : ME} {cv : V} {u : Value} {f : D → Bool} {p pos : Pos}
/-- what a value's own type says -/
theorem isa_ty {T : Tb} {H0 H : Hp} {d d' : D} {x : V} {fs : List (D → Bool)} {us : List Value} (hT : T = tb X c) (x0 : Ext H0 H) (R : Rep T H0 d x) (ho : ∀ k, obs.contains k = true → InsT X.K (c.ca k)) (hu : Paired (fun u f => IsaH X.K c obs u f) us fs) (e : pIsF (fun d => fs.any fun f => f d) obs d = some d') :
    ∃ t, TyX X.K H x t ∧ PySem.W.kitAny X.K t us = some (fs.any fun f => f d) ∧ d' = .bl (fs.any fun f => f d) := by
  subst hT
  have aux : ∀ t, (∀ u f, IsaH X.K c obs u f → PySem.W.kitOne X.K t u = some (f d)) → PySem.W.kitAny X.K t us = some (fs.any fun f => f d) := fun t h => isa_any (L2.Paired.mapP hu fun u f i => h u f i)
  cases d with
  | obj k ffs =>
    have e : (if obs.contains k then some (D.bl (fs.any fun f => f (.obj k ffs))) else none) = some d' := e
    by_cases hk : obs.contains k = true
    · rw [if_pos hk] at e
      cases e
      obtain ⟨a, dx, fv, rfl, h1, _⟩ := R
      have T := ho k hk
      exact ⟨.ref (c.ca k), .base (.ins (x0 _ _ h1) T.cl T.ha T.hn T.htk T.hm), aux _ fun u f i => i.ob k ffs hk, rfl⟩
    · rw [if_neg hk] at e; cases e
  | trk => exact R.elim
  | _ => cases e; exact ⟨_, tyX_rep x0 R (fun _ _ z => nomatch z), aux _ fun u f i => i.ty _ (fun _ _ z => nomatch z) (fun z => nomatch z), rfl⟩
theorem m_isa (hg : Gl X "isinstance") (hm : X.mg "isinstance" = none) (ha : PM X c n W a ma) (hc : PE X ec (tC cv)) (hv : ClsV cv u) (hu : IsaH X.K c obs u f) (ho : ∀ k, obs.contains k = true → InsT X.K (c.ca k))
    (he : starEach [a, ec] X.env = (false, eval a X.env) :: starEach [ec] X.env) (he2 : starEach [ec] X.env = (false, eval ec X.env) :: starEach [] X.env) (hpl : (backTo pos (starEach [ec] X.env)).any (·.1) = false) :
    PM X c n W (.Call (.Name "isinstance" p) [a, ec] [] pos) (m1 (pIsF (fun d => [f].any fun f => f d) obs) ma) := by
  refine ⟨fun pins s σ H Q I ⟨e, t, H0, p, S, q⟩ => ?_⟩
  refine (pe_callB call_isi hg hm boot_isinstance (pa_cons ha (pa_cons hc pa_nil he2) he) (by decide) rfl he hpl).run pins s σ H Q I ⟨e, t, H0, p, S, ?_⟩
  have h := m1_run q
  cases hx : ma e t with
  | err k fs => rw [hx] at h; exact h
  | stuck => rw [hx] at h; exact h
  | ok d e1 t1 =>
    rw [hx] at h
    intro v G0 G S1 x1 R1
    obtain ⟨d, d', e1, t1, G0, S1, R, hg, q1⟩ := h v G0 G S1 x1 R1
    obtain ⟨t, h1, h2, rfl⟩ := isa_ty (T := tb X c) (fs := [f]) (us := [u]) rfl S1.sub R ho (.cons hu .nil) hg
    have h3 : PySem.W.kitOne X.K t u = some ([f].any fun f => f d) := by
      have : PySem.W.kitAny X.K t [u] = some ([f].any fun f => f d) := h2
      unfold PySem.W.kitAny at this
      cases hk : PySem.W.kitOne X.K t u with
      | none => rw [hk] at this; cases this
      | some b =>
        rw [hk] at this
        cases b with
        | true => exact this
        | false => exact this
    exact ⟨v, cv, t, u, _, rfl, hv, h1, h3, q1 _ _ _ S1 Ext.rfl' rfl⟩
/-- isinstance(x, (A, B)) -/
theorem m_isaT {ecs : List Expr} {tc : TA} {cs : List V} {us : List Value} {fs : List (D → Bool)} {kk : Nat} {tpos : Pos} (hg : Gl X "isinstance") (hm : X.mg "isinstance" = none) (ha : PM X c n W a ma) (hc : PA X ecs tc) (hcs : ∀ σ H Q, Q cs H → tc σ H Q) (hl : cs.length ≤ sizeLine) (hv : Paired ClsV cs us) (hu : Paired (fun u f => IsaH X.K c obs u f) us fs)
    (ho : ∀ k, obs.contains k = true → InsT X.K (c.ca k)) (he : starEach [a, .Tuple ecs kk tpos] X.env = (false, eval a X.env) :: starEach [.Tuple ecs kk tpos] X.env) (he2 : starEach [.Tuple ecs kk tpos] X.env = (false, eval (.Tuple ecs kk tpos) X.env) :: starEach [] X.env) (hpl : (backTo pos (starEach [.Tuple ecs kk tpos] X.env)).any (·.1) = false) :
    PM X c n W (.Call (.Name "isinstance" p) [a, .Tuple ecs kk tpos] [] pos) (m1 (pIsF (fun d => fs.any fun f => f d) obs) ma) := by
  refine ⟨fun pins s σ H Q I ⟨e, t, H0, p, S, q⟩ => ?_⟩
  refine (pe_callB call_isiT hg hm boot_isinstance (pa_cons ha (pa_cons (pe_tup hc) pa_nil he2) he) (by decide) rfl he hpl).run pins s σ H Q I ⟨e, t, H0, p, S, ?_⟩
  have h := m1_run q
  cases hx : ma e t with
  | err k fs => rw [hx] at h; exact h
  | stuck => rw [hx] at h; exact h
  | ok d e1 t1 =>
    rw [hx] at h
    intro v G0 G S1 x1 R1
    obtain ⟨d, d', e1, t1, G0, S1, R, hg, q1⟩ := h v G0 G S1 x1 R1
    refine hcs _ _ _ ⟨hl, fun tp htp => ?_⟩
    obtain ⟨S2, _⟩ := S1.lay (o := .tup cs) htp
    obtain ⟨t, h1, h2, rfl⟩ := isa_ty (T := tb X c) rfl S2.sub R ho hu hg
    exact ⟨v, tp, cs, t, us, _, rfl, upd_same, hv, h1, h2, q1 _ _ _ S2 Ext.rfl' rfl⟩
end
end
end DI
set_option linter.all false
set_option Elab.async false
set_option maxRecDepth 100000
set_option maxHeartbeats 4000000
/-! DSnd10: == and != of any values, own __eq__ among them. -/
namespace DI
open PySem PySem.Spec PyProof.Rows L2
/-- a class's own __eq__ -/
structure EqH (X : Cx) (c : CT) (k : Nat) (cid : Nat) (f : Fn) : Prop where
  ex : ∃ a, FnH X c k 2 a f ∧ PySem.W.findIn X.K (.ref (c.ca cid)) "__eq__" = some (some (.ref a)) ∧ PySem.W.isFn X.K (.ref a) = true
  nl : PySem.W.subIn X.K (.type "list") (.ref (c.ca cid)) = some false
  ne : PySem.W.findIn X.K (.ref (c.ca cid)) "__ne__" = some (some (.builtin "object.__ne__"))
  ob : PySem.W.subIn X.K (.ref (c.ca cid)) (.type "object") = some true
section
variable {X : Cx} {c : CT} {n : Ent} {W : XW} {k : Nat} {pins : List (Addr × Obj)} {σ : L2.St} {H H0 : Hp} {s : Shared}
theorem own_call {A : Around} (sb : Sub X k A) (I : Inv X pins σ H s) (x0 : Ext H0 H) {fa : Addr} {f : Fn} (F : FnH X c k 2 fa f) {d1 d2 t' : D} {b : Bool} {v1 v2 : V} {u1 u2 : Value} (R1 : Rep (tb X c) H0 d1 v1) (R2 : Rep (tb X c) H0 d2 v2) (r1 : RelV v1 u1) (r2 : RelV v2 u2) (hd : f [d1, d2] .non = .ok (.bl b) t') :
    wpAny (model X.prog X.w) A (call (.ref fa) [u1, u2]) (fun v s' => v = .bool b ∧ ∃ H0' H', Inv X pins σ H' s' ∧ Grow H0 H H0' H') X.xe s := by
  obtain ⟨fd, ps, hb, F⟩ := F.ex
  have rs : Reps (tb X c) H0 [d1, d2] [v1, v2] := ⟨_, _, rfl, R1, _, _, rfl, R2, rfl⟩
  have hsp : spD (tb X c) 2 f [v1, v2] H (fun v H' => v = .bl b ∧ ∃ H0', Grow H0 H H0' H') E0 := by
    refine ⟨rfl, [d1, d2], H0, .non, 0, x0, rs.paired, fun z => absurd rfl z, fun z => absurd z rs.noTrk, ?_⟩
    rw [hd]
    exact fun v H0' H' s _ R => ⟨R, H0', s.same⟩
  have e0 : Env0 X.prog X.w X.K X.mg X.base A X.stack s H := by
    have e := I.env0
    exact ⟨by rw [sb.fr]; exact e.frames, e.mod, e.bs, e.bsz, e.funs, e.frf, e.hok, e.bare⟩
  have hl := F.len _ _ _ _ hsp
  have rr : Vals [v1, v2] [u1, u2] := .cons r1 (.cons r2 .nil)
  refine wpAny_call (codeAny_mono (F.run A X.stack s H ⟨[u1, u2], []⟩ [u1, u2] [v1, v2] _ E0 sb.room e0 (by
    have := hb s [u1, u2] I.kIn (by simpa using hl)
    simpa using this) rr hsp) fun r s' hq => ?_)
  cases r with
  | error e => exact passL pins σ H s e s' I hq
  | ok fl =>
    cases fl with
    | ret w =>
      obtain ⟨z, H', I', rz, ez, H0', ex⟩ := I.after hq
      subst ez
      cases rz
      exact ⟨rfl, H0', H', I', ex⟩
    | next => exact False.elim hq
    | brk => exact False.elim hq
    | cont => exact False.elim hq
theorem nf_same {K : PySem.W.Frag} {C : Addr} : PySem.W.notFirst K C (.ref C) = true := by simp [PySem.W.notFirst]
theorem ifBound_B {M : Model} {A : Around} {E : Value → Shared → Prop} {K : PySem.W.Frag} {C x : Addr} {ox : Obj} {od : Option Obj} {name : Str} {id : String} {args : List Value} {Q : Option Value → Shared → Prop} (X : K.In s.heap) (I : PySem.W.InstAt s.heap x ox C od)
    (hs : PySem.W.findIn K (.ref C) name = some (some (.builtin id))) (hb : ∀ self, bindSpecial (.builtin id) self = pure (.builtin id, [self]))
    (h : wpAny M A (call (.builtin id) (.ref x :: args)) (fun v => Q (some v)) E s) : wpAny M A (callSpecialIfBound? (.ref x) name args) Q E s := by
  simp only [callSpecialIfBound?, bindSpecialIfBound?]
  refine wpAny_holding (wpAny_bind (wpAny_bind (wpAny_bind (I.type.here ((PySem.W.looks_findIn X hs).here ?_)))))
  simp only [hb]
  refine wpAny_bind (wpAny_askSetting (wpAny_ite ?_))
  have fin : wpAny M A (call (.builtin id) ([.ref x] ++ args) >>= fun v => pure (some v)) Q E s := wpAny_bind (wpAny_mono h (fun v s' h' => wpAny_pure h') fun _ _ h' => h')
  split
  · exact wpAny_bind (wpAny_pure (wpAny_pure (by exact fin)))
  · exact wpAny_tryCatch (wpAny_bind (wpAny_pure (wpAny_pure (by exact fin))))
/-- __ne__ by the own __eq__ -/
theorem ne_own {A : Around} {E : Value → Shared → Prop} {K : PySem.W.Frag} {prog : Program} {w : World} {C x f : Addr} {ox : Obj} {od : Option Obj} {y : Value} {Q : Value → Shared → Prop} (hu : A.units + 1 < cLine) (X : K.In s.heap) (I : PySem.W.InstAt s.heap x ox C od)
    (hb : PySem.W.Looks (model prog w) s.heap (typeOf y) (.ref C))
    (hne : PySem.W.findIn K (.ref C) "__ne__" = some (some (.builtin "object.__ne__"))) (hob : PySem.W.subIn K (.ref C) (.type "object") = some true) (hs : PySem.W.findIn K (.ref C) "__eq__" = some (some (.ref f))) (hf : PySem.W.isFn K (.ref f) = true)
    (h : wpAny (model prog w) A.in1 (call (.ref f) [.ref x, y]) (fun v s' => ∃ b, v = .bool b ∧ Q (.bool (!b)) s') E s) : wpAny (model prog w) A (richCompare .NotEq (.ref x) y) Q E s := by
  have ent : wpAny (model prog w) A.in1 (Builtin.«object.__ne__» ⟨[.ref x, y], []⟩) (fun fin s' => ∃ b, fin = .done (.ret (.bool (!b))) ∧ Q (.bool (!b)) s') E s := by
    unfold Builtin.«object.__ne__»
    repeat (first
      | with_reducible refine wpAny_cRoomFor hu ?_
      | (refine wpAny_bind (m := callSpecialIfBound? (.ref x) (Str.ofString "__eq__") [y])
          (PySem.W.ifBound_K X I hs hf (wpAny_mono h (fun r s' hr => by
            obtain ⟨b, rfl, hq⟩ := hr
            repeat (first | exact ⟨b, rfl, hq⟩ | exact wpAny_pure ⟨b, rfl, hq⟩ | exact wpAny_truthy_bool ⟨b, rfl, hq⟩ | (refine wpAny_bind (m := truthy (.bool _)) (wpAny_truthy_bool ?_)) | wp_step)) fun _ _ e => e)))
      | wp_step)
  have chk : wpAny (model prog w) A.in1 (checkBuiltinCall "object.__ne__" ⟨[.ref x, y], []⟩) (fun _ s1 => s1 = s) E s := by
    have ha := F.cmpArgs_ne (.ref x) y
    simp only [checkBuiltinCall, F.cmpKind_ne, F.cmpSplit_ne]
    refine wpAny_bind ?_
    unfold isInstance
    refine wpAny_bind (I.type.here ?_)
    refine (PySem.W.looks_subIn X hob).here ?_
    simp only [Bool.not_true, Bool.false_eq_true, if_false]
    cases hsig : Manifest.signature? "object.__ne__" with
    | none => exact wpAny_pure rfl
    | some sig =>
      simp only [argsOk, hsig] at ha
      have h2 : Bind.checkArgs "object.__ne__" sig ⟨[.ref x, y], []⟩ = pure () := ha
      show wpAny _ A.in1 (Bind.checkArgs "object.__ne__" sig ⟨[.ref x, y], []⟩) _ E _
      rw [h2]
      exact wpAny_pure rfl
  have cl : wpAny (model prog w) A (call (.builtin "object.__ne__") [.ref x, y]) (fun v s' => ∃ b, v = .bool b ∧ Q (.bool b) s') E s := by
    refine wpAny_call (codeAny_call_builtin PySem.F.cmp_object.ne.plain F.cmpEntry_ne (wpAny_mono chk (fun _ s1 e => ?_) fun _ _ e => e))
    subst e
    refine wpAny_mono ent (fun fin s' hh => ?_) fun _ _ e => e
    obtain ⟨b, rfl, hq⟩ := hh
    exact ⟨_, rfl, hq⟩
  have one : wpAny (model prog w) A (tryCompare (.ref x) "__ne__" y) (fun r s' => ∃ v, r = some v ∧ Q v s') E s := by
    unfold tryCompare
    refine wpAny_bind (ifBound_B X I hne PySem.F.cmp_object.ne.bind (wpAny_mono cl (fun v s' hv => ?_) fun _ _ e => e))
    obtain ⟨b, rfl, hq⟩ := hv
    exact wpAny_pure ⟨_, rfl, hq⟩
  unfold richCompare
  simp only [oneThing_ref]
  refine wpAny_holding (wpAny_bind (wpAny_cRoomFor (Nat.lt_of_succ_lt hu) ?_))
  rw [cmpInfo_NotEq]
  dsimp only
  refine wpAny_bind (I.type.here (wpAny_bind (hb.here ?_)))
  rw [show (Value.ref C != Value.ref C) = false from by simp]
  simp only [Bool.false_eq_true, if_false]
  refine wpAny_bind (wpAny_pure ?_)
  simp only [Bool.false_eq_true, if_false]
  refine wpAny_bind (wpAny_mono one (fun r s' z => ?_) fun _ _ e => e)
  obtain ⟨v, rfl, hq⟩ := z
  exact wpAny_pure hq
open SeqAt in
theorem rc_flat (I : Inv X pins σ H s) {A : Around} {x y : D} {v0 : V} {vx vy : V} {u v : Value} (hx : flatD x = some v0) (hy : simple y = true) (hu : A.units < cLine) (Rx : Rep (tb X c) H x vx) (Ry : Rep (tb X c) H y vy) (rx : RelV vx u) (ry : RelV vy v) : RcAt A s u v (deq x y) ∧ RcAt A s v u (deq x y) := by
  have dI : ∀ i j : Int, (i == j) = decide (i = j) := fun i j => rfl
  have dS : ∀ i j : Str, (i == j) = decide (i = j) := fun i j => by rw [Bool.eq_iff_iff]; simp
  have cI : ∀ i j : Int, (i == j) = decide (j = i) := fun i j => by rw [Bool.eq_iff_iff, beq_iff_eq, decide_eq_true_eq]; exact eq_comm
  have cS : ∀ i j : Str, (i == j) = decide (j = i) := fun i j => by rw [Bool.eq_iff_iff, beq_iff_eq, decide_eq_true_eq]; exact eq_comm
  have cB : ∀ i j : Bool, (i == j) = (j == i) := fun i j => by cases i <;> cases j <;> rfl
  cases x <;> cases hx
  case non =>
    cases y with
    | non =>
      have Rx : vx = .non := Rx
      subst Rx
      cases rx
      have Ry : vy = .non := Ry
      subst Ry
      cases ry
      refine ⟨EqAt_rc (RcAt.none_none) ?_, EqAt_rc (RcAt.none_none) ?_⟩ <;> first | rfl | exact dI _ _ | exact cI _ _ | exact dS _ _ | exact cS _ _ | exact cB _ _
    | bl b =>
      have Rx : vx = .non := Rx
      subst Rx
      cases rx
      have Ry : vy = .bl _ := Ry
      subst Ry
      cases ry
      refine ⟨EqAt_rc (RcAt.none_bool _) ?_, EqAt_rc (RcAt.bool_none _) ?_⟩ <;> first | rfl | exact dI _ _ | exact cI _ _ | exact dS _ _ | exact cS _ _ | exact cB _ _
    | int b =>
      have Rx : vx = .non := Rx
      subst Rx
      cases rx
      have Ry : vy = .int _ := Ry
      subst Ry
      obtain ⟨ty, rfl⟩ := ry
      refine ⟨EqAt_rc (RcAt.none_int _ _) ?_, EqAt_rc (RcAt.int_none _ _) ?_⟩ <;> first | rfl | exact dI _ _ | exact cI _ _ | exact dS _ _ | exact cS _ _ | exact cB _ _
    | str b =>
      have Rx : vx = .non := Rx
      subst Rx
      cases rx
      have Ry : vy = .str _ := Ry
      subst Ry
      obtain ⟨ty, rfl⟩ := ry
      refine ⟨EqAt_rc (RcAt.none_str _ _) ?_, EqAt_rc (RcAt.str_none _ _) ?_⟩ <;> first | rfl | exact dI _ _ | exact cI _ _ | exact dS _ _ | exact cS _ _ | exact cB _ _
    | lst ys =>
      have Rx : vx = .non := Rx
      subst Rx
      cases rx
      obtain ⟨a, vs, rfl, h1, _⟩ := Ry
      obtain ⟨its, _, p, _⟩ := I.list (SqL.of h1)
      have hq := p.isList
      obtain rfl : v = Value.ref a := ry
      refine ⟨EqAt_rc (RcAt.none_list hq hu) ?_, EqAt_rc (RcAt.list_none hq hu) ?_⟩ <;> first | rfl | exact dI _ _ | exact cI _ _ | exact dS _ _ | exact cS _ _ | exact cB _ _
    | tup ys =>
      have Rx : vx = .non := Rx
      subst Rx
      cases rx
      obtain ⟨a, vs, rfl, h1, _⟩ := Ry
      obtain ⟨its, _, p, _⟩ := I.tuple h1
      have hq : s.heap.IsTuple a its.toArray := p
      obtain rfl : v = Value.ref a := ry
      refine ⟨EqAt_rc (RcAt.none_tuple hq hu) ?_, EqAt_rc (RcAt.tuple_none hq hu) ?_⟩ <;> first | rfl | exact dI _ _ | exact cI _ _ | exact dS _ _ | exact cS _ _ | exact cB _ _
    | _ => cases hy
  case bl =>
    cases y with
    | non =>
      have Rx : vx = .bl _ := Rx
      subst Rx
      cases rx
      have Ry : vy = .non := Ry
      subst Ry
      cases ry
      refine ⟨EqAt_rc (RcAt.bool_none _) ?_, EqAt_rc (RcAt.none_bool _) ?_⟩ <;> first | rfl | exact dI _ _ | exact cI _ _ | exact dS _ _ | exact cS _ _ | exact cB _ _
    | bl b =>
      have Rx : vx = .bl _ := Rx
      subst Rx
      cases rx
      have Ry : vy = .bl _ := Ry
      subst Ry
      cases ry
      refine ⟨EqAt_rc (RcAt.bool_bool _ _) ?_, EqAt_rc (RcAt.bool_bool _ _) ?_⟩ <;> first | rfl | exact dI _ _ | exact cI _ _ | exact dS _ _ | exact cS _ _ | exact cB _ _
    | int b =>
      have Rx : vx = .bl _ := Rx
      subst Rx
      cases rx
      have Ry : vy = .int _ := Ry
      subst Ry
      obtain ⟨ty, rfl⟩ := ry
      refine ⟨EqAt_rc (RcAt.bool_int _ _ _) ?_, EqAt_rc (RcAt.int_bool _ _ _) ?_⟩ <;> first | rfl | exact dI _ _ | exact cI _ _ | exact dS _ _ | exact cS _ _ | exact cB _ _
    | str b =>
      have Rx : vx = .bl _ := Rx
      subst Rx
      cases rx
      have Ry : vy = .str _ := Ry
      subst Ry
      obtain ⟨ty, rfl⟩ := ry
      refine ⟨EqAt_rc (RcAt.bool_str _ _ _) ?_, EqAt_rc (RcAt.str_bool _ _ _) ?_⟩ <;> first | rfl | exact dI _ _ | exact cI _ _ | exact dS _ _ | exact cS _ _ | exact cB _ _
    | lst ys =>
      have Rx : vx = .bl _ := Rx
      subst Rx
      cases rx
      obtain ⟨a, vs, rfl, h1, _⟩ := Ry
      obtain ⟨its, _, p, _⟩ := I.list (SqL.of h1)
      have hq := p.isList
      obtain rfl : v = Value.ref a := ry
      refine ⟨EqAt_rc (RcAt.bool_list _ hq hu) ?_, EqAt_rc (RcAt.list_bool _ hq hu) ?_⟩ <;> first | rfl | exact dI _ _ | exact cI _ _ | exact dS _ _ | exact cS _ _ | exact cB _ _
    | tup ys =>
      have Rx : vx = .bl _ := Rx
      subst Rx
      cases rx
      obtain ⟨a, vs, rfl, h1, _⟩ := Ry
      obtain ⟨its, _, p, _⟩ := I.tuple h1
      have hq : s.heap.IsTuple a its.toArray := p
      obtain rfl : v = Value.ref a := ry
      refine ⟨EqAt_rc (RcAt.bool_tuple _ hq hu) ?_, EqAt_rc (RcAt.tuple_bool _ hq hu) ?_⟩ <;> first | rfl | exact dI _ _ | exact cI _ _ | exact dS _ _ | exact cS _ _ | exact cB _ _
    | _ => cases hy
  case int =>
    cases y with
    | non =>
      have Rx : vx = .int _ := Rx
      subst Rx
      obtain ⟨tx, rfl⟩ := rx
      have Ry : vy = .non := Ry
      subst Ry
      cases ry
      refine ⟨EqAt_rc (RcAt.int_none _ _) ?_, EqAt_rc (RcAt.none_int _ _) ?_⟩ <;> first | rfl | exact dI _ _ | exact cI _ _ | exact dS _ _ | exact cS _ _ | exact cB _ _
    | bl b =>
      have Rx : vx = .int _ := Rx
      subst Rx
      obtain ⟨tx, rfl⟩ := rx
      have Ry : vy = .bl _ := Ry
      subst Ry
      cases ry
      refine ⟨EqAt_rc (RcAt.int_bool _ _ _) ?_, EqAt_rc (RcAt.bool_int _ _ _) ?_⟩ <;> first | rfl | exact dI _ _ | exact cI _ _ | exact dS _ _ | exact cS _ _ | exact cB _ _
    | int b =>
      have Rx : vx = .int _ := Rx
      subst Rx
      obtain ⟨tx, rfl⟩ := rx
      have Ry : vy = .int _ := Ry
      subst Ry
      obtain ⟨ty, rfl⟩ := ry
      refine ⟨EqAt_rc (RcAt.int_int _ _ _ _) ?_, EqAt_rc (RcAt.int_int _ _ _ _) ?_⟩ <;> first | rfl | exact dI _ _ | exact cI _ _ | exact dS _ _ | exact cS _ _ | exact cB _ _
    | str b =>
      have Rx : vx = .int _ := Rx
      subst Rx
      obtain ⟨tx, rfl⟩ := rx
      have Ry : vy = .str _ := Ry
      subst Ry
      obtain ⟨ty, rfl⟩ := ry
      refine ⟨EqAt_rc (RcAt.int_str _ _ _ _) ?_, EqAt_rc (RcAt.str_int _ _ _ _) ?_⟩ <;> first | rfl | exact dI _ _ | exact cI _ _ | exact dS _ _ | exact cS _ _ | exact cB _ _
    | lst ys =>
      have Rx : vx = .int _ := Rx
      subst Rx
      obtain ⟨tx, rfl⟩ := rx
      obtain ⟨a, vs, rfl, h1, _⟩ := Ry
      obtain ⟨its, _, p, _⟩ := I.list (SqL.of h1)
      have hq := p.isList
      obtain rfl : v = Value.ref a := ry
      refine ⟨EqAt_rc (RcAt.int_list _ _ hq hu) ?_, EqAt_rc (RcAt.list_int _ _ hq hu) ?_⟩ <;> first | rfl | exact dI _ _ | exact cI _ _ | exact dS _ _ | exact cS _ _ | exact cB _ _
    | tup ys =>
      have Rx : vx = .int _ := Rx
      subst Rx
      obtain ⟨tx, rfl⟩ := rx
      obtain ⟨a, vs, rfl, h1, _⟩ := Ry
      obtain ⟨its, _, p, _⟩ := I.tuple h1
      have hq : s.heap.IsTuple a its.toArray := p
      obtain rfl : v = Value.ref a := ry
      refine ⟨EqAt_rc (RcAt.int_tuple _ _ hq hu) ?_, EqAt_rc (RcAt.tuple_int _ _ hq hu) ?_⟩ <;> first | rfl | exact dI _ _ | exact cI _ _ | exact dS _ _ | exact cS _ _ | exact cB _ _
    | _ => cases hy
  case str =>
    cases y with
    | non =>
      have Rx : vx = .str _ := Rx
      subst Rx
      obtain ⟨tx, rfl⟩ := rx
      have Ry : vy = .non := Ry
      subst Ry
      cases ry
      refine ⟨EqAt_rc (RcAt.str_none _ _) ?_, EqAt_rc (RcAt.none_str _ _) ?_⟩ <;> first | rfl | exact dI _ _ | exact cI _ _ | exact dS _ _ | exact cS _ _ | exact cB _ _
    | bl b =>
      have Rx : vx = .str _ := Rx
      subst Rx
      obtain ⟨tx, rfl⟩ := rx
      have Ry : vy = .bl _ := Ry
      subst Ry
      cases ry
      refine ⟨EqAt_rc (RcAt.str_bool _ _ _) ?_, EqAt_rc (RcAt.bool_str _ _ _) ?_⟩ <;> first | rfl | exact dI _ _ | exact cI _ _ | exact dS _ _ | exact cS _ _ | exact cB _ _
    | int b =>
      have Rx : vx = .str _ := Rx
      subst Rx
      obtain ⟨tx, rfl⟩ := rx
      have Ry : vy = .int _ := Ry
      subst Ry
      obtain ⟨ty, rfl⟩ := ry
      refine ⟨EqAt_rc (RcAt.str_int _ _ _ _) ?_, EqAt_rc (RcAt.int_str _ _ _ _) ?_⟩ <;> first | rfl | exact dI _ _ | exact cI _ _ | exact dS _ _ | exact cS _ _ | exact cB _ _
    | str b =>
      have Rx : vx = .str _ := Rx
      subst Rx
      obtain ⟨tx, rfl⟩ := rx
      have Ry : vy = .str _ := Ry
      subst Ry
      obtain ⟨ty, rfl⟩ := ry
      refine ⟨EqAt_rc (RcAt.str_str _ _ _ _) ?_, EqAt_rc (RcAt.str_str _ _ _ _) ?_⟩ <;> first | rfl | exact dI _ _ | exact cI _ _ | exact dS _ _ | exact cS _ _ | exact cB _ _
    | lst ys =>
      have Rx : vx = .str _ := Rx
      subst Rx
      obtain ⟨tx, rfl⟩ := rx
      obtain ⟨a, vs, rfl, h1, _⟩ := Ry
      obtain ⟨its, _, p, _⟩ := I.list (SqL.of h1)
      have hq := p.isList
      obtain rfl : v = Value.ref a := ry
      refine ⟨EqAt_rc (RcAt.str_list _ _ hq hu) ?_, EqAt_rc (RcAt.list_str _ _ hq hu) ?_⟩ <;> first | rfl | exact dI _ _ | exact cI _ _ | exact dS _ _ | exact cS _ _ | exact cB _ _
    | tup ys =>
      have Rx : vx = .str _ := Rx
      subst Rx
      obtain ⟨tx, rfl⟩ := rx
      obtain ⟨a, vs, rfl, h1, _⟩ := Ry
      obtain ⟨its, _, p, _⟩ := I.tuple h1
      have hq : s.heap.IsTuple a its.toArray := p
      obtain rfl : v = Value.ref a := ry
      refine ⟨EqAt_rc (RcAt.str_tuple _ _ hq hu) ?_, EqAt_rc (RcAt.tuple_str _ _ hq hu) ?_⟩ <;> first | rfl | exact dI _ _ | exact cI _ _ | exact dS _ _ | exact cS _ _ | exact cB _ _
    | _ => cases hy


/-- x == y of data -/
theorem rc_run (I : Inv X pins σ H s) {A : Around} {x y : D} {n : Nat} {b : Bool} {vx vy : V} {u v : Value} {Q : Value → Shared → Prop} {E : Value → Shared → Prop} (z : cok x n b y = true) (hu : A.units + n < cLine) (Rx : Rep (tb X c) H x vx) (Ry : Rep (tb X c) H y vy) (rx : RelV vx u) (ry : RelV vy v) (q : Q (.bool (deq x y)) s) :
    wpAny (model X.prog X.w) A (richCompare .Eq u v) Q E s := by
  have hu0 : A.units < cLine := by omega
  have flat : ∀ v0, flatD x = some v0 → simple y = true → wpAny (model X.prog X.w) A (richCompare .Eq u v) Q E s := fun v0 h1 h2 => (rc_flat I h1 h2 hu0 Rx Ry rx ry).1 X.prog X.w E Q q
  have flat2 : ∀ v0, simple x = true → flatD y = some v0 → deq y x = deq x y → wpAny (model X.prog X.w) A (richCompare .Eq u v) Q E s := fun v0 h1 h2 h3 => (rc_flat I h2 h1 hu0 Ry Rx ry rx).2 X.prog X.w E Q (by rw [h3]; exact q)
  cases x with
  | non => exact flat .non rfl z
  | bl b => exact flat (.bl b) rfl z
  | int b => exact flat (.int b) rfl z
  | str b => exact flat (.str b) rfl z
  | lst xs =>
    cases n with
    | zero => cases z
    | succ n =>
      cases y with
      | non => exact flat2 .non rfl rfl rfl
      | bl b => exact flat2 (.bl b) rfl rfl rfl
      | int b => exact flat2 (.int b) rfl rfl rfl
      | str b => exact flat2 (.str b) rfl rfl rfl
      | tup ys =>
        obtain ⟨a, vs, rfl, h1, h2⟩ := Rx
        obtain ⟨a', vs', rfl, k1, k2⟩ := Ry
        obtain rfl : u = Value.ref a := rx
        obtain rfl : v = Value.ref a' := ry
        obtain ⟨its, r, p⟩ := lst_at I h1
        obtain ⟨its', r', p'⟩ := tup_at I k1
        exact SeqAt.RcAt.list_tuple p p' hu0 X.prog X.w E Q q
      | lst ys =>
        have z : (decide (xs.length ≠ ys.length) || cokL xs n b ys) = true := z
        obtain ⟨a, vs, rfl, h1, h2⟩ := Rx
        obtain ⟨a', vs', rfl, k1, k2⟩ := Ry
        obtain rfl : u = Value.ref a := rx
        obtain rfl : v = Value.ref a' := ry
        obtain ⟨its, r, p⟩ := lst_at I h1
        obtain ⟨its', r', p'⟩ := lst_at I k1
        have l1 : its.toArray.size = xs.length := by rw [List.size_toArray, ← r.length, h2.length]
        have l2 : its'.toArray.size = ys.length := by rw [List.size_toArray, ← r'.length, k2.length]
        by_cases hl : xs.length = ys.length
        · have z : cokL xs n b ys = true := by simpa [hl] using z
          refine SeqAt.rcP_lists (e := eAt xs ys) p p' (by rw [l1, l2, hl]) hu0 (fun j j1 j2 => ?_) E Q ?_
          · have := p_runL I xs n b ys A.in1 vs vs' its its' z (by show A.units + 1 + n < cLine; omega) h2 k2 r r' j (by simpa using j1) (by simpa using j2)
            simpa using this
          · rw [l1, eAt_all hl]; exact q
        · exact SeqAt.RcAt.lists_lengths p p' (by rw [l1, l2]; simpa using hl) hu0 X.prog X.w E Q (by rw [← deqL_len hl]; exact q)
      | _ => cases z
  | tup xs =>
    cases n with
    | zero => cases z
    | succ n =>
      cases y with
      | non => exact flat2 .non rfl rfl rfl
      | bl b => exact flat2 (.bl b) rfl rfl rfl
      | int b => exact flat2 (.int b) rfl rfl rfl
      | str b => exact flat2 (.str b) rfl rfl rfl
      | lst ys =>
        obtain ⟨a, vs, rfl, h1, h2⟩ := Rx
        obtain ⟨a', vs', rfl, k1, k2⟩ := Ry
        obtain rfl : u = Value.ref a := rx
        obtain rfl : v = Value.ref a' := ry
        obtain ⟨its, r, p⟩ := tup_at I h1
        obtain ⟨its', r', p'⟩ := lst_at I k1
        exact SeqAt.RcAt.tuple_list p p' hu0 X.prog X.w E Q q
      | tup ys =>
        have z : cokL xs n false ys = true := z
        obtain ⟨a, vs, rfl, h1, h2⟩ := Rx
        obtain ⟨a', vs', rfl, k1, k2⟩ := Ry
        obtain rfl : u = Value.ref a := rx
        obtain rfl : v = Value.ref a' := ry
        obtain ⟨its, r, p⟩ := tup_at I h1
        obtain ⟨its', r', p'⟩ := tup_at I k1
        have l1 : its.toArray.size = xs.length := by rw [List.size_toArray, ← r.length, h2.length]
        have l2 : its'.toArray.size = ys.length := by rw [List.size_toArray, ← r'.length, k2.length]
        refine SeqAt.RcAt.tuples (e := eAt xs ys) p p' hu0 (fun j j1 j2 => ?_) X.prog X.w E Q (by rw [l1, l2, eAt_min xs ys]; exact q)
        have := at_runL I xs n ys A.in1 vs vs' its its' z (by show A.units + 1 + n < cLine; omega) h2 k2 r r' j (by simpa using j1) (by simpa using j2)
        simpa using this
      | _ => cases z
  | dic ks =>
    cases n with
    | zero => cases z
    | succ n =>
      cases y with
      | dic ls =>
        have z : (b && (decide (ks.length ≠ ls.length) || cokK ks n b ls)) = true := z
        rw [Bool.and_eq_true] at z
        obtain ⟨a, kv, rfl, ⟨o, h1⟩, h2⟩ := Rx
        obtain ⟨a', kv', rfl, ⟨o', k1⟩, k2⟩ := Ry
        obtain rfl : u = Value.ref a := rx
        obtain rfl : v = Value.ref a' := ry
        obtain ⟨_, ya, va, ra, da⟩ := dk_rd I.hok (.inr ⟨o, h1⟩)
        obtain ⟨_, yb, vb, rb, db⟩ := dk_rd I.hok (.inr ⟨o', k1⟩)
        have q : Q (.bool (decide (ks.length = ls.length) && deqK ks ls)) s := q
        have la : va.length = ks.length := by rw [← ra.length, h2.length]
        have lb : vb.length = ls.length := by rw [← rb.length, k2.length]
        refine PySem.W.rcP_dicts (knd := mixKind X.prog X.w) (r := deqK ks ls) ya yb da db hu0 (fun hl => ?_) E Q ?_
        · rw [la, lb] at hl
          exact p_runK I ks n b ls A.in1 kv va kv' vb (by simpa [hl] using z.2) (by show A.units + 1 + n < cLine; omega) h2 ra k2 rb
        · rw [la, lb]; exact q
      | _ => cases z
  | _ => cases z
theorem RcNe_cast {A : Around} {u v : Value} {b b' : Bool} (h : SeqAt.RcNeAt A s u v b) (e : b = b') : SeqAt.RcNeAt A s u v b' := e ▸ h
open SeqAt in
theorem rn_flat (I : Inv X pins σ H s) {A : Around} {x y : D} {v0 : V} {vx vy : V} {u v : Value} (hx : flatD x = some v0) (hy : simple y = true) (hu : A.units < cLine) (Rx : Rep (tb X c) H x vx) (Ry : Rep (tb X c) H y vy) (rx : RelV vx u) (ry : RelV vy v) : RcNeAt A s u v (!deq x y) ∧ RcNeAt A s v u (!deq x y) := by
  have dI : ∀ i j : Int, (i == j) = decide (i = j) := fun i j => rfl
  have dS : ∀ i j : Str, (i == j) = decide (i = j) := fun i j => by rw [Bool.eq_iff_iff]; simp
  have cI : ∀ i j : Int, (i == j) = decide (j = i) := fun i j => by rw [Bool.eq_iff_iff, beq_iff_eq, decide_eq_true_eq]; exact eq_comm
  have cS : ∀ i j : Str, (i == j) = decide (j = i) := fun i j => by rw [Bool.eq_iff_iff, beq_iff_eq, decide_eq_true_eq]; exact eq_comm
  have cB : ∀ i j : Bool, (i == j) = (j == i) := fun i j => by cases i <;> cases j <;> rfl
  cases x <;> cases hx
  case non =>
    cases y with
    | non =>
      have Rx : vx = .non := Rx
      subst Rx
      cases rx
      have Ry : vy = .non := Ry
      subst Ry
      cases ry
      refine ⟨RcNe_cast (RcNeAt.none_none) ?_, RcNe_cast (RcNeAt.none_none) ?_⟩ <;> first | rfl | exact congrArg Bool.not (dI _ _) | exact congrArg Bool.not (cI _ _) | exact congrArg Bool.not (dS _ _) | exact congrArg Bool.not (cS _ _) | exact congrArg Bool.not (cB _ _)
    | bl b =>
      have Rx : vx = .non := Rx
      subst Rx
      cases rx
      have Ry : vy = .bl _ := Ry
      subst Ry
      cases ry
      refine ⟨RcNe_cast (RcNeAt.none_bool _) ?_, RcNe_cast (RcNeAt.bool_none _) ?_⟩ <;> first | rfl | exact congrArg Bool.not (dI _ _) | exact congrArg Bool.not (cI _ _) | exact congrArg Bool.not (dS _ _) | exact congrArg Bool.not (cS _ _) | exact congrArg Bool.not (cB _ _)
    | int b =>
      have Rx : vx = .non := Rx
      subst Rx
      cases rx
      have Ry : vy = .int _ := Ry
      subst Ry
      obtain ⟨ty, rfl⟩ := ry
      refine ⟨RcNe_cast (RcNeAt.none_int _ _) ?_, RcNe_cast (RcNeAt.int_none _ _) ?_⟩ <;> first | rfl | exact congrArg Bool.not (dI _ _) | exact congrArg Bool.not (cI _ _) | exact congrArg Bool.not (dS _ _) | exact congrArg Bool.not (cS _ _) | exact congrArg Bool.not (cB _ _)
    | str b =>
      have Rx : vx = .non := Rx
      subst Rx
      cases rx
      have Ry : vy = .str _ := Ry
      subst Ry
      obtain ⟨ty, rfl⟩ := ry
      refine ⟨RcNe_cast (RcNeAt.none_str _ _) ?_, RcNe_cast (RcNeAt.str_none _ _) ?_⟩ <;> first | rfl | exact congrArg Bool.not (dI _ _) | exact congrArg Bool.not (cI _ _) | exact congrArg Bool.not (dS _ _) | exact congrArg Bool.not (cS _ _) | exact congrArg Bool.not (cB _ _)
    | lst ys =>
      have Rx : vx = .non := Rx
      subst Rx
      cases rx
      obtain ⟨a, vs, rfl, h1, _⟩ := Ry
      obtain ⟨its, _, p, _⟩ := I.list (SqL.of h1)
      have hq := p.isList
      obtain rfl : v = Value.ref a := ry
      refine ⟨RcNe_cast (RcNeAt.none_list hq hu) ?_, RcNe_cast (RcNeAt.list_none hq hu) ?_⟩ <;> first | rfl | exact congrArg Bool.not (dI _ _) | exact congrArg Bool.not (cI _ _) | exact congrArg Bool.not (dS _ _) | exact congrArg Bool.not (cS _ _) | exact congrArg Bool.not (cB _ _)
    | tup ys =>
      have Rx : vx = .non := Rx
      subst Rx
      cases rx
      obtain ⟨a, vs, rfl, h1, _⟩ := Ry
      obtain ⟨its, _, p, _⟩ := I.tuple h1
      have hq : s.heap.IsTuple a its.toArray := p
      obtain rfl : v = Value.ref a := ry
      refine ⟨RcNe_cast (RcNeAt.none_tuple hq hu) ?_, RcNe_cast (RcNeAt.tuple_none hq hu) ?_⟩ <;> first | rfl | exact congrArg Bool.not (dI _ _) | exact congrArg Bool.not (cI _ _) | exact congrArg Bool.not (dS _ _) | exact congrArg Bool.not (cS _ _) | exact congrArg Bool.not (cB _ _)
    | _ => cases hy
  case bl =>
    cases y with
    | non =>
      have Rx : vx = .bl _ := Rx
      subst Rx
      cases rx
      have Ry : vy = .non := Ry
      subst Ry
      cases ry
      refine ⟨RcNe_cast (RcNeAt.bool_none _) ?_, RcNe_cast (RcNeAt.none_bool _) ?_⟩ <;> first | rfl | exact congrArg Bool.not (dI _ _) | exact congrArg Bool.not (cI _ _) | exact congrArg Bool.not (dS _ _) | exact congrArg Bool.not (cS _ _) | exact congrArg Bool.not (cB _ _)
    | bl b =>
      have Rx : vx = .bl _ := Rx
      subst Rx
      cases rx
      have Ry : vy = .bl _ := Ry
      subst Ry
      cases ry
      refine ⟨RcNe_cast (RcNeAt.bool_bool _ _) ?_, RcNe_cast (RcNeAt.bool_bool _ _) ?_⟩ <;> first | rfl | exact congrArg Bool.not (dI _ _) | exact congrArg Bool.not (cI _ _) | exact congrArg Bool.not (dS _ _) | exact congrArg Bool.not (cS _ _) | exact congrArg Bool.not (cB _ _)
    | int b =>
      have Rx : vx = .bl _ := Rx
      subst Rx
      cases rx
      have Ry : vy = .int _ := Ry
      subst Ry
      obtain ⟨ty, rfl⟩ := ry
      refine ⟨RcNe_cast (RcNeAt.bool_int _ _ _) ?_, RcNe_cast (RcNeAt.int_bool _ _ _) ?_⟩ <;> first | rfl | exact congrArg Bool.not (dI _ _) | exact congrArg Bool.not (cI _ _) | exact congrArg Bool.not (dS _ _) | exact congrArg Bool.not (cS _ _) | exact congrArg Bool.not (cB _ _)
    | str b =>
      have Rx : vx = .bl _ := Rx
      subst Rx
      cases rx
      have Ry : vy = .str _ := Ry
      subst Ry
      obtain ⟨ty, rfl⟩ := ry
      refine ⟨RcNe_cast (RcNeAt.bool_str _ _ _) ?_, RcNe_cast (RcNeAt.str_bool _ _ _) ?_⟩ <;> first | rfl | exact congrArg Bool.not (dI _ _) | exact congrArg Bool.not (cI _ _) | exact congrArg Bool.not (dS _ _) | exact congrArg Bool.not (cS _ _) | exact congrArg Bool.not (cB _ _)
    | lst ys =>
      have Rx : vx = .bl _ := Rx
      subst Rx
      cases rx
      obtain ⟨a, vs, rfl, h1, _⟩ := Ry
      obtain ⟨its, _, p, _⟩ := I.list (SqL.of h1)
      have hq := p.isList
      obtain rfl : v = Value.ref a := ry
      refine ⟨RcNe_cast (RcNeAt.bool_list _ hq hu) ?_, RcNe_cast (RcNeAt.list_bool _ hq hu) ?_⟩ <;> first | rfl | exact congrArg Bool.not (dI _ _) | exact congrArg Bool.not (cI _ _) | exact congrArg Bool.not (dS _ _) | exact congrArg Bool.not (cS _ _) | exact congrArg Bool.not (cB _ _)
    | tup ys =>
      have Rx : vx = .bl _ := Rx
      subst Rx
      cases rx
      obtain ⟨a, vs, rfl, h1, _⟩ := Ry
      obtain ⟨its, _, p, _⟩ := I.tuple h1
      have hq : s.heap.IsTuple a its.toArray := p
      obtain rfl : v = Value.ref a := ry
      refine ⟨RcNe_cast (RcNeAt.bool_tuple _ hq hu) ?_, RcNe_cast (RcNeAt.tuple_bool _ hq hu) ?_⟩ <;> first | rfl | exact congrArg Bool.not (dI _ _) | exact congrArg Bool.not (cI _ _) | exact congrArg Bool.not (dS _ _) | exact congrArg Bool.not (cS _ _) | exact congrArg Bool.not (cB _ _)
    | _ => cases hy
  case int =>
    cases y with
    | non =>
      have Rx : vx = .int _ := Rx
      subst Rx
      obtain ⟨tx, rfl⟩ := rx
      have Ry : vy = .non := Ry
      subst Ry
      cases ry
      refine ⟨RcNe_cast (RcNeAt.int_none _ _) ?_, RcNe_cast (RcNeAt.none_int _ _) ?_⟩ <;> first | rfl | exact congrArg Bool.not (dI _ _) | exact congrArg Bool.not (cI _ _) | exact congrArg Bool.not (dS _ _) | exact congrArg Bool.not (cS _ _) | exact congrArg Bool.not (cB _ _)
    | bl b =>
      have Rx : vx = .int _ := Rx
      subst Rx
      obtain ⟨tx, rfl⟩ := rx
      have Ry : vy = .bl _ := Ry
      subst Ry
      cases ry
      refine ⟨RcNe_cast (RcNeAt.int_bool _ _ _) ?_, RcNe_cast (RcNeAt.bool_int _ _ _) ?_⟩ <;> first | rfl | exact congrArg Bool.not (dI _ _) | exact congrArg Bool.not (cI _ _) | exact congrArg Bool.not (dS _ _) | exact congrArg Bool.not (cS _ _) | exact congrArg Bool.not (cB _ _)
    | int b =>
      have Rx : vx = .int _ := Rx
      subst Rx
      obtain ⟨tx, rfl⟩ := rx
      have Ry : vy = .int _ := Ry
      subst Ry
      obtain ⟨ty, rfl⟩ := ry
      refine ⟨RcNe_cast (RcNeAt.int_int _ _ _ _) ?_, RcNe_cast (RcNeAt.int_int _ _ _ _) ?_⟩ <;> first | rfl | exact congrArg Bool.not (dI _ _) | exact congrArg Bool.not (cI _ _) | exact congrArg Bool.not (dS _ _) | exact congrArg Bool.not (cS _ _) | exact congrArg Bool.not (cB _ _)
    | str b =>
      have Rx : vx = .int _ := Rx
      subst Rx
      obtain ⟨tx, rfl⟩ := rx
      have Ry : vy = .str _ := Ry
      subst Ry
      obtain ⟨ty, rfl⟩ := ry
      refine ⟨RcNe_cast (RcNeAt.int_str _ _ _ _) ?_, RcNe_cast (RcNeAt.str_int _ _ _ _) ?_⟩ <;> first | rfl | exact congrArg Bool.not (dI _ _) | exact congrArg Bool.not (cI _ _) | exact congrArg Bool.not (dS _ _) | exact congrArg Bool.not (cS _ _) | exact congrArg Bool.not (cB _ _)
    | lst ys =>
      have Rx : vx = .int _ := Rx
      subst Rx
      obtain ⟨tx, rfl⟩ := rx
      obtain ⟨a, vs, rfl, h1, _⟩ := Ry
      obtain ⟨its, _, p, _⟩ := I.list (SqL.of h1)
      have hq := p.isList
      obtain rfl : v = Value.ref a := ry
      refine ⟨RcNe_cast (RcNeAt.int_list _ _ hq hu) ?_, RcNe_cast (RcNeAt.list_int _ _ hq hu) ?_⟩ <;> first | rfl | exact congrArg Bool.not (dI _ _) | exact congrArg Bool.not (cI _ _) | exact congrArg Bool.not (dS _ _) | exact congrArg Bool.not (cS _ _) | exact congrArg Bool.not (cB _ _)
    | tup ys =>
      have Rx : vx = .int _ := Rx
      subst Rx
      obtain ⟨tx, rfl⟩ := rx
      obtain ⟨a, vs, rfl, h1, _⟩ := Ry
      obtain ⟨its, _, p, _⟩ := I.tuple h1
      have hq : s.heap.IsTuple a its.toArray := p
      obtain rfl : v = Value.ref a := ry
      refine ⟨RcNe_cast (RcNeAt.int_tuple _ _ hq hu) ?_, RcNe_cast (RcNeAt.tuple_int _ _ hq hu) ?_⟩ <;> first | rfl | exact congrArg Bool.not (dI _ _) | exact congrArg Bool.not (cI _ _) | exact congrArg Bool.not (dS _ _) | exact congrArg Bool.not (cS _ _) | exact congrArg Bool.not (cB _ _)
    | _ => cases hy
  case str =>
    cases y with
    | non =>
      have Rx : vx = .str _ := Rx
      subst Rx
      obtain ⟨tx, rfl⟩ := rx
      have Ry : vy = .non := Ry
      subst Ry
      cases ry
      refine ⟨RcNe_cast (RcNeAt.str_none _ _) ?_, RcNe_cast (RcNeAt.none_str _ _) ?_⟩ <;> first | rfl | exact congrArg Bool.not (dI _ _) | exact congrArg Bool.not (cI _ _) | exact congrArg Bool.not (dS _ _) | exact congrArg Bool.not (cS _ _) | exact congrArg Bool.not (cB _ _)
    | bl b =>
      have Rx : vx = .str _ := Rx
      subst Rx
      obtain ⟨tx, rfl⟩ := rx
      have Ry : vy = .bl _ := Ry
      subst Ry
      cases ry
      refine ⟨RcNe_cast (RcNeAt.str_bool _ _ _) ?_, RcNe_cast (RcNeAt.bool_str _ _ _) ?_⟩ <;> first | rfl | exact congrArg Bool.not (dI _ _) | exact congrArg Bool.not (cI _ _) | exact congrArg Bool.not (dS _ _) | exact congrArg Bool.not (cS _ _) | exact congrArg Bool.not (cB _ _)
    | int b =>
      have Rx : vx = .str _ := Rx
      subst Rx
      obtain ⟨tx, rfl⟩ := rx
      have Ry : vy = .int _ := Ry
      subst Ry
      obtain ⟨ty, rfl⟩ := ry
      refine ⟨RcNe_cast (RcNeAt.str_int _ _ _ _) ?_, RcNe_cast (RcNeAt.int_str _ _ _ _) ?_⟩ <;> first | rfl | exact congrArg Bool.not (dI _ _) | exact congrArg Bool.not (cI _ _) | exact congrArg Bool.not (dS _ _) | exact congrArg Bool.not (cS _ _) | exact congrArg Bool.not (cB _ _)
    | str b =>
      have Rx : vx = .str _ := Rx
      subst Rx
      obtain ⟨tx, rfl⟩ := rx
      have Ry : vy = .str _ := Ry
      subst Ry
      obtain ⟨ty, rfl⟩ := ry
      refine ⟨RcNe_cast (RcNeAt.str_str _ _ _ _) ?_, RcNe_cast (RcNeAt.str_str _ _ _ _) ?_⟩ <;> first | rfl | exact congrArg Bool.not (dI _ _) | exact congrArg Bool.not (cI _ _) | exact congrArg Bool.not (dS _ _) | exact congrArg Bool.not (cS _ _) | exact congrArg Bool.not (cB _ _)
    | lst ys =>
      have Rx : vx = .str _ := Rx
      subst Rx
      obtain ⟨tx, rfl⟩ := rx
      obtain ⟨a, vs, rfl, h1, _⟩ := Ry
      obtain ⟨its, _, p, _⟩ := I.list (SqL.of h1)
      have hq := p.isList
      obtain rfl : v = Value.ref a := ry
      refine ⟨RcNe_cast (RcNeAt.str_list _ _ hq hu) ?_, RcNe_cast (RcNeAt.list_str _ _ hq hu) ?_⟩ <;> first | rfl | exact congrArg Bool.not (dI _ _) | exact congrArg Bool.not (cI _ _) | exact congrArg Bool.not (dS _ _) | exact congrArg Bool.not (cS _ _) | exact congrArg Bool.not (cB _ _)
    | tup ys =>
      have Rx : vx = .str _ := Rx
      subst Rx
      obtain ⟨tx, rfl⟩ := rx
      obtain ⟨a, vs, rfl, h1, _⟩ := Ry
      obtain ⟨its, _, p, _⟩ := I.tuple h1
      have hq : s.heap.IsTuple a its.toArray := p
      obtain rfl : v = Value.ref a := ry
      refine ⟨RcNe_cast (RcNeAt.str_tuple _ _ hq hu) ?_, RcNe_cast (RcNeAt.tuple_str _ _ hq hu) ?_⟩ <;> first | rfl | exact congrArg Bool.not (dI _ _) | exact congrArg Bool.not (cI _ _) | exact congrArg Bool.not (dS _ _) | exact congrArg Bool.not (cS _ _) | exact congrArg Bool.not (cB _ _)
    | _ => cases hy


theorem at_runK (I : Inv X pins σ H s) : ∀ (ks : List (D × D)) (n : Nat) (ls : List (D × D)) (A : Around) (kv : List (Key × V)) (va : List (Key × Value)) (kv' : List (Key × V)) (vb : List (Key × Value)), cokK ks n false ls = true → A.units + n < cLine → RepK (tb X c) H ks kv → KV kv va → RepK (tb X c) H ls kv' → KV kv' vb →
    PySem.W.KeqHits A s vb va (deqK ks ls)
  | [], n, ls, A, kv, va, kv', vb, z, hu, R, ra, Rl, rb => by
    have R : kv = [] := R
    subst R
    cases ra
    exact .nil
  | (k, d) :: ks, n, ls, A, kv, va, kv', vb, z, hu, R, ra, Rl, rb => by
    obtain ⟨q, r, rfl, ⟨e, R1⟩, R2⟩ := R
    have e : k = keyD q.1 := e
    subst e
    have z : ((match dlook (keyD q.1) ls with | some u => cok d n false u | none => true) && cokK ks n false ls) = true := z
    rw [Bool.and_eq_true] at z
    cases ra with
    | cons h t =>
      rename_i qv vr
      obtain ⟨key, v⟩ := qv
      obtain ⟨h1, h2⟩ := h
      have h1 : q.1 = key := h1
      subst h1
      have hd : deqK ((keyD q.1, d) :: ks) ls = ((match dlook (keyD q.1) ls with | some u => deq d u | none => false) && deqK ks ls) := rfl
      rw [hd]
      have rr := rb.val q.1
      rcases Rl.look (k := q.1) with ⟨u, w, e1, e2, Ru⟩ | ⟨e1, e2⟩
      · rw [e2] at rr
        obtain ⟨y, hy, ry⟩ := rr.some_of
        rw [e1] at z ⊢
        exact .hit hy (at_run I d n u A q.2 w v y z.1 hu R1 Ru h2 ry) (at_runK I ks n ls A r vr kv' vb z.2 hu R2 t Rl rb)
      · rw [e2] at rr
        rw [e1]
        refine .miss ?_
        cases hv : valueAt vb q.1 with
        | none => rfl
        | some y => rw [hv] at rr; exact rr.elim
/-- != of data -/
theorem rcne_run (I : Inv X pins σ H s) {x y : D} {vx vy : V} {u v : Value} {Q : VK} (z : neCok x y = true) (hu : X.A.units + 64 < cLine) (Rx : Rep (tb X c) H x vx) (Ry : Rep (tb X c) H y vy) (rx : RelV vx u) (ry : RelV vy v) (q : Q (.bl (!deq x y)) H) :
    wpAny (model X.prog X.w) X.A (richCompare .NotEq u v) (EP X pins σ Q) X.xe s := by
  have hu0 : X.A.units < cLine := by omega
  have fin : EP X pins σ Q (.bool (!deq x y)) s := ⟨.bl _, H, I, rfl, q⟩
  have flat : ∀ v0, flatD x = some v0 → simple y = true → wpAny (model X.prog X.w) X.A (richCompare .NotEq u v) (EP X pins σ Q) X.xe s := fun v0 h1 h2 => (rn_flat I h1 h2 hu0 Rx Ry rx ry).1 X.prog X.w _ _ fin
  have flat2 : ∀ v0, simple x = true → flatD y = some v0 → deq y x = deq x y → wpAny (model X.prog X.w) X.A (richCompare .NotEq u v) (EP X pins σ Q) X.xe s := fun v0 h1 h2 h3 => (rn_flat I h2 h1 hu0 Ry Rx ry rx).2 X.prog X.w _ _ (by rw [h3]; exact fin)
  cases x with
  | non => exact flat .non rfl z
  | bl b => exact flat (.bl b) rfl z
  | int b => exact flat (.int b) rfl z
  | str b => exact flat (.str b) rfl z
  | lst xs =>
    cases y with
    | non => exact flat2 .non rfl rfl rfl
    | bl b => exact flat2 (.bl b) rfl rfl rfl
    | int b => exact flat2 (.int b) rfl rfl rfl
    | str b => exact flat2 (.str b) rfl rfl rfl
    | tup ys =>
      obtain ⟨a, vs, rfl, h1, h2⟩ := Rx
      obtain ⟨a', vs', rfl, k1, k2⟩ := Ry
      obtain rfl : u = Value.ref a := rx
      obtain rfl : v = Value.ref a' := ry
      obtain ⟨its, r, p⟩ := lst_at I h1
      obtain ⟨its', r', p'⟩ := tup_at I k1
      exact SeqAt.RcNeAt.list_tuple p p' hu0 X.prog X.w _ _ fin
    | lst ys =>
      have z : (decide (xs.length ≠ ys.length) || cokL xs 39 false ys) = true := z
      obtain ⟨a, vs, rfl, h1, h2⟩ := Rx
      obtain ⟨a', vs', rfl, k1, k2⟩ := Ry
      obtain rfl : u = Value.ref a := rx
      obtain rfl : v = Value.ref a' := ry
      obtain ⟨its, r, p⟩ := lst_at I h1
      obtain ⟨its', r', p'⟩ := lst_at I k1
      have l1 : its.toArray.size = xs.length := by rw [List.size_toArray, ← r.length, h2.length]
      have l2 : its'.toArray.size = ys.length := by rw [List.size_toArray, ← r'.length, k2.length]
      have fin : EP X pins σ Q (.bool (!deqL xs ys)) s := fin
      by_cases hl : xs.length = ys.length
      · have z : cokL xs 39 false ys = true := by simpa [hl] using z
        refine SeqAt.RcNeAt.lists (e := eAt xs ys) p p' (by rw [l1, l2, hl]) hu0 (fun j j1 j2 => ?_) X.prog X.w _ _ (by rw [l1, eAt_all hl]; exact fin)
        have := at_runL I xs 39 ys X.A.in1 vs vs' its its' z (by show X.A.units + 1 + 39 < cLine; omega) h2 k2 r r' j (by simpa using j1) (by simpa using j2)
        simpa using this
      · exact SeqAt.RcNeAt.lists_lengths p p' (by rw [l1, l2]; simpa using hl) hu0 X.prog X.w _ _ (by rw [deqL_len hl] at fin; exact fin)
    | _ => cases z
  | tup xs =>
    cases y with
    | non => exact flat2 .non rfl rfl rfl
    | bl b => exact flat2 (.bl b) rfl rfl rfl
    | int b => exact flat2 (.int b) rfl rfl rfl
    | str b => exact flat2 (.str b) rfl rfl rfl
    | lst ys =>
      obtain ⟨a, vs, rfl, h1, h2⟩ := Rx
      obtain ⟨a', vs', rfl, k1, k2⟩ := Ry
      obtain rfl : u = Value.ref a := rx
      obtain rfl : v = Value.ref a' := ry
      obtain ⟨its, r, p⟩ := tup_at I h1
      obtain ⟨its', r', p'⟩ := lst_at I k1
      exact SeqAt.RcNeAt.tuple_list p p' hu0 X.prog X.w _ _ fin
    | tup ys =>
      have z : cokL xs 39 false ys = true := z
      obtain ⟨a, vs, rfl, h1, h2⟩ := Rx
      obtain ⟨a', vs', rfl, k1, k2⟩ := Ry
      obtain rfl : u = Value.ref a := rx
      obtain rfl : v = Value.ref a' := ry
      obtain ⟨its, r, p⟩ := tup_at I h1
      obtain ⟨its', r', p'⟩ := tup_at I k1
      have l1 : its.toArray.size = xs.length := by rw [List.size_toArray, ← r.length, h2.length]
      have l2 : its'.toArray.size = ys.length := by rw [List.size_toArray, ← r'.length, k2.length]
      have fin : EP X pins σ Q (.bool (!deqL xs ys)) s := fin
      refine SeqAt.RcNeAt.tuples (e := eAt xs ys) p p' hu0 (fun j j1 j2 => ?_) X.prog X.w _ _ (by rw [l1, l2, eAt_min xs ys]; exact fin)
      have := at_runL I xs 39 ys X.A.in1 vs vs' its its' z (by show X.A.units + 1 + 39 < cLine; omega) h2 k2 r r' j (by simpa using j1) (by simpa using j2)
      simpa using this
    | _ => cases z
  | dic ks =>
    cases y with
    | dic ls =>
      have z : (decide (ks.length ≠ ls.length) || cokK ks dep false ls) = true := z
      obtain ⟨a, kv, rfl, ⟨o, h1⟩, h2⟩ := Rx
      obtain ⟨a', kv', rfl, ⟨o', k1⟩, k2⟩ := Ry
      obtain rfl : u = Value.ref a := rx
      obtain rfl : v = Value.ref a' := ry
      obtain ⟨_, ya, va, ra, da⟩ := dk_rd I.hok (.inr ⟨o, h1⟩)
      obtain ⟨_, yb, vb, rb, db⟩ := dk_rd I.hok (.inr ⟨o', k1⟩)
      have fin : EP X pins σ Q (.bool (!(decide (ks.length = ls.length) && deqK ks ls))) s := fin
      have la : va.length = ks.length := by rw [← ra.length, h2.length]
      have lb : vb.length = ls.length := by rw [← rb.length, k2.length]
      refine PySem.W.keq_ne (knd := mixKind X.prog X.w) (r := deqK ks ls) ya yb da db hu0 (fun hl => ?_) ?_
      · rw [la, lb] at hl
        exact at_runK I ks dep ls X.A.in1 kv va kv' vb (by simpa [hl] using z) (by show X.A.units + 1 + 40 < cLine; omega) h2 ra k2 rb
      · rw [la, lb]; exact fin
    | _ => cases z
  | _ => cases y <;> cases z
/-- == : the outcome -/
theorem eq_run {x y : V} {v u : Value} {dx dy : D} {b : Bool} {t : D} {ks : List (Nat × Fn)} {Q : VK} (hr : Room k X.A) (hk : ∀ cid f, tab cid ks = some f → EqH X c k cid f) (I : Inv X pins σ H s) (x0 : Ext H0 H) (rx : RelV x v) (ry : RelV y u) (Rx : Rep (tb X c) H0 dx x) (Ry : Rep (tb X c) H0 dy y)
    (e : eqOut ks dx dy = .ok (.bl b) t) (q : ∀ H0' H', Grow H0 H H0' H' → Q (.bl b) H') : wpAny (model X.prog X.w) X.A (compareOp .Eq v u) (EP X pins σ Q) X.xe s := by
  show wpAny (model X.prog X.w) X.A (richCompare .Eq v u) (EP X pins σ Q) X.xe s
  have hu := hr.units
  have flat : (∀ cid fs, dx ≠ .obj cid fs) → wpAny (model X.prog X.w) X.A (richCompare .Eq v u) (EP X pins σ Q) X.xe s := fun hn => by
    have e : (if cok dx dep true dy then Out.ok (.bl (deq dx dy)) .non else .stuck) = .ok (.bl b) t := by
      cases dx <;> first | exact absurd rfl (hn _ _) | exact e
    by_cases hc : cok dx dep true dy = true
    · rw [if_pos hc] at e
      cases e
      exact rc_run I hc (by show X.A.units + 40 < cLine; omega) (Rx.ext x0) (Ry.ext x0) rx ry ⟨.bl _, H, I, rfl, q _ _ (Grow.refl x0)⟩
    · rw [if_neg hc] at e; cases e
  cases dx with
  | obj cid fs =>
    unfold eqOut at e
    dsimp only at e
    cases ht : tab cid ks with
    | none => rw [ht] at e; cases e
    | some f =>
      rw [ht] at e
      dsimp only at e
      have Eh := hk _ _ ht
      obtain ⟨fa, F, hs, hf⟩ := Eh.ex
      have own : ∀ {tb'}, PySem.W.Looks (model X.prog X.w) s.heap (typeOf u) tb' → PySem.W.notFirst X.K (c.ca cid) tb' = true → ownEq f (.obj cid fs) dy = Out.ok (.bl b) t → wpAny (model X.prog X.w) X.A (richCompare .Eq v u) (EP X pins σ Q) X.xe s := fun hL hn e => by
        have Rx' := Rx
        obtain ⟨a, dx, fv, rfl, h1, _⟩ := Rx'
        obtain rfl : v = Value.ref a := rx
        obtain ⟨mA, J, _⟩ := ins_get I.hok (x0 _ _ h1)
        obtain ⟨od, J, _⟩ := J.look
        obtain ⟨m, hF⟩ := I.fr
        have e : (match f [.obj cid fs, dy] .non with | .ok (.bl b) _ => Out.ok (.bl b) .non | _ => .stuck) = Out.ok (.bl b) t := e
        cases hfd : f [.obj cid fs, dy] .non with
        | ok d t' =>
          rw [hfd] at e
          cases d with
          | bl b' =>
            cases e
            refine PySem.W.cmp_K (op := .Eq) hr.units0 hF I.ok.mod.kin J hL hn hs hf ?_
            refine wpAny_mono (own_call ⟨hr, rfl⟩ I x0 F Rx Ry rfl ry hfd) (fun v s' hh => ?_) fun _ _ z => z
            obtain ⟨rfl, H0', H', I', g⟩ := hh
            exact ⟨.bl _, H', I', rfl, q _ _ g⟩
          | _ => cases e
        | err _ _ => rw [hfd] at e; cases e
        | stuck => rw [hfd] at e; cases e
      cases dy with
      | obj c' fs' =>
        have e : (if c' = cid then ownEq f (.obj cid fs) (.obj c' fs') else .stuck) = Out.ok (.bl b) t := e
        by_cases hc : c' = cid
        · rw [if_pos hc] at e
          subst hc
          have Ry' := Ry
          obtain ⟨a', dx', fv', rfl, k1, _⟩ := Ry'
          obtain rfl : u = Value.ref a' := ry
          obtain ⟨mA, J, _⟩ := ins_get I.hok (x0 _ _ k1)
          obtain ⟨od, J, _⟩ := J.look
          exact own J.type nf_same e
        · rw [if_neg hc] at e; cases e
      | lst ys =>
        have Ry' := Ry
        obtain ⟨a', vs', rfl, k1, _⟩ := Ry'
        obtain rfl : u = Value.ref a' := ry
        obtain ⟨its', r', o, k2, k3, _⟩ := lst_at I (x0 _ _ k1)
        exact own (PySem.W.kitAt_ty _ _ ⟨o, k2, k3⟩) (by unfold PySem.W.notFirst; rw [Eh.nl]; simp) e
      | _ => cases e
  | _ => exact flat fun _ _ z => nomatch z
theorem ne_run {x y : V} {v u : Value} {dx dy : D} {b : Bool} {t : D} {ks : List (Nat × Fn)} {Q : VK} (hr : Room (k + 1) X.A) (hk : ∀ cid f, tab cid ks = some f → EqH X c k cid f) (I : Inv X pins σ H s) (x0 : Ext H0 H) (rx : RelV x v) (ry : RelV y u) (Rx : Rep (tb X c) H0 dx x) (Ry : Rep (tb X c) H0 dy y)
    (e : neOut ks dx dy = .ok (.bl b) t) (q : ∀ H0' H', Grow H0 H H0' H' → Q (.bl (!b)) H') : wpAny (model X.prog X.w) X.A (compareOp .NotEq v u) (EP X pins σ Q) X.xe s := by
  show wpAny (model X.prog X.w) X.A (richCompare .NotEq v u) (EP X pins σ Q) X.xe s
  have hu := hr.units
  have flat : (∀ cid fs, dx ≠ .obj cid fs) → wpAny (model X.prog X.w) X.A (richCompare .NotEq v u) (EP X pins σ Q) X.xe s := fun hn => by
    have e : (if neCok dx dy then Out.ok (.bl (deq dx dy)) .non else .stuck) = .ok (.bl b) t := by
      cases dx <;> first | exact absurd rfl (hn _ _) | exact e
    by_cases hc : neCok dx dy = true
    · rw [if_pos hc] at e
      cases e
      exact rcne_run I hc hu (Rx.ext x0) (Ry.ext x0) rx ry (q _ _ (Grow.refl x0))
    · rw [if_neg hc] at e; cases e
  cases dx with
  | obj cid fs =>
    cases dy with
    | obj c' fs' =>
      have e : (match tab cid ks with
        | some f => if c' = cid then ownEq f (.obj cid fs) (.obj c' fs') else .stuck
        | none => .stuck) = Out.ok (.bl b) t := e
      cases ht : tab cid ks with
      | none => rw [ht] at e; cases e
      | some f =>
        rw [ht] at e
        have e : (if c' = cid then ownEq f (.obj cid fs) (.obj c' fs') else .stuck) = Out.ok (.bl b) t := e
        have Eh := hk _ _ ht
        obtain ⟨fa, F, hs, hf⟩ := Eh.ex
        by_cases hc : c' = cid
        · rw [if_pos hc] at e
          subst hc
          have e : (match f [.obj c' fs, .obj c' fs'] .non with | .ok (.bl b) _ => Out.ok (.bl b) .non | _ => .stuck) = Out.ok (.bl b) t := e
          have Rx' := Rx
          obtain ⟨a, dx, fv, rfl, h1, _⟩ := Rx'
          obtain rfl : v = Value.ref a := rx
          obtain ⟨mA, J, _⟩ := ins_get I.hok (x0 _ _ h1)
          obtain ⟨od, J, _⟩ := J.look
          have Ry' := Ry
          obtain ⟨a', dx', fv', rfl, k1, _⟩ := Ry'
          obtain rfl : u = Value.ref a' := ry
          obtain ⟨mA, J', _⟩ := ins_get I.hok (x0 _ _ k1)
          obtain ⟨od', J', _⟩ := J'.look
          cases hfd : f [.obj c' fs, .obj c' fs'] .non with
          | ok d t' =>
            rw [hfd] at e
            cases d with
            | bl b' =>
              cases e
              refine ne_own (by omega) I.kIn J J'.type Eh.ne Eh.ob hs hf ?_
              refine wpAny_mono (own_call (A := X.A.in1) ⟨hr.in1, rfl⟩ I x0 F Rx Ry rfl rfl hfd) (fun v s' hh => ?_) fun _ _ z => z
              obtain ⟨rfl, H0', H', I', g⟩ := hh
              exact ⟨_, rfl, .bl _, H', I', rfl, q _ _ g⟩
            | _ => cases e
          | err _ _ => rw [hfd] at e; cases e
          | stuck => rw [hfd] at e; cases e
        · rw [if_neg hc] at e; cases e
    | _ => cases e
  | _ => exact flat fun _ _ z => nomatch z

theorem eqOut_bl {ks : List (Nat × Fn)} {x y d t : D} (h : eqOut ks x y = .ok d t) : ∃ b, d = .bl b := by
  unfold eqOut at h
  split at h
  · split at h
    · split at h
      · split at h
        · unfold ownEq at h
          split at h
          · cases h; exact ⟨_, rfl⟩
          · cases h
        · cases h
      · unfold ownEq at h
        split at h
        · cases h; exact ⟨_, rfl⟩
        · cases h
      · cases h
    · cases h
  · split at h
    · cases h; exact ⟨_, rfl⟩
    · cases h
theorem eqOut_err {ks : List (Nat × Fn)} {x y : D} {k : Nat} {fs : List D} (h : eqOut ks x y = .err k fs) : False := by
  unfold eqOut at h
  split at h
  · split at h
    · split at h
      · split at h
        · unfold ownEq at h
          split at h <;> cases h
        · cases h
      · unfold ownEq at h
        split at h <;> cases h
      · cases h
    · cases h
  · split at h <;> cases h
theorem neOut_bl {ks : List (Nat × Fn)} {x y d t : D} (h : neOut ks x y = .ok d t) : ∃ b, d = .bl b := by
  unfold neOut at h
  split at h
  · split at h
    · exact eqOut_bl h
    · cases h
  · split at h
    · cases h; exact ⟨_, rfl⟩
    · cases h
theorem neOut_err {ks : List (Nat × Fn)} {x y : D} {k : Nat} {fs : List D} (h : neOut ks x y = .err k fs) : False := by
  unfold neOut at h
  split at h
  · split at h
    · exact eqOut_err h
    · cases h
  · split at h <;> cases h
variable {a b : Expr} {ma mb : ME} {ks : List (Nat × Fn)} {pos : Pos}
theorem two_run {β : Type} {F : D → D → Env → D → R D} {g : Value → Value → Sem β} {Q : VK} {Q' : β → Shared → Prop} (ha : PM X c n W a ma) (hb : PM X c n W b mb) (I : Inv X pins σ H s) (q : tE (tb X c) n W (fun e t => (ma e t).bind fun x e t => (mb e t).bind fun y e t => F x y e t) σ H Q)
    (hf : ∀ s2 H2 e2 t2 G2 p dx dy x y v u, Inv X pins σ H2 s2 → SI (tb X c) n e2 t2 σ G2 H2 p → Rep (tb X c) G2 dx x → Rep (tb X c) G2 dy y → RelV x v → RelV y u → RE (tb X c) n σ G2 p Q W (F dx dy e2 t2) → wpAny (model X.prog X.w) X.A (g v u) Q' X.xe s2) :
    wpAny (model X.prog X.w) X.A (eval a X.env) (fun v s1 => wpAny (model X.prog X.w) X.A (eval b X.env) (fun u s2 => wpAny (model X.prog X.w) X.A (g v u) Q' X.xe s2) X.xe s1) X.xe s := by
  obtain ⟨e, t, H0, p, S, q⟩ := q
  refine thn (ha.run pins s σ H _ I ⟨e, t, H0, p, S, bindE (C := RE (tb X c) n σ H0 p Q W) RE.e RE.s q⟩) fun v s1 ⟨x, H1, I1, r1, d1, e1, t1, G1, S1, x1, R1, q1⟩ => ?_
  refine thn (hb.run pins s1 σ H1 _ I1 ⟨e1, t1, G1, p, S1, bindE (C := RE (tb X c) n σ G1 p Q W) RE.e RE.s (q1.mono x1)⟩) fun u s2 ⟨y, H2, I2, r2, d2, e2, t2, G2, S2, x2, R2, q2⟩ => ?_
  exact hf s2 H2 e2 t2 G2 p d1 d2 x y v u I2 S2 (R1.ext x2) R2 r1 r2 (q2.mono x2)
theorem eq_tail {Q : VK} {σ : L2.St} {H2 G2 : Hp} {s2 : Shared} {e2 : Env} {t2 : D} {p : Addr} {dx dy : D} {x y : V} {v u : Value} (hr : Room k X.A) (hk : ∀ cid f, tab cid ks = some f → EqH X c k cid f) (I2 : Inv X pins σ H2 s2) (S2 : SI (tb X c) n e2 t2 σ G2 H2 p) (R1 : Rep (tb X c) G2 dx x) (R2 : Rep (tb X c) G2 dy y) (r1 : RelV x v) (r2 : RelV y u)
    (q : RE (tb X c) n σ G2 p Q W (pureOut (eqOut ks dx dy) e2 t2)) : wpAny (model X.prog X.w) X.A (compareOp .Eq v u) (EP X pins σ Q) X.xe s2 := by
  cases he : eqOut ks dx dy with
  | ok d t =>
    obtain ⟨bb, rfl⟩ := eqOut_bl he
    rw [he] at q
    exact eq_run hr hk I2 S2.sub r1 r2 R1 R2 he fun H0' H' g => q _ _ _ (S2.grow g) g.ext0 rfl
  | err k fs => exact (eqOut_err he).elim
  | stuck => rw [he] at q; exact q.elim
theorem m_eq (h : Ok X k W) (hk : ∀ cid f, tab cid ks = some f → EqH X c k cid f) (ha : PM X c n W a ma) (hb : PM X c n W b mb) (hm : behindInMarks .Eq b = false) : PM X c n W (.Compare a [.Eq] [b] pos) (mEq ks ma mb) :=
  ⟨fun pins s σ H Q I q => wpAny_Compare1 (two_run ha hb I q fun _ _ _ _ _ _ _ _ _ _ _ _ I2 S2 R1 R2 r1 r2 q => eq_tail h.room hk I2 S2 R1 R2 r1 r2 q) hm⟩
theorem asB_pure {x : Out} {e : Env} {t : D} {σ : L2.St} {G2 : Hp} {p : Addr} {Q : Bool → Hp → Prop} {T : Tb} (q : RT T n σ G2 p Q W (asB (pureOut x e t))) : RE T n σ G2 p (fun v H1 => ∃ b, v = .bl b ∧ Q b H1) W (pureOut x e t) := by
  cases x with
  | ok d t' =>
    cases d with
    | bl b => exact fun v G0 G S x r => ⟨b, r, q G0 G S x⟩
    | _ => exact q.elim
  | err c fs => exact q
  | stuck => exact q
theorem asB_RE {x : R D} {σ : L2.St} {G2 : Hp} {p : Addr} {Q : Bool → Hp → Prop} {T : Tb} (q : RT T n σ G2 p Q W (asB x)) : RE T n σ G2 p (fun v H1 => ∃ b, v = .bl b ∧ Q b H1) W x := by
  cases x with
  | ok d e t =>
    cases d with
    | bl b => exact fun v G0 G S x r => ⟨b, r, q G0 G S x⟩
    | _ => exact q.elim
  | err c fs => exact q
  | stuck => exact q
/-- a comparison as a test -/
theorem b_of_cmp {op : CmpOp} {m : ME} (h : ∀ (pins : List (Addr × Obj)) (s : Shared) (σ : L2.St) (H : Hp) (Q : VK), Inv X pins σ H s → tE (tb X c) n W m σ H Q → wpAny (model X.prog X.w) X.A (eval a X.env) (fun v s1 => wpAny (model X.prog X.w) X.A (eval b X.env) (fun u s2 => wpAny (model X.prog X.w) X.A (compareOp op v u) (EP X pins σ Q) X.xe s2) X.xe s1) X.xe s)
    (hm : behindInMarks op b = false) : PB X c n W (.Compare a [op] [b] pos) m := by
  refine ⟨fun pins s σ H Q I ⟨e, t, H0, p, S, q⟩ => ?_⟩
  refine wpAny_isTrue_Compare1 (thn (h pins s σ H (fun v H1 => ∃ b, v = .bl b ∧ Q b H1) I ⟨e, t, H0, p, S, asB_RE q⟩) fun v s1 h1 => thn h1 fun u s2 h2 => thn h2 fun z s3 ⟨x, H1, I1, r1, b, e1, q1⟩ => ?_) hm
  subst e1
  cases r1
  exact wpAny_truthy_bool ⟨H1, I1, q1⟩
theorem b_eq (h : Ok X k W) (hk : ∀ cid f, tab cid ks = some f → EqH X c k cid f) (ha : PM X c n W a ma) (hb : PM X c n W b mb) (hm : behindInMarks .Eq b = false) : PB X c n W (.Compare a [.Eq] [b] pos) (mEq ks ma mb) :=
  b_of_cmp (fun pins s σ H Q I q => two_run ha hb I q fun _ _ _ _ _ _ _ _ _ _ _ _ I2 S2 R1 R2 r1 r2 q => eq_tail h.room hk I2 S2 R1 R2 r1 r2 q) hm
theorem ne_tail {Q : VK} {σ : L2.St} {H2 G2 : Hp} {s2 : Shared} {e2 : Env} {t2 : D} {p : Addr} {dx dy : D} {x y : V} {v u : Value} (hr : Room (k + 1) X.A) (hk : ∀ cid f, tab cid ks = some f → EqH X c k cid f) (I2 : Inv X pins σ H2 s2) (S2 : SI (tb X c) n e2 t2 σ G2 H2 p) (R1 : Rep (tb X c) G2 dx x) (R2 : Rep (tb X c) G2 dy y) (r1 : RelV x v) (r2 : RelV y u)
    (q : RE (tb X c) n σ G2 p Q W ((asB (pureOut (neOut ks dx dy) e2 t2)).bind fun k e t => .ok (.bl (!k)) e t)) : wpAny (model X.prog X.w) X.A (compareOp .NotEq v u) (EP X pins σ Q) X.xe s2 := by
  cases he : neOut ks dx dy with
  | ok d t =>
    obtain ⟨bb, rfl⟩ := neOut_bl he
    rw [he] at q
    exact ne_run hr hk I2 S2.sub r1 r2 R1 R2 he fun H0' H' g => q _ _ _ (S2.grow g) g.ext0 rfl
  | err k fs => exact (neOut_err he).elim
  | stuck => rw [he] at q; exact q.elim
theorem m_ne (h : Ok X (k + 1) W) (hk : ∀ cid f, tab cid ks = some f → EqH X c k cid f) (ha : PM X c n W a ma) (hb : PM X c n W b mb) (hm : behindInMarks .NotEq b = false) : PM X c n W (.Compare a [.NotEq] [b] pos) (mNe ks ma mb) :=
  ⟨fun pins s σ H Q I q => wpAny_Compare1 (two_run ha hb I q fun _ _ _ _ _ _ _ _ _ _ _ _ I2 S2 R1 R2 r1 r2 q => ne_tail h.room hk I2 S2 R1 R2 r1 r2 q) hm⟩
theorem b_ne (h : Ok X (k + 1) W) (hk : ∀ cid f, tab cid ks = some f → EqH X c k cid f) (ha : PM X c n W a ma) (hb : PM X c n W b mb) (hm : behindInMarks .NotEq b = false) : PB X c n W (.Compare a [.NotEq] [b] pos) (mNe ks ma mb) :=
  b_of_cmp (fun pins s σ H Q I q => two_run ha hb I q fun _ _ _ _ _ _ _ _ _ _ _ _ I2 S2 R1 R2 r1 r2 q => ne_tail h.room hk I2 S2 R1 R2 r1 r2 q) hm
end
end DI
set_option linter.all false
set_option Elab.async false
set_option maxRecDepth 100000
set_option maxHeartbeats 4000000
/-! DSrc: what may be walked: lists, tuples, dicts, told alike; enumerate and zip over them. -/
namespace DI
open PySem PySem.Spec PyProof.Rows L2

/-- the container at a yields vs; o: its new iterator, IT: an iterator of it; Con: what the abstract heap says -/
structure Src (P : Program) (w : World) (K : PySem.W.Frag) (a : Addr) (o : Obj) (IT : Addr → Nat → Heap → Prop) (vs : List V) (Con : Hp → Prop) : Prop where
  ext : ∀ H H', Con H → Ext H H' → Con H'
  at_ : ∀ it i h h', IT it i h → (∀ o, h.get? it = some o → h'.get? it = some o) → IT it i h'
  ob : ∀ it i h, IT it i h → ∃ o, h.get? it = some o ∧ ∀ v, o.data ≠ .cell v
  st : ∀ it h, h.get? it = some o → IT it 0 h
  has : ∀ (X : Cx), X.prog = P → X.w = w → X.K = K → ∀ (pins : List (Addr × Obj)) (σ : L2.St) (H : Hp) (s : Shared), Inv X pins σ H s → Con H → ∃ (There : Heap → Prop) (us : List Value), Vals vs us ∧ There s.heap ∧ Begins (.ref a) o There ∧ (a < s.heap.objs.size ∧ ∀ h, There h → ∃ o, h.get? a = some o) ∧
    (∀ h h', There h → (∀ o, h.get? a = some o → h'.get? a = some o) → There h') ∧ ∀ A, A.handled = none → ∀ it, a ≠ it → Draws P w A it [it, a] us.length (fun i v => us[i]? = some v) (fun i h => IT it i h ∧ There h)

theorem nextOf_keys_item {prog : Program} {w : World} {A : Around} {E : Value → Shared → Prop} {s : Shared} {it d : Addr} {i ep : Nat} {es : Array DictEntry} {Q : Value → Shared → Prop} (hit : s.heap.IsKeyIter it d i es.size ep)
    (hm : s.heap.DictRaw d es ep) (hlt' : i < es.size)
    (hQ : ∀ h', h'.IsKeyIter it d (i + 1) es.size ep → Heap.SameBut it s.heap h' → Q es[i].key { s with heap := h' }) :
    wpAny (model prog w) A (Builtin.SmallTypes.nextOf (.ref it)) Q E s := by
  obtain ⟨o, ho, hc, hd⟩ := id hit
  obtain ⟨od, hod, hcd, hdd⟩ := id hm
  unfold Builtin.SmallTypes.nextOf
  refine wpAny_bind (wpAny_callSpecial?_slot (name := Str.ofString "__next__") hit.typeIs PySem.F.slot_dict_keyiterator_next
    (wpAny_call_entry PySem.F.slot_dict_keyiterator_next hit.typeIs PySem.F.entry_dict_keyiterator_next ?_ (PySem.F.args_dict_keyiterator_next_1 _)))
  refine wpAny_bind (wpAny_pure ?_)
  refine wpAny_bind ?_
  refine wpAny_bind ?_
  first | refine wpAny_bind (wpAny_typeNameOfWhole_keyiter hit.typeIs (wpAny_pure ?_)) | refine wpAny_bind (wpAny_typeNameOf_keyiter hit.typeIs (wpAny_pure ?_))
  refine wpAny_bind (wpAny_fieldsOf ho hd ?_)
  have hown : Builtin.Dict_items.ownsTuple "dict_keyiterator" = false := by decide
  simp only [hown, Bool.false_eq_true, if_false]
  show wpAny _ _ (if (Value.ref d == Value.none) = true then _ else _) _ _ s
  rw [if_neg (show ¬ ((Value.ref d == Value.none) = true) from Bool.false_ne_true)]
  refine wpAny_bind (wpAny_pure ?_)
  refine wpAny_bind (wpAny_dictEntries hod hdd ?_)
  rw [if_neg (by simp)]
  refine wpAny_bind (wpAny_pure ?_)
  refine wpAny_bind (wpAny_dictEpoch hod hdd ?_)
  rw [if_neg (by simp)]
  refine wpAny_pure ?_
  simp only [show ¬ ((i : Int) < 0) from by omega, if_false, Int.toNat_natCast, Array.getElem?_eq_getElem hlt']
  refine wpAny_bind ?_
  first | refine wpAny_bind (wpAny_typeNameOfWhole_keyiter hit.typeIs (wpAny_pure ?_)) | refine wpAny_bind (wpAny_typeNameOf_keyiter hit.typeIs (wpAny_pure ?_))
  refine wpAny_bind (wpAny_isOneOf_keyiter hit.typeIs ?_)
  show wpAny _ _ (setField (.ref it) 1 (rawInt ((i : Int) + 1)) >>= _) _ _ s
  refine wpAny_bind (wpAny_setField ho hd (by simp) ?_)
  have hit' : (s.heap.update it (Obj.mapFields (·.setIfInBounds 1 (rawInt ((i : Int) + 1))))).IsKeyIter it d (i + 1) es.size ep :=
    ⟨_, Heap.get?_update_self _ ho (Obj.isFreed_of_fields (Obj.data_mapFields hd _)), (Obj.cls_mapFields ..).trans hc, by rw [Obj.data_mapFields hd]; simp [rawInt]⟩
  refine wpAny_bind (wpAny_holding ?_)
  refine wpAny_bind (wpAny_isOneOf_keyiter (s := { s with heap := s.heap.update it (Obj.mapFields (·.setIfInBounds 1 (rawInt ((i : Int) + 1)))) }) hit'.typeIs ?_)
  show wpAny _ _ (pure es[i].key) _ _ _
  exact wpAny_pure (wpAny_pure ⟨_, rfl, wpAny_pure (hQ _ hit' (Heap.SameBut.update ..))⟩)
theorem nextOf_keys_end {prog : Program} {w : World} {A : Around} {E : Value → Shared → Prop} {s : Shared} {it d : Addr} {i ep : Nat} {es : Array DictEntry} {Q : Value → Shared → Prop} (hh : A.handled = none) (hit : s.heap.IsKeyIter it d i es.size ep)
    (hm : s.heap.DictRaw d es ep) (hge : es.size ≤ i)
    (hE : ∀ h' e, Heap.ExtBut it s.heap h' → (∃ o, h'.get? e = some o ∧ o.cls = .type "StopIteration") → E (.ref e) { s with heap := h' }) : wpAny (model prog w) A (Builtin.SmallTypes.nextOf (.ref it)) Q E s := by
  obtain ⟨o, ho, hc, hd⟩ := id hit
  obtain ⟨od, hod, hcd, hdd⟩ := id hm
  unfold Builtin.SmallTypes.nextOf
  refine wpAny_bind (wpAny_callSpecial?_slot (name := Str.ofString "__next__") hit.typeIs PySem.F.slot_dict_keyiterator_next
    (wpAny_call_entry PySem.F.slot_dict_keyiterator_next hit.typeIs PySem.F.entry_dict_keyiterator_next ?_ (PySem.F.args_dict_keyiterator_next_1 _)))
  refine wpAny_bind (wpAny_pure ?_)
  refine wpAny_bind ?_
  refine wpAny_bind ?_
  first | refine wpAny_bind (wpAny_typeNameOfWhole_keyiter hit.typeIs (wpAny_pure ?_)) | refine wpAny_bind (wpAny_typeNameOf_keyiter hit.typeIs (wpAny_pure ?_))
  refine wpAny_bind (wpAny_fieldsOf ho hd ?_)
  have hown : Builtin.Dict_items.ownsTuple "dict_keyiterator" = false := by decide
  simp only [hown, Bool.false_eq_true, if_false]
  show wpAny _ _ (if (Value.ref d == Value.none) = true then _ else _) _ _ s
  rw [if_neg (show ¬ ((Value.ref d == Value.none) = true) from Bool.false_ne_true)]
  refine wpAny_bind (wpAny_pure ?_)
  refine wpAny_bind (wpAny_dictEntries hod hdd ?_)
  rw [if_neg (by simp)]
  refine wpAny_bind (wpAny_pure ?_)
  refine wpAny_bind (wpAny_dictEpoch hod hdd ?_)
  rw [if_neg (by simp)]
  refine wpAny_pure ?_
  simp only [show ¬ ((i : Int) < 0) from by omega, if_false, Int.toNat_natCast, Array.getElem?_eq_none hge]
  refine wpAny_bind ?_
  first | refine wpAny_bind (wpAny_typeNameOfWhole_keyiter hit.typeIs (wpAny_pure ?_)) | refine wpAny_bind (wpAny_typeNameOf_keyiter hit.typeIs (wpAny_pure ?_))
  show wpAny _ _ (setField (.ref it) 0 .none >>= _) _ _ s
  refine wpAny_bind (wpAny_setField ho hd (by simp) ?_)
  show wpAny _ _ (newExc (.type "StopIteration") [] >>= _) _ _ _
  refine wpAny_bind ?_
  simp only [newExc, newTuple]
  refine wpAny_bind (wpAny_newObj_type ?_ (by size_fits))
  refine wpAny_bind (m := firstArgMember _ _) (wpAny_of_eq (a := Value.none) (by first | rfl | (simp only [firstArgMember]; rfl)) ?_)
  refine wpAny_newObj_type ?_ (by size_fits)
  simp only [raiseNew]
  refine wpAny_bind (wpAny_handled ?_)
  rw [show A.in1.handled = none from hh]
  refine wpAny_bind (wpAny_pure (wpAny_throw ?_))
  exact hE _ _ (((Heap.SameBut.update ..).extBut.push _).push _) ⟨_, Heap.get?_push_size _ rfl, rfl⟩
theorem Draws.keys {prog : Program} {w : World} {A : Around} (hh : A.handled = none) (it d : Addr) (hne : d ≠ it) (es : Array DictEntry) (ep : Nat) :
    Draws prog w A it [it, d] es.size (fun i v => (es.toList.map (·.key))[i]? = some v) (fun i h => h.IsKeyIter it d i es.size ep ∧ h.DictRaw d es ep) where
  live := fun _ _ st => let ⟨o, ho, _⟩ := st.1; ⟨o, ho⟩
  frame := fun _ _ _ st hk => ⟨st.1.at fun o e => hk it (by simp) o e, st.2.at fun o e => hk d (by simp) o e⟩
  item := fun i s Q E hi st hQ => by
    refine nextOf_keys_item st.1 st.2 hi fun h' hit' hs' => ?_
    exact hQ _ h' s.toks (by simp [hi]) ⟨hit', st.2.at fun o e => hs'.extBut _ _ hne e⟩ hs'
  done := fun s Q E st hE => nextOf_keys_end hh st.1 st.2 (Nat.le_refl _) hE

section
variable {P : Program} {w : World} {K : PySem.W.Frag} {a : Addr}
theorem src_lst {vs : List V} : Src P w K a { cls := .type "list_iterator", data := .fields #[.ref a, .int 0 0] } (fun it i h => h.IsListIter it a i) vs (fun H => H a = some (.lst vs)) where
  ext := fun H H' h e => e _ _ h
  at_ := fun it i h h' x k => x.at k
  ob := fun it i h x => let ⟨o, e, _, d⟩ := x; ⟨o, e, fun v z => by rw [d] at z; cases z⟩
  st := fun it h x => ⟨_, x, rfl, rfl⟩
  has := fun X hP hw hK pins σ H s I h => by
    subst hP hw hK
    obtain ⟨its, r, p⟩ := lst_at I h
    have hl := p
    obtain ⟨o, e, _⟩ := hl
    refine ⟨fun h => h.IsList a its.toArray, its, r, p, begins_list a its.toArray, ⟨Heap.lt_size e, fun h x => let ⟨o, e, _⟩ := x; ⟨o, e⟩⟩, fun h h' x k => x.at k, fun A hA it hne => ?_⟩
    have D := Draws.list (prog := X.prog) (w := X.w) (A := A) hA it a hne its.toArray
    simpa using D
theorem src_tup {vs : List V} : Src P w K a { cls := .type "tuple_iterator", data := .fields #[.ref a, .int 0 0] } (fun it i h => h.IsTupleIter it a i) vs (fun H => SqT K H a vs) where
  ext := fun H H' h e => h.ext e
  at_ := fun it i h h' x k => x.at k
  ob := fun it i h x => let ⟨o, e, _, d⟩ := x; ⟨o, e, fun v z => by rw [d] at z; cases z⟩
  st := fun it h x => ⟨_, x, rfl, rfl⟩
  has := fun X hP hw hK pins σ H s I h => by
    subst hP hw hK
    obtain ⟨its, r, p⟩ := tup_at I h
    have hl := p
    obtain ⟨o, e, _⟩ := hl
    refine ⟨fun h => h.IsTuple a its.toArray, its, r, p, begins_tuple a its.toArray, ⟨Heap.lt_size e, fun h x => let ⟨o, e, _⟩ := x; ⟨o, e⟩⟩, fun h h' x k => x.at k, fun A hA it hne => ?_⟩
    have D := Draws.tuple (prog := X.prog) (w := X.w) (A := A) hA it a hne its.toArray
    simpa using D
theorem begins_keys (d : Addr) (es : Array DictEntry) (ep : Nat) (hd : (d == sysModules) = false) : Begins (.ref d) { cls := .type "dict_keyiterator", data := .fields #[.ref d, .int 0 0, .int es.size 0, .int ep 0] } fun h => h.DictRaw d es ep where
  iter := fun prog w A E s Q hm h => wpAny_pyIter_dict_raw hd hm h
  keeps := fun h h' x hk => x.at fun o e => hk d o e
  free := rfl
theorem kve_keys {kv : List (Key × V)} : ∀ {es : List DictEntry}, KVE es kv → Vals (kv.map fun q => kV q.1) (es.map (·.key)) := by
  intro es h
  unfold KVE at h
  induction h with
  | nil => exact .nil
  | @cons q e qs es h t ih =>
    obtain ⟨y, tk, h1, h2, _⟩ := h
    refine .cons ?_ ih
    show RelV (kV q.1) e.key
    rw [h1, h2]
    exact ⟨tk, rfl⟩
theorem src_kdic {es : Array DictEntry} {m : Nat} {kv : List (Key × V)} (D : KDict K w a es m) (h : KVE es.toList kv) :
    Src P w K a { cls := .type "dict_keyiterator", data := .fields #[.ref a, .int 0 0, .int es.size 0, .int m 0] } (fun it i h => h.IsKeyIter it a i es.size m) (kv.map fun q => kV q.1) (fun _ => True) where
  ext := fun _ _ _ _ => trivial
  at_ := fun it i h h' x k => x.at k
  ob := fun it i h x => let ⟨o, e, _, d⟩ := x; ⟨o, e, fun v z => by rw [d] at z; cases z⟩
  st := fun it h x => ⟨_, x, rfl, rfl⟩
  has := fun X hP hw hK pins σ H s I _ => by
    subst hP hw hK
    have at_ : s.heap.DictRaw a es m := ⟨_, I.kIn _ _ D.at_, ⟨rfl, rfl, rfl⟩, rfl⟩
    refine ⟨fun h => h.DictRaw a es m, es.toList.map (·.key), kve_keys h, at_, begins_keys a es m D.low, ⟨Heap.lt_size (I.kIn _ _ D.at_), fun h x => let ⟨o, e, _⟩ := x; ⟨o, e⟩⟩, fun h h' x k => x.at k, fun A hA it hne => ?_⟩
    have D := Draws.keys (prog := X.prog) (w := X.w) (A := A) hA it a hne es m
    simpa using D
end
/-! ### enumerate -/
def ItE (Con : Hp → Prop) (vs : List V) : It :=
  ⟨fun i H => Con H ∧ i < vs.length, fun i H v H' => ∃ T x, v = .ref T ∧ H T = none ∧ H' = upd H T (.tup [.int (i : Nat), x]) ∧ vs[i]? = some x, fun i H => Con H ∧ vs.length ≤ i⟩
section
variable {P : Program} {w : World} {K : PySem.W.Frag} {a : Addr} {o : Obj} {IT : Addr → Nat → Heap → Prop} {vs : List V} {Con : Hp → Prop}
theorem turn_enumS {elts : List Expr} {kk : Nat} {tpos : Pos} (S : Src P w K a o IT vs Con) (e it : Addr) :
    Turn P w K (.Tuple elts kk tpos) (ItE Con vs) [e, it] e (fun i h => (∃ old, IsEnum h e it ((i : Nat) : Int) old) ∧ IT it i h ∧ e ≠ it ∧ a ≠ it ∧ a ≠ e ∧ i ≤ vs.length) where
  mem := by simp
  obj := fun i h st b hb => by
    obtain ⟨⟨old, he⟩, hi, _⟩ := st
    have e' : b = e ∨ b = it := by simpa using hb
    rcases e' with z | z
    · rw [z]; exact ⟨_, he, fun v q => nomatch q⟩
    · rw [z]; exact S.ob _ _ _ hi
  keep := fun i h h' st k => let ⟨⟨old, he⟩, hi, r⟩ := st; ⟨⟨old, k e (by simp) _ he⟩, S.at_ _ _ _ _ hi fun o q => k it (by simp) o q, r⟩
  item := by
    intro X hP hw hK hc i pins s σ H E I hf st hg
    subst hP hw hK
    obtain ⟨⟨old, he⟩, hit, hne, n1, n2, hle⟩ := st
    obtain ⟨hC, hi⟩ := hg
    obtain ⟨There, us, rv, th, _, hal, tha, hD⟩ := S.has X rfl rfl rfl pins σ H s I hC
    have hel : e < s.heap.objs.size := Heap.lt_size he
    have hil : it < s.heap.objs.size := by obtain ⟨_, q, _⟩ := S.ob _ _ _ hit; exact Heap.lt_size q
    have hA : X.A.in1.handled = none := I.ok.hd hc
    refine wpAny_pyNext_enum_itemD (hD X.A.in1 hA it n1) he ⟨hit, th⟩ (by rw [← rv.length]; exact hi) hne (by simp [hne, n2.symm]) fun u h' tk hu ho hst' hT hsz hk => ?_
    refine ⟨_, rfl, wpAny_letOwnedTupleGo_enum (s := { s with heap := h', toks := tk + 1 }) ho fun h'' he' sb => ?_⟩
    obtain ⟨x, hx⟩ : ∃ x, vs[i]? = some x := ⟨_, List.getElem?_eq_getElem hi⟩
    obtain ⟨u', hu', ru⟩ := rv.get hx
    rw [hu] at hu'
    cases hu'
    have hT2 : h''.get? s.heap.objs.size = some { cls := .type "tuple", data := .seq #[.int i tk, u] } := (sb.2 _ (Nat.ne_of_gt hel)).trans hT
    have new : ObjOk X.prog X.w (upd H s.heap.objs.size (.tup [.int (i : Nat), x])) h'' s.heap.objs.size (.tup [.int (i : Nat), x]) :=
      ⟨by show 2 ≤ sizeLine; decide, [.int i tk, u], .cons ⟨_, rfl⟩ (.cons ru .nil), ⟨_, hT2, rfl, _, rfl⟩⟩
    have I1 : Inv X pins σ (upd H s.heap.objs.size (.tup [.int (i : Nat), x])) { s with heap := h'', toks := tk + 1 } :=
      I.turnedNew (ch := [e, it]) (fun b ob hb q => (sb.2 b (fun z => hb (by simp [z]))).trans (hk b ob (fun z => hb (by simp [z])) (fun z => hb (by simp [z])) q)) hf (Nat.le_refl _) new
    refine ⟨.ref s.heap.objs.size, _, I1, rfl, ⟨_, x, rfl, I.hok.fresh (Nat.le_refl _), rfl, hx⟩, ⟨⟨u, ?_⟩, S.at_ _ _ _ _ hst'.1 fun o q => (sb.2 it (Ne.symm hne)).trans q, hne, n1, n2, hi⟩, fun b hb => ?_⟩
    · have e1 : ((i + 1 : Nat) : Int) = (i : Int) + 1 := by omega
      rw [e1]; exact he'
    · have hb' : b < s.heap.objs.size := by
        have e' : b = e ∨ b = it := by simpa using hb
        rcases e' with z | z
        · rw [z]; exact hel
        · rw [z]; exact hil
      rw [upd_ne (Nat.ne_of_lt hb')]
      exact (hf b hb).1
  done := by
    intro X hP hw hK hc i pins s σ H E I hf st hg
    subst hP hw hK
    obtain ⟨⟨old, he⟩, hit, hne, n1, n2, hle⟩ := st
    obtain ⟨hC, hi⟩ := hg
    obtain ⟨There, us, rv, th, _, hal, tha, hD⟩ := S.has X rfl rfl rfl pins σ H s I hC
    obtain ⟨f0, f1, f2, f3, f4, f5⟩ := hf it (by simp)
    have hA : X.A.in1.handled = none := I.ok.hd hc
    have e : i = us.length := by rw [← rv.length]; omega
    subst e
    exact wpAny_pyNext_enum_endD (hD X.A.in1 hA it n1) he ⟨hit, th⟩ fun h' eb => ⟨rfl, I.turned (t' := s.toks) (fun b o hb q => eb b o hb q) f0 f1 f3 f4 f5⟩
  self := fun A i s Q E st h => let ⟨⟨_, he⟩, _⟩ := st; wpAny_pyIter_enum he h
set_option maxHeartbeats 1000000 in
theorem meets_enum1 {v : Value} {o : Obj} {H : Heap → Prop} (B : Begins v o H) :
    Meets (Builtin.«enumerate.__new__» ⟨[.type "enumerate", v], []⟩) (fun _ R s => H s.heap ∧
      R (.ok (.ret (.ref (s.heap.push o).objs.size))) { s with heap := (s.heap.push o).push { cls := .type "enumerate", data := .fields #[.none, .bool false, .ref s.heap.objs.size, rawInt 0, .none, .none] } }) :=
  .of_wp fun prog w A R s h => by
    obtain ⟨hp, g, d, tk, os⟩ := s; obtain ⟨h1, h⟩ := h
    have hsub := sub_enumerate
    have q1 : ∀ {A' : Around} {E : Value → Shared → Prop} {Q : Value → Shared → Prop}, Q (.ref hp.objs.size) ⟨hp.push o, g, d, tk, os⟩ → wpAny (model prog w) A' (pyIter v) Q E ⟨hp, g, d, tk, os⟩ :=
      fun q => B.iter prog w _ _ ⟨hp, g, d, tk, os⟩ _ h1 q
    wp_walk using q1
    refine wpAny_stack_any fun st => wpAny_pure ?_
    split
    · rename_i c _ _ _ _ _
      cases (c == Value.type "enumerate")
      · wp_walk using q1
        exact ⟨_, rfl, h⟩
      · wp_walk using q1
        exact ⟨_, rfl, h⟩
    · wp_walk using q1
      exact ⟨_, rfl, h⟩
theorem enum1 {prog : Program} {w : World} {A : Around} {E : Value → Shared → Prop} {s : Shared} {v : Value} {o : Obj} {H : Heap → Prop} {Q : Value → Shared → Prop} (B : Begins v o H) (h1 : H s.heap)
    (h : ∀ h', IsEnum h' (s.heap.objs.size + 1) s.heap.objs.size 0 .none → h'.get? s.heap.objs.size = some o → h'.objs.size = s.heap.objs.size + 2 →
      (∀ b o, s.heap.get? b = some o → h'.get? b = some o) → Q (.ref (s.heap.objs.size + 1)) { s with heap := h' }) :
    wpAny (model prog w) A (call (.type "enumerate") [v]) Q E s := by
  refine callType_new F.called_enumerate (by decide) (F.typeCall_enumerate_1 _) (F.newCall_enumerate_1 _) (fun obj => F.args_object_init_2 obj _) F.entry_enumerate_new
    (meets_enum1 B) ⟨h1, ?_⟩
  have hz : (s.heap.push o).objs.size = s.heap.objs.size + 1 := Heap.size_push ..
  show _ ∧ _
  rw [hz]
  have he : IsEnum ((s.heap.push o).push { cls := .type "enumerate", data := .fields #[.none, .bool false, .ref s.heap.objs.size, rawInt 0, .none, .none] }) (s.heap.objs.size + 1) s.heap.objs.size 0 .none := by
    have := Heap.get?_push_size (s.heap.push o) (o := { cls := .type "enumerate", data := .fields #[.none, .bool false, .ref s.heap.objs.size, rawInt 0, .none, .none] }) rfl
    rw [hz] at this; exact this
  refine ⟨⟨_, he, rfl⟩, h _ he (Heap.get?_push_of_some _ (Heap.get?_push_size _ B.free)) (by rw [Heap.size_push, hz]) fun b o x => Heap.get?_push_of_some _ (Heap.get?_push_of_some _ x)⟩
/-! ### zip -/
def ItZ (C1 C2 : Hp → Prop) (vs us : List V) : It :=
  ⟨fun i H => (C1 H ∧ C2 H) ∧ i < vs.length ∧ i < us.length, fun i H v H' => ∃ T x y, v = .ref T ∧ H T = none ∧ H' = upd H T (.tup [x, y]) ∧ vs[i]? = some x ∧ us[i]? = some y, fun i H => (C1 H ∧ C2 H) ∧ (vs.length ≤ i ∨ us.length ≤ i)⟩
variable {a2 : Addr} {o2 : Obj} {IT2 : Addr → Nat → Heap → Prop} {vs2 : List V} {Con2 : Hp → Prop}
theorem turn_zipS {elts : List Expr} {kk : Nat} {tpos : Pos} (S1 : Src P w K a o IT vs Con) (S2 : Src P w K a2 o2 IT2 vs2 Con2) {z TI TO i1 i2 : Addr} (D : ZipSep2 z TI TO i1 i2 [i1, a] [i2, a2]) (n1 : a ≠ i1) (n2 : a2 ≠ i2) :
    Turn P w K (.Tuple elts kk tpos) (ItZ Con Con2 vs vs2) [z, TI, TO, i1, i2] z (fun i h => IsZip h z TI TO .none ∧ IsPair h TI (.ref i1) (.ref i2) ∧ (∃ x y, IsPair h TO x y) ∧ IT i1 i h ∧ IT2 i2 i h ∧ i ≤ vs.length ∧ i ≤ vs2.length) where
  mem := by simp
  obj := fun i h st c hc => by
    obtain ⟨hz, hTI, ⟨x, y, hTO⟩, h1, h2, _⟩ := st
    have e' : c = z ∨ c = TI ∨ c = TO ∨ c = i1 ∨ c = i2 := by simpa using hc
    rcases e' with q | q | q | q | q
    · rw [q]; exact ⟨_, hz, fun v q => nomatch q⟩
    · rw [q]; exact ⟨_, hTI, fun v q => nomatch q⟩
    · rw [q]; exact ⟨_, hTO, fun v q => nomatch q⟩
    · rw [q]; exact S1.ob _ _ _ h1
    · rw [q]; exact S2.ob _ _ _ h2
  keep := fun i h h' st k => by
    obtain ⟨hz, hTI, ⟨x, y, hTO⟩, h1, h2, r⟩ := st
    exact ⟨k z (by simp) _ hz, k TI (by simp) _ hTI, ⟨x, y, k TO (by simp) _ hTO⟩, S1.at_ _ _ _ _ h1 fun o q => k i1 (by simp) o q, S2.at_ _ _ _ _ h2 fun o q => k i2 (by simp) o q, r⟩
  item := by
    intro X hP hw hK hc i pins s σ H E I hf st hg
    subst hP hw hK
    obtain ⟨hz, hTI, ⟨x0, y0, hTO⟩, h1, h2, _⟩ := st
    obtain ⟨⟨hC1, hC2⟩, hi1, hi2⟩ := hg
    obtain ⟨Th1, us1, rv1, th1, _, _, _, hD1⟩ := S1.has X rfl rfl rfl pins σ H s I hC1
    obtain ⟨Th2, us2, rv2, th2, _, _, _, hD2⟩ := S2.has X rfl rfl rfl pins σ H s I hC2
    have hA : X.A.in1.handled = none := I.ok.hd hc
    have hzl : z < s.heap.objs.size := Heap.lt_size hz
    refine wpAny_pyNext_zipD2_item D (hD1 X.A.in1 hA i1 n1) (hD2 X.A.in1 hA i2 n2) hz hTI hTO ⟨h1, th1⟩ ⟨h2, th2⟩ (by rw [← rv1.length]; exact hi1) (by rw [← rv2.length]; exact hi2) fun u1 u2 h' tk hu1 hu2 z' TO' st1 st2 hT hsz hk => ?_
    refine ⟨_, rfl, wpAny_letOwnedTupleGo_zip (s := { s with heap := h', toks := tk }) z' fun h'' z'' sb => ?_⟩
    obtain ⟨x, hx⟩ : ∃ x, vs[i]? = some x := ⟨_, List.getElem?_eq_getElem hi1⟩
    obtain ⟨y, hy⟩ : ∃ y, vs2[i]? = some y := ⟨_, List.getElem?_eq_getElem hi2⟩
    obtain ⟨u', hu', ru1⟩ := rv1.get hx
    rw [hu1] at hu'
    cases hu'
    obtain ⟨u', hu', ru2⟩ := rv2.get hy
    rw [hu2] at hu'
    cases hu'
    have hT2 : h''.get? s.heap.objs.size = some { cls := .type "tuple", data := .seq #[u1, u2] } := (sb.2 _ (Nat.ne_of_gt hzl)).trans hT
    have new : ObjOk X.prog X.w (upd H s.heap.objs.size (.tup [x, y])) h'' s.heap.objs.size (.tup [x, y]) :=
      ⟨by show 2 ≤ sizeLine; decide, [u1, u2], .cons ru1 (.cons ru2 .nil), ⟨_, hT2, rfl, _, rfl⟩⟩
    have I1 : Inv X pins σ (upd H s.heap.objs.size (.tup [x, y])) { s with heap := h'', toks := tk } :=
      I.turnedNew (t' := tk) (ch := [z, TI, TO, i1, i2]) (fun c o hb q => (sb.2 c (fun q' => hb (by simp [q']))).trans (hk c o (fun q' => hb (by simp [q'])) (fun q' => hb (by simp [q'])) (fun q' => hb (by simp [q'])) (fun q' => hb (by simp [q'])) q)) hf (Nat.le_refl _) new
    refine ⟨.ref s.heap.objs.size, _, I1, rfl, ⟨_, x, y, rfl, I.hok.fresh (Nat.le_refl _), rfl, hx, hy⟩, ⟨z'', ?_, ⟨u1, u2, ?_⟩, ?_, ?_, hi1, hi2⟩, fun c hcm => ?_⟩
    · exact (sb.2 _ D.TIz).trans (hk _ _ D.TIz D.TITO D.TIi1 D.TIi2 hTI)
    · exact (sb.2 _ D.TOz).trans TO'
    · exact S1.at_ _ _ _ _ st1.1 fun o q => (sb.2 _ D.zi1.symm).trans q
    · exact S2.at_ _ _ _ _ st2.1 fun o q => (sb.2 _ D.zi2.symm).trans q
    · have hlt : c < s.heap.objs.size := by
        have e' : c = z ∨ c = TI ∨ c = TO ∨ c = i1 ∨ c = i2 := by simpa using hcm
        rcases e' with q | q | q | q | q
        · rw [q]; exact hzl
        · rw [q]; exact Heap.lt_size hTI
        · rw [q]; exact Heap.lt_size hTO
        · rw [q]; obtain ⟨_, e1, _⟩ := S1.ob _ _ _ h1; exact Heap.lt_size e1
        · rw [q]; obtain ⟨_, e2, _⟩ := S2.ob _ _ _ h2; exact Heap.lt_size e2
      rw [upd_ne (Nat.ne_of_lt hlt)]
      exact (hf c hcm).1
  done := by
    intro X hP hw hK hc i pins s σ H E I hf st hg
    subst hP hw hK
    obtain ⟨hz, hTI, ⟨x0, y0, hTO⟩, h1, h2, l1, l2⟩ := st
    obtain ⟨⟨hC1, hC2⟩, hend⟩ := hg
    obtain ⟨Th1, us1, rv1, th1, _, _, _, hD1⟩ := S1.has X rfl rfl rfl pins σ H s I hC1
    obtain ⟨Th2, us2, rv2, th2, _, _, _, hD2⟩ := S2.has X rfl rfl rfl pins σ H s I hC2
    have hA : X.A.in1.handled = none := I.ok.hd hc
    have e1 := rv1.length
    have e2 := rv2.length
    exact wpAny_pyNext_zipD2_end D (hD1 X.A.in1 hA i1 n1) (hD2 X.A.in1 hA i2 n2) hz hTI hTO ⟨h1, th1⟩ ⟨h2, th2⟩ (by omega) (by omega) (by omega) fun h' tk hk => ⟨rfl, I.turnedL (t' := tk) (ch := [z, TI, TO, i1, i2]) (fun c o hb q =>
      hk c o (fun q' => hb (by simp [q'])) (fun q' => hb (by simp [q'])) (fun q' => hb (by simp [q'])) (fun q' => hb (by simp [q'])) q) hf⟩
  self := fun A i s Q E st h => wpAny_pyIter_zip st.1 h
end
end DI
set_option linter.all false
set_option Elab.async false
set_option maxRecDepth 100000
set_option maxHeartbeats 4000000
/-! DZip: dict(zip(x, y)) over any two containers. -/
namespace DI
open PySem PySem.Spec PyProof.Rows L2
section
variable {prog : Program} {w : World} {A : Around} {E : Value → Shared → Prop} {s : Shared} {z TI TO T i1 i2 : Addr} {fp1 fp2 : List Addr} {n1 n2 i : Nat} {P1 P2 : Nat → Value → Prop} {St1 St2 : Nat → Heap → Prop}
theorem zip_held_item {f : Bool} {oT : Obj} {Q : Value → Shared → Prop} (S : ZipSep2 z TI TO i1 i2 fp1 fp2) (D1 : Draws prog w A i1 fp1 n1 P1 St1) (D2 : Draws prog w A i2 fp2 n2 P2 St2)
    (hz : IsZipHeld s.heap z TI TO T f) (hT : s.heap.get? T = some oT) (hTI : IsPair s.heap TI (.ref i1) (.ref i2)) (st1 : St1 i s.heap) (st2 : St2 i s.heap) (hlt1 : i < n1) (hlt2 : i < n2)
    (hQ : ∀ x y h' tk, P1 i x → P2 i y → IsZipHeld h' z TI TO T true → St1 (i + 1) h' → St2 (i + 1) h' → IsPair h' s.heap.objs.size x y → h'.objs.size = s.heap.objs.size + 1 →
      (∀ c o, c ≠ z → c ≠ i1 → c ≠ i2 → s.heap.get? c = some o → h'.get? c = some o) → Q (.ref s.heap.objs.size) { s with heap := h', toks := tk }) :
    wpAny (model prog w) A (Builtin.«zip.__next__» ⟨[.ref z], []⟩) (fun fin s' => ∃ v, fin = .done (.ret v) ∧ Q v s') E s := by
  show wpAny _ _ (field (.ref z) 2 >>= _) _ _ _
  refine wpAny_bind (wpAny_field hz rfl (x := .bool false) rfl ?_)
  show wpAny _ _ (field (.ref z) 3 >>= _) _ _ _
  refine wpAny_bind (wpAny_field hz rfl (x := .ref TI) rfl ?_)
  refine wpAny_bind (wpAny_seqItems hTI rfl ?_)
  show wpAny _ _ (Builtin.SmallTypes.ownedTupleIsFree (.ref z) >>= _) _ _ _
  refine wpAny_bind (wpAny_tupleHeld_zip hz hT fun h₁ hz₁ hs₁ => ?_)
  simp only [Bool.false_eq_true, if_false]
  refine wpAny_bind ?_
  rw [← Array.forIn_toList]
  simp only [List.forIn_cons, List.forIn_nil]
  refine wpAny_bind (wpAny_bind (wpAny_holding ?_))
  show wpAny _ _ (Builtin.SmallTypes.nextOf (.ref i1) >>= _) _ _ _
  refine wpAny_bind (D1.item i { s with heap := h₁ } _ _ hlt1 (D1.over st1 hs₁ S.zf1) fun x h₂ tk2 hx st1₂ hs₂ => wpAny_pure ?_)
  refine wpAny_pure ?_
  refine wpAny_bind (wpAny_bind (wpAny_holding ?_))
  show wpAny _ _ (Builtin.SmallTypes.nextOf (.ref i2) >>= _) _ _ _
  refine wpAny_bind (D2.item i { s with heap := h₂, toks := tk2 } _ _ hlt2 (D2.over (D2.over st2 hs₁ S.zf2) hs₂ S.sep1_2) fun y h₃ tk3 hy st2₃ hs₃ => wpAny_pure ?_)
  refine wpAny_pure (wpAny_pure ?_)
  show wpAny _ _ (newTuple [x, y] >>= _) _ _ _
  refine wpAny_bind (wpAny_newTuple ?_)
  replace hs₂ : Heap.SameBut i1 h₁ h₂ := hs₂
  replace hs₃ : Heap.SameBut i2 h₂ h₃ := hs₃
  have hsz : h₃.objs.size = s.heap.objs.size := by rw [hs₃.1, hs₂.1, hs₁.1]
  have hz₃ : IsZipHeld h₃ z TI TO T true := hs₃.extBut _ _ S.zi2 (hs₂.extBut _ _ S.zi1 hz₁)
  have hk : ∀ c o, c ≠ z → c ≠ i1 → c ≠ i2 → s.heap.get? c = some o → h₃.get? c = some o := fun c o c1 c2 c3 e => hs₃.extBut _ _ c3 (hs₂.extBut _ _ c2 (hs₁.extBut _ _ c1 e))
  have st1₃ : St1 (i + 1) h₃ := D1.over st1₂ hs₃ S.sep2_1
  refine wpAny_pure ⟨_, rfl, ?_⟩
  show Q (.ref h₃.objs.size) _
  have hp : IsPair (h₃.push { cls := .type "tuple", data := .seq #[x, y] }) h₃.objs.size x y := Heap.get?_push_size _ rfl
  have hz4 : (h₃.push { cls := .type "tuple", data := .seq #[x, y] }).objs.size = h₃.objs.size + 1 := Heap.size_push ..
  rw [hsz] at hp hz4 ⊢
  exact hQ x y _ tk3 hx hy (Heap.get?_push_of_some _ hz₃) (D1.frame _ _ _ st1₃ fun b _ o e => Heap.get?_push_of_some _ e) (D2.frame _ _ _ st2₃ fun b _ o e => Heap.get?_push_of_some _ e) hp hz4 fun c o c1 c2 c3 e => Heap.get?_push_of_some _ (hk c o c1 c2 c3 e)
theorem zip_held_end {f : Bool} {oT : Obj} {Q : Fin → Shared → Prop} (S : ZipSep2 z TI TO i1 i2 fp1 fp2) (D1 : Draws prog w A i1 fp1 n1 P1 St1) (D2 : Draws prog w A i2 fp2 n2 P2 St2)
    (hz : IsZipHeld s.heap z TI TO T f) (hT : s.heap.get? T = some oT) (hTI : IsPair s.heap TI (.ref i1) (.ref i2)) (st1 : St1 i s.heap) (st2 : St2 i s.heap) (hle1 : i ≤ n1) (hle2 : i ≤ n2) (hend : i = n1 ∨ i = n2)
    (hE : ∀ h' tk e, (∀ c o, c ≠ z → c ≠ i1 → c ≠ i2 → s.heap.get? c = some o → h'.get? c = some o) → (∃ o, h'.get? e = some o ∧ o.cls = .type "StopIteration") → E (.ref e) { s with heap := h', toks := tk }) :
    wpAny (model prog w) A (Builtin.«zip.__next__» ⟨[.ref z], []⟩) Q E s := by
  show wpAny _ _ (field (.ref z) 2 >>= _) _ _ _
  refine wpAny_bind (wpAny_field hz rfl (x := .bool false) rfl ?_)
  show wpAny _ _ (field (.ref z) 3 >>= _) _ _ _
  refine wpAny_bind (wpAny_field hz rfl (x := .ref TI) rfl ?_)
  refine wpAny_bind (wpAny_seqItems hTI rfl ?_)
  show wpAny _ _ (Builtin.SmallTypes.ownedTupleIsFree (.ref z) >>= _) _ _ _
  refine wpAny_bind (wpAny_tupleHeld_zip hz hT fun h₁ hz₁ hs₁ => ?_)
  simp only [Bool.false_eq_true, if_false]
  refine wpAny_bind ?_
  rw [← Array.forIn_toList]
  simp only [List.forIn_cons, List.forIn_nil]
  refine wpAny_bind (wpAny_bind (wpAny_holding ?_))
  show wpAny _ _ (Builtin.SmallTypes.nextOf (.ref i1) >>= _) _ _ _
  by_cases hlt1 : i < n1
  · have hi2 : i = n2 := by omega
    refine wpAny_bind (D1.item i { s with heap := h₁ } _ _ hlt1 (D1.over st1 hs₁ S.zf1) fun x h₂ tk2 hx st1₂ hs₂ => wpAny_pure ?_)
    replace hs₂ : Heap.SameBut i1 h₁ h₂ := hs₂
    refine wpAny_pure ?_
    refine wpAny_bind (wpAny_bind (wpAny_holding ?_))
    show wpAny _ _ (Builtin.SmallTypes.nextOf (.ref i2) >>= _) _ _ _
    refine wpAny_bind (D2.done { s with heap := h₂, toks := tk2 } _ _ (by rw [← hi2]; exact D2.over (D2.over st2 hs₁ S.zf2) hs₂ S.sep1_2) fun h₃ e hs₃ he => ?_)
    exact hE h₃ tk2 e (fun c o c1 c2 c3 x => hs₃ _ _ c3 (hs₂.extBut _ _ c2 (hs₁.extBut _ _ c1 x))) he
  · have hi1 : i = n1 := by omega
    refine wpAny_bind (D1.done { s with heap := h₁ } _ _ (by rw [← hi1]; exact D1.over st1 hs₁ S.zf1) fun h₂ e hs₂ he => ?_)
    exact hE h₂ s.toks e (fun c o c1 c2 _ x => hs₂ _ _ c2 (hs₁.extBut _ _ c1 x)) he
theorem next_held_item {f : Bool} {oT : Obj} {Q : Option Value → Shared → Prop} (S : ZipSep2 z TI TO i1 i2 fp1 fp2) (D1 : Draws prog w A.in1 i1 fp1 n1 P1 St1) (D2 : Draws prog w A.in1 i2 fp2 n2 P2 St2)
    (hz : IsZipHeld s.heap z TI TO T f) (hT : s.heap.get? T = some oT) (hTI : IsPair s.heap TI (.ref i1) (.ref i2)) (st1 : St1 i s.heap) (st2 : St2 i s.heap) (hlt1 : i < n1) (hlt2 : i < n2)
    (hQ : ∀ x y h' tk, P1 i x → P2 i y → IsZipHeld h' z TI TO T true → St1 (i + 1) h' → St2 (i + 1) h' → IsPair h' s.heap.objs.size x y → h'.objs.size = s.heap.objs.size + 1 →
      (∀ c o, c ≠ z → c ≠ i1 → c ≠ i2 → s.heap.get? c = some o → h'.get? c = some o) → Q (some (.ref s.heap.objs.size)) { s with heap := h', toks := tk }) :
    wpAny (model prog w) A (pyNext (.ref z)) Q E s := by
  have hTy : s.TypeIs (.ref z) "zip" := ⟨_, hz, rfl⟩
  unfold pyNext
  exact wpAny_bind (wpAny_attempt (wpAny_callSpecial?_slot (name := Str.ofString "__next__") hTy F.slot_zip_next
    (wpAny_call_entry F.slot_zip_next hTy F.entry_zip_next
      (zip_held_item S D1 D2 hz hT hTI st1 st2 hlt1 hlt2 fun x y h' tk p1 p2 a1 a3 a4 a5 a6 a7 => wpAny_pure (hQ x y h' tk p1 p2 a1 a3 a4 a5 a6 a7)) (F.args_zip_next_1 _))))
theorem next_held_end {f : Bool} {oT : Obj} {Q : Option Value → Shared → Prop} (S : ZipSep2 z TI TO i1 i2 fp1 fp2) (D1 : Draws prog w A.in1 i1 fp1 n1 P1 St1) (D2 : Draws prog w A.in1 i2 fp2 n2 P2 St2)
    (hz : IsZipHeld s.heap z TI TO T f) (hT : s.heap.get? T = some oT) (hTI : IsPair s.heap TI (.ref i1) (.ref i2)) (st1 : St1 i s.heap) (st2 : St2 i s.heap) (hle1 : i ≤ n1) (hle2 : i ≤ n2) (hend : i = n1 ∨ i = n2)
    (hQ : ∀ h' tk, (∀ c o, c ≠ z → c ≠ i1 → c ≠ i2 → s.heap.get? c = some o → h'.get? c = some o) → Q none { s with heap := h', toks := tk }) : wpAny (model prog w) A (pyNext (.ref z)) Q E s := by
  have hTy : s.TypeIs (.ref z) "zip" := ⟨_, hz, rfl⟩
  unfold pyNext
  refine wpAny_bind (wpAny_attempt (wpAny_callSpecial?_slot (name := Str.ofString "__next__") hTy F.slot_zip_next
    (wpAny_call_entry F.slot_zip_next hTy F.entry_zip_next (zip_held_end S D1 D2 hz hT hTI st1 st2 hle1 hle2 hend fun h' tk e hk he => ?_) (F.args_zip_next_1 _))))
  obtain ⟨o, ho, hc⟩ := he
  refine wpAny_bind (wpAny_isInstance (T := "StopIteration") (b := true) ⟨o, ho, hc⟩ isSubtype_stop ?_)
  exact wpAny_pure (hQ _ _ hk)
end
/-- zip(x, y) as the argument of dict() -/
theorem pairArg_zip (A0 : Around) (hA0 : A0.handled = none) {prog : Program} {w : World} {z TI TO i1 i2 a b : Addr} {n1 n2 : Nat} {P1 P2 : Nat → Value → Prop} {St1 St2 : Nat → Heap → Prop} (S : ZipSep2 z TI TO i1 i2 [i1, a] [i2, b])
    (D1 : ∀ A, A.handled = none → Draws prog w A i1 [i1, a] n1 P1 St1) (D2 : ∀ A, A.handled = none → Draws prog w A i2 [i2, b] n2 P2 St2) (l1 : ∀ h, St1 0 h → ∃ o, h.get? a = some o) (l2 : ∀ h, St2 0 h → ∃ o, h.get? b = some o) :
    PairArg prog w "zip" z [z, TI, TO, i1, i2, a, b] [z, TO, i1, i2] (min n1 n2) (fun i k v => P1 i k ∧ P2 i v)
      (fun h => IsZip h z TI TO .none ∧ IsPair h TI (.ref i1) (.ref i2) ∧ (∃ x y, IsPair h TO x y) ∧ St1 0 h ∧ St2 0 h) where
  type := fun s ok => ⟨_, ok.1, rfl⟩
  notDict := by decide
  keep := fun h h' ok hk => by
    obtain ⟨hz, hTI, ⟨x, y, hTO⟩, h1, h2⟩ := ok
    exact ⟨hk _ _ hz, hk _ _ hTI, ⟨x, y, hk _ _ hTO⟩, (D1 A0 hA0).frame _ _ _ h1 fun b _ o e => hk _ o e, (D2 A0 hA0).frame _ _ _ h2 fun b _ o e => hk _ o e⟩
  there := fun h ok c hc => by
    obtain ⟨hz, hTI, ⟨x, y, hTO⟩, h1, h2⟩ := ok
    simp only [List.mem_cons, List.not_mem_nil, or_false] at hc
    rcases hc with rfl | rfl | rfl | rfl | rfl | rfl | rfl
    · exact ⟨_, hz⟩
    · exact ⟨_, hTI⟩
    · exact ⟨_, hTO⟩
    · exact (D1 A0 hA0).live _ _ h1
    · exact (D2 A0 hA0).live _ _ h2
    · exact l1 _ h1
    · exact l2 _ h2
  sub := fun b hb => by simp at hb ⊢; rcases hb with rfl | rfl | rfl | rfl <;> simp
  noKeys := fun A s Q E hA ok h => getAttrOr_miss_zip ok.1 rfl rfl rfl zip_no_keys (by decide +kernel) hA h
  iter := fun A s d Q E hA ok hd hdf h => by
    obtain ⟨hz, hTI, ⟨x, y, hTO⟩, h1, h2⟩ := ok
    simp only [List.mem_cons, List.not_mem_nil, or_false, not_or] at hdf
    obtain ⟨dz, dTI, dTO, di1, di2, dl1, dl2⟩ := hdf
    have D1 := D1 A.in1 hA
    have D2 := D2 A.in1 hA
    refine wpAny_pyIter_zip hz (h z [z, TO, i1, i2] (fun i h => IsPair h TI (.ref i1) (.ref i2) ∧ St1 i h ∧ St2 i h ∧
      ((IsZip h z TI TO .none ∧ ∃ x y, IsPair h TO x y) ∨ ∃ T f oT, IsZipHeld h z TI TO T f ∧ h.get? T = some oT ∧ T ≠ z ∧ T ≠ i1 ∧ T ≠ i2 ∧ T ≠ d)) s.heap s.toks ?_
      ⟨hTI, h1, h2, .inl ⟨hz, x, y, hTO⟩⟩ (fun _ _ e => e) fun b hb => .inl hb)
    exact {
      off := fun hm => by
        simp only [List.mem_cons, List.not_mem_nil, or_false] at hm
        rcases hm with e | e | e | e
        · exact dz e
        · exact dTO e
        · exact di1 e
        · exact di2 e
      frame := fun i h₁ h₂ st hk => by
        obtain ⟨hTI, h1, h2, hz⟩ := st
        refine ⟨hk _ _ (Ne.symm dTI) hTI, D1.frame _ _ _ h1 fun b hb o e => hk _ o ?_ e, D2.frame _ _ _ h2 fun b hb o e => hk _ o ?_ e, ?_⟩
        · simp only [List.mem_cons, List.not_mem_nil, or_false] at hb
          rcases hb with rfl | rfl
          · exact Ne.symm di1
          · exact Ne.symm dl1
        · simp only [List.mem_cons, List.not_mem_nil, or_false] at hb
          rcases hb with rfl | rfl
          · exact Ne.symm di2
          · exact Ne.symm dl2
        rcases hz with ⟨hz, x, y, hTO⟩ | ⟨T, f, oT, hz, hT, r1, r2, r3, r4⟩
        · exact .inl ⟨hk _ _ (Ne.symm dz) hz, x, y, hk _ _ (Ne.symm dTO) hTO⟩
        · exact .inr ⟨T, f, oT, hk _ _ (Ne.symm dz) hz, hk _ _ r4 hT, r1, r2, r3, r4⟩
      item := fun i s₁ Q₁ E₁ hi st hds hQ => by
        obtain ⟨hTI, h1, h2, hz⟩ := st
        have hix : i < n1 := Nat.lt_of_lt_of_le hi (Nat.min_le_left ..)
        have hiy : i < n2 := Nat.lt_of_lt_of_le hi (Nat.min_le_right ..)
        have lt : ∀ {c o}, s₁.heap.get? c = some o → s₁.heap.objs.size ≠ c := fun e => Nat.ne_of_gt (Heap.lt_size e)
        have m1 : s₁.heap.objs.size ≠ i1 := let ⟨_, e⟩ := D1.live _ _ h1; lt e
        have m2 : s₁.heap.objs.size ≠ i2 := let ⟨_, e⟩ := D2.live _ _ h2; lt e
        rcases hz with ⟨hz, x, y, hTO⟩ | ⟨T, f, oT, hz, hT, r1, r2, r3, r4⟩
        · refine wpAny_pyNext_zipD2_item S D1 D2 hz hTI hTO h1 h2 hix hiy fun x1 x2 h' tk p1 p2 z' TO' st1 st2 hT hsz hk => ?_
          exact hQ s₁.heap.objs.size _ _ h' tk ⟨p1, p2⟩ (.inl ⟨_, hT, rfl, _, rfl⟩)
            ⟨hk _ _ S.TIz S.TITO S.TIi1 S.TIi2 hTI, st1, st2, .inr ⟨s₁.heap.objs.size, false, _, z', hT, lt hz, m1, m2, Nat.ne_of_gt hds⟩⟩
            fun c o hc e => hk c o (fun x => hc (by simp [x])) (fun x => hc (by simp [x])) (fun x => hc (by simp [x])) (fun x => hc (by simp [x])) e
        · refine next_held_item S D1 D2 hz hT hTI h1 h2 hix hiy fun x1 x2 h' tk p1 p2 z' st1 st2 hT' hsz hk => ?_
          exact hQ s₁.heap.objs.size _ _ h' tk ⟨p1, p2⟩ (.inl ⟨_, hT', rfl, _, rfl⟩)
            ⟨hk _ _ S.TIz S.TIi1 S.TIi2 hTI, st1, st2, .inr ⟨T, true, oT, z', hk _ _ r1 r2 r3 hT, r1, r2, r3, r4⟩⟩
            fun c o hc e => hk c o (fun x => hc (by simp [x])) (fun x => hc (by simp [x])) (fun x => hc (by simp [x])) e
      done := fun s₁ Q₁ E₁ st hQ => by
        obtain ⟨hTI, h1, h2, hz⟩ := st
        have e1 : min n1 n2 ≤ n1 := Nat.min_le_left ..
        have e2 : min n1 n2 ≤ n2 := Nat.min_le_right ..
        have e3 : min n1 n2 = n1 ∨ min n1 n2 = n2 := by omega
        rcases hz with ⟨hz, x, y, hTO⟩ | ⟨T, f, oT, hz, hT, r1, r2, r3, r4⟩
        · exact wpAny_pyNext_zipD2_end S D1 D2 hz hTI hTO h1 h2 e1 e2 e3 fun h' tk hk => hQ h' tk fun c o hc e => hk c o (fun x => hc (by simp [x])) (fun x => hc (by simp [x])) (fun x => hc (by simp [x])) (fun x => hc (by simp [x])) e
        · exact next_held_end S D1 D2 hz hT hTI h1 h2 e1 e2 e3 fun h' tk hk => hQ h' tk fun c o hc e => hk c o (fun x => hc (by simp [x])) (fun x => hc (by simp [x])) (fun x => hc (by simp [x])) e }
end DI
set_option linter.all false
set_option Elab.async false
set_option maxRecDepth 100000
set_option maxHeartbeats 4000000
/-! DSnd11: what loops walk over; dict(zip(..)). -/
namespace DI
open PySem PySem.Spec PyProof.Rows L2
section
variable {X : Cx} {c : CT} {n : Ent} {W : XW} {k : Nat}
theorem keys_reps {T : Tb} {H : Hp} : ∀ kv : List (Key × V), Reps T H (kv.map fun q => keyD q.1) (kv.map fun q => kV q.1)
  | [] => rfl
  | p :: r => by
    refine ⟨_, _, rfl, ?_, keys_reps r⟩
    obtain ⟨kk, w⟩ := p
    show Rep T H (keyD kk) (kV kk)
    cases kk <;> exact rfl
theorem src_rep {d : D} {ds : List D} {x : V} {G0 : Hp} (hs : seqR d = some ds) (R : Rep (tb X c) G0 d x) : ∃ a o IT vs Con, x = .ref a ∧ Src X.prog X.w X.K a o IT vs Con ∧ Con G0 ∧ Reps (tb X c) G0 ds vs := by
  cases d with
  | lst xs =>
    cases hs
    obtain ⟨a, vs, rfl, h1, h2⟩ := R
    exact ⟨a, _, _, vs, _, rfl, src_lst, h1, h2⟩
  | tup xs =>
    cases hs
    obtain ⟨a, vs, rfl, h1, h2⟩ := R
    exact ⟨a, _, _, vs, _, rfl, src_tup, h1, h2⟩
  | kdic kvs =>
    cases hs
    obtain ⟨a, kv, rfl, ⟨es, m, h1, h2, _⟩, h4⟩ := R
    refine ⟨a, _, _, _, _, rfl, src_kdic h1 h2, trivial, ?_⟩
    rw [h4.keysOf]
    exact keys_reps kv
  | _ => cases hs
/-- a walk over what is there already -/
theorem JOk.same {T : Tb} {J : It} {ds : List D} {G0 : Hp} (h1 : ∀ i H0 H, Ext G0 H0 → Ext H0 H → i < ds.length → J.go i H) (h2 : ∀ i H0 H, Ext G0 H0 → Ext H0 H → ds.length ≤ i → J.stop i H)
    (h3 : ∀ i d H0 H x H', Ext G0 H0 → Ext H0 H → ds[i]? = some d → J.yld i H x H' → H' = H ∧ Rep T H0 d x) : JOk T J ds G0 :=
  ⟨h1, h2, fun i d H0 H x H' e0 e1 hd y => by
    obtain ⟨rfl, R⟩ := h3 i d H0 H x H' e0 e1 hd y
    exact ⟨H0, Grow.refl e1, R⟩⟩
theorem get_lt {α : Type} {l : List α} {i : Nat} {a : α} (h : l[i]? = some a) : i < l.length := (List.getElem?_eq_some_iff.mp h).1
theorem RI.mono {T : Tb} {σ : L2.St} {H0 H0' : Hp} {p : Addr} {Rr : It → Hp → Prop} {x : R (List D)} (h : RI T n σ H0 p Rr W x) (e : Ext H0 H0') : RI T n σ H0' p Rr W x := by
  cases x with
  | ok d e1 t1 => exact fun J G0 G S x j => h J G0 G S (e.trans x) j
  | err c fs => exact h
  | stuck => exact h
theorem bindI {T : Tb} {σ : L2.St} {H0 : Hp} {p : Addr} {x : R D} {f : D → Env → D → R (List D)} {Rr : It → Hp → Prop} (h : RI T n σ H0 p Rr W (x.bind f)) :
    RE T n σ H0 p (fun v G => ∃ d e1 t1 G0, SI T n e1 t1 σ G0 G p ∧ Ext H0 G0 ∧ Rep T G0 d v ∧ x = .ok d e1 t1 ∧ RI T n σ H0 p Rr W (f d e1 t1)) W x := by
  cases x with
  | ok d e1 t1 => exact fun v G0 G S x r => ⟨d, e1, t1, G0, S, x, r, rfl, h⟩
  | err c fs => exact h
  | stuck => exact h
def ItS (kv : List (Key × V)) : It := ⟨fun i _ => i < kv.length, fun i H x H' => H' = H ∧ ∃ q, kv[i]? = some q ∧ x = kV q.1, fun i _ => kv.length ≤ i⟩
theorem kve_len {kv : List (Key × V)} {es : List DictEntry} (h : KVE es kv) : kv.length = es.length := Paired.length h
theorem turn_kd {P : Program} {w : World} {K : PySem.W.Frag} {tg : Expr} {a : Addr} {es : Array DictEntry} {m : Nat} {kv : List (Key × V)} (D : KDict K w a es m) (h : KVE es.toList kv) (it : Addr) : Turn P w K tg (ItS kv) [it] it (fun i h => h.IsKeyIter it a i es.size m) where
  mem := by simp
  obj := fun i h st b hb => by
    have e : b = it := by simpa using hb
    subst e
    obtain ⟨oi, e, c, dd⟩ := st
    exact ⟨oi, e, fun v z => by rw [dd] at z; cases z⟩
  keep := fun i h h' st k => st.at fun oi e => k it (by simp) oi e
  item := by
    intro X hP hw hK hc i pins s σ H E I hf st hg
    subst hP hw hK
    have hg : i < kv.length := hg
    obtain ⟨f0, f1, f2, f3, f4, f5⟩ := hf it (by simp)
    have at_ : s.heap.DictRaw a es m := ⟨_, I.kIn _ _ D.at_, ⟨rfl, rfl, rfl⟩, rfl⟩
    have hi : i < es.size := by rw [← Array.length_toList, ← kve_len h]; exact hg
    refine wpAny_pyNext_keys_item_raw st at_ hi fun h' st' sb => ?_
    have I1 : Inv X pins σ H { s with heap := h' } := I.turned (t' := s.toks) (fun b ob hb e => (sb.2 b hb).trans e) f0 f1 f3 f4 f5
    obtain ⟨oi, e, c, dd⟩ := id st'
    obtain ⟨q, hq⟩ : ∃ q, kv[i]? = some q := ⟨_, List.getElem?_eq_getElem hg⟩
    obtain ⟨u, hu, ru⟩ := (kve_keys h).get (i := i) (x := kV q.1) (by rw [List.getElem?_map, hq]; rfl)
    have e6 : es[i].key = u := by simpa [hi] using hu
    exact ⟨_, rfl, go_of (s := { s with heap := h' }) e c dd (by decide) ⟨kV q.1, H, I1, by rw [e6]; exact ru, ⟨rfl, q, hq, rfl⟩, st', fun b hb => (hf b hb).1⟩⟩
  done := by
    intro X hP hw hK hc i pins s σ H E I hf st hg
    subst hP hw hK
    have hg : kv.length ≤ i := hg
    obtain ⟨f0, f1, f2, f3, f4, f5⟩ := hf it (by simp)
    have at_ : s.heap.DictRaw a es m := ⟨_, I.kIn _ _ D.at_, ⟨rfl, rfl, rfl⟩, rfl⟩
    exact wpAny_pyNext_keys_end_raw (I.ok.hd hc) st at_ (by rw [← Array.length_toList, ← kve_len h]; exact hg) fun h' eb => ⟨rfl, I.turned (t' := s.toks) (fun b o hb q => eb b o hb q) f0 f1 f3 f4 f5⟩
  self := fun A i s Q E st h => wpAny_pyIter_keyiter st h
/-- for x in e -/
theorem it_seq {tg a : Expr} {ma : ME} (ha : PM X c n W a ma) : PIt X c n W tg a (iSeq ma) := by
  refine ⟨fun pins s σ H Rr I ⟨e, t, H0, p, S, q⟩ => ?_⟩
  have h := bindI q
  cases hm : ma e t with
  | err kk fs => rw [hm] at h; exact (pi_list (tl := tE (tb X c) n W ma) ha).run pins s σ H Rr I ⟨e, t, H0, p, S, by rw [hm]; exact h⟩
  | stuck => rw [hm] at h; exact h.elim
  | ok d e1 t1 =>
    rw [hm] at h
    cases d with
    | lst xs =>
      refine (pi_list ha).run pins s σ H Rr I ⟨e, t, H0, p, S, ?_⟩
      rw [hm]
      intro v G0 G S1 x1 R1
      obtain ⟨d, e2, t2, G0, S1, x1, R1, hd, q1⟩ := h v G0 G S1 x1 R1
      cases hd
      obtain ⟨a, vs, rfl, h1, h2⟩ := R1
      refine ⟨a, rfl, ⟨vs, SqL.of (S1.sub _ _ h1)⟩, q1 _ _ _ S1 x1 (JOk.same (fun i K0 K e0 e1 hi => ?_) (fun i K0 K e0 e1 hi => ?_) fun i d K0 K x K' e0 e1 hd y => ?_)⟩
      · exact ⟨vs, _, SqL.of (e1 _ _ (e0 _ _ h1)), List.getElem?_eq_getElem (by rw [← h2.length]; exact hi)⟩
      · exact ⟨vs, SqL.of (e1 _ _ (e0 _ _ h1)), by rw [← h2.length]; exact hi⟩
      · obtain ⟨rfl, f⟩ := y
        obtain ⟨w, e4, R⟩ := (h2.ext e0).get hd
        rw [f vs (SqL.of (e1 _ _ (e0 _ _ h1)))] at e4
        cases e4
        exact ⟨rfl, R⟩
    | tup xs =>
      refine (pi_tup ha).run pins s σ H Rr I ⟨e, t, H0, p, S, ?_⟩
      rw [hm]
      intro v G0 G S1 x1 R1
      obtain ⟨d, e2, t2, G0, S1, x1, R1, hd, q1⟩ := h v G0 G S1 x1 R1
      cases hd
      obtain ⟨a, vs, rfl, h1, h2⟩ := R1
      refine ⟨a, rfl, ⟨vs, h1.ext S1.sub⟩, q1 _ _ _ S1 x1 (JOk.same (fun i K0 K e0 e1 hi => ?_) (fun i K0 K e0 e1 hi => ?_) fun i d K0 K x K' e0 e1 hd y => ?_)⟩
      · exact ⟨vs, _, h1.ext (e0.trans e1), List.getElem?_eq_getElem (by rw [← h2.length]; exact hi)⟩
      · exact ⟨vs, h1.ext (e0.trans e1), by rw [← h2.length]; exact hi⟩
      · obtain ⟨rfl, f⟩ := y
        obtain ⟨w, e4, R⟩ := (h2.ext e0).get hd
        rw [f vs (h1.ext (e0.trans e1))] at e4
        cases e4
        exact ⟨rfl, R⟩
    | dic kvs =>
      refine (pi_keys ha).run pins s σ H Rr I ⟨e, t, H0, p, S, ?_⟩
      rw [hm]
      intro v G0 G S1 x1 R1
      obtain ⟨d, e2, t2, G0, S1, x1, R1, hd, q1⟩ := h v G0 G S1 x1 R1
      cases hd
      obtain ⟨a, kv, rfl, ⟨o, h1⟩, h2⟩ := R1
      refine ⟨a, o, rfl, .inl ⟨kv, S1.sub _ _ h1, q1 _ _ _ S1 x1 (JOk.same (fun i K0 K e0 e1 hi => ?_) (fun i K0 K e0 e1 hi => ?_) fun i d K0 K x K' e0 e1 hd y => ?_)⟩⟩
      · exact ⟨e1 _ _ (e0 _ _ h1), by rw [← h2.length]; simpa using hi⟩
      · exact ⟨e1 _ _ (e0 _ _ h1), by rw [← h2.length]; simpa using hi⟩
      · obtain ⟨rfl, kk, w, hk, rfl⟩ := y
        refine ⟨rfl, ?_⟩
        have e5 : (kvs.map (·.1))[i]? = some (keyD kk) := by rw [h2.keysOf, List.getElem?_map, hk]; rfl
        rw [hd] at e5
        cases e5
        cases kk <;> exact rfl
    | str z =>
      refine (pi_str ha).run pins s σ H Rr I ⟨e, t, H0, p, S, ?_⟩
      rw [hm]
      intro v G0 G S1 x1 R1
      obtain ⟨d, e2, t2, G0, S1, x1, R1, hd, q1⟩ := h v G0 G S1 x1 R1
      cases hd
      have R1 : v = .str z := R1
      subst R1
      have hl : (signs z).length = z.cps.size := by simp [signs]
      refine ⟨z, rfl, q1 _ _ _ S1 x1 (JOk.same (fun i K0 K e0 e1 hi => ?_) (fun i K0 K e0 e1 hi => ?_) fun i d K0 K x K' e0 e1 hd y => ?_)⟩
      · exact (show i < z.cps.size from hl ▸ hi)
      · exact (show z.cps.size ≤ i from hl ▸ hi)
      · obtain ⟨rfl, ch, hc, rfl⟩ := y
        refine ⟨rfl, ?_⟩
        have e5 : (signs z)[i]? = some (.str ⟨#[ch]⟩) := by
          unfold signs
          rw [List.getElem?_map, Array.getElem?_toList, hc]
          rfl
        rw [hd] at e5
        cases e5
        exact rfl
    | kdic kvs =>
      have h' : RE (tb X c) n σ H0 p (fun v G => ∃ e1 t1 G0, SI (tb X c) n e1 t1 σ G0 G p ∧ Ext H0 G0 ∧ Rep (tb X c) G0 (.kdic kvs) v ∧ RI (tb X c) n σ H0 p Rr W (.ok (kvs.map (·.1)) e1 t1)) W (ma e t) := by
        rw [hm]
        intro v G0 G S1 x1 R1
        obtain ⟨d, e2, t2, G0, S1, x1, R1, hd, q1⟩ := h v G0 G S1 x1 R1
        cases hd
        exact ⟨_, _, G0, S1, x1, R1, q1⟩
      refine thn (ha.run pins s σ H _ I ⟨e, t, H0, p, S, h'⟩) fun v s1 hh => ?_
      obtain ⟨x, H1, I1, r1, e2, t2, G0, S1, x1, R1, q1⟩ := hh
      obtain ⟨a, kv, rfl, ⟨es, m, h1, h2, h3⟩, h4⟩ := R1
      obtain rfl : v = Value.ref a := r1
      have at_ : s1.heap.DictRaw a es m := ⟨_, I1.kIn _ _ h1.at_, ⟨rfl, rfl, rfl⟩, rfl⟩
      refine wpAny_pyIter_dict_raw h1.low at_ (pi_one (tk := s1.toks) I1 _ (turn_kd h1 h2 _) ⟨_, Heap.get?_push_size _ rfl, rfl, rfl⟩ (q1 _ _ _ S1 x1 (JOk.same (fun i K0 K e0 e1 hi => ?_) (fun i K0 K e0 e1 hi => ?_) fun i d K0 K x K' e0 e1 hd y => ?_)))
      · exact (show i < kv.length by rw [← h4.length]; simpa using hi)
      · exact (show kv.length ≤ i by rw [← h4.length]; simpa using hi)
      · obtain ⟨rfl, q, hq, rfl⟩ := y
        refine ⟨rfl, ?_⟩
        have e5 : (kvs.map (·.1))[i]? = some (keyD q.1) := by rw [h4.keysOf, List.getElem?_map, hq]; rfl
        rw [hd] at e5
        cases e5
        cases q.1 <;> exact rfl
    | _ =>
      have q : RI (tb X c) n σ H0 p Rr W ((ma e t).bind fun x e t => R.of (seqOf x) e t) := q
      rw [hm] at q
      exact q.elim
theorem tCons_mono {ma : ME} {σ : L2.St} {H : Hp} {Q Q' : List V → Hp → Prop} (h : tCons (tE (tb X c) n W ma) tNil σ H Q) (k : ∀ vs G, Q vs G → Q' vs G) : tCons (tE (tb X c) n W ma) tNil σ H Q' := by
  obtain ⟨e, t, H0, p, S, q⟩ := h
  refine ⟨e, t, H0, p, S, ?_⟩
  cases hm : ma e t with
  | err kk fs => rw [hm] at q; exact q
  | stuck => rw [hm] at q; exact q
  | ok d e1 t1 => rw [hm] at q; exact fun v G0 G S1 x1 R1 => k _ _ (q v G0 G S1 x1 R1)
theorem tCons_mono2 {ma mb : ME} {σ : L2.St} {H : Hp} {Q Q' : List V → Hp → Prop} (h : tCons (tE (tb X c) n W ma) (tCons (tE (tb X c) n W mb) tNil) σ H Q) (k : ∀ vs G, Q vs G → Q' vs G) : tCons (tE (tb X c) n W ma) (tCons (tE (tb X c) n W mb) tNil) σ H Q' := by
  obtain ⟨e, t, H0, p, S, q⟩ := h
  refine ⟨e, t, H0, p, S, ?_⟩
  cases hm : ma e t with
  | err kk fs => rw [hm] at q; exact q
  | stuck => rw [hm] at q; exact q
  | ok d e1 t1 => rw [hm] at q; exact fun v G0 G S1 x1 R1 => tCons_mono (Q := fun xs H2 => Q (v :: xs) H2) (q v G0 G S1 x1 R1) fun vs G h => k _ _ h
theorem m_arg1 {ma : ME} {e : Env} {t : D} {σ : L2.St} {H H0 : Hp} {p : Addr} {f : D → Env → D → R (List D)} {Rr : It → Hp → Prop} (S : SI (tb X c) n e t σ H0 H p) (h : RI (tb X c) n σ H0 p Rr W ((ma e t).bind f)) :
    tCons (tE (tb X c) n W ma) tNil σ H (fun vs G => ∃ v, vs = [v] ∧ ∃ d e1 t1 G0, SI (tb X c) n e1 t1 σ G0 G p ∧ Ext H0 G0 ∧ Rep (tb X c) G0 d v ∧ RI (tb X c) n σ H0 p Rr W (f d e1 t1)) := by
  refine ⟨e, t, H0, p, S, ?_⟩
  have h := bindI h
  cases hm : ma e t with
  | err kk fs => rw [hm] at h; exact h
  | stuck => rw [hm] at h; exact h
  | ok d e1 t1 =>
    rw [hm] at h
    intro v G0 G S1 x1 R1
    obtain ⟨d, e1, t1, G0, S1, x1, R1, _, q⟩ := h v G0 G S1 x1 R1
    exact ⟨v, rfl, d, e1, t1, G0, S1, x1, R1, q⟩
theorem m_arg2 {ma mb : ME} {e : Env} {t : D} {σ : L2.St} {H H0 : Hp} {p : Addr} {f : D → D → Env → D → R (List D)} {Rr : It → Hp → Prop} (S : SI (tb X c) n e t σ H0 H p) (h : RI (tb X c) n σ H0 p Rr W ((ma e t).bind fun x e t => (mb e t).bind fun y e t => f x y e t)) :
    tCons (tE (tb X c) n W ma) (tCons (tE (tb X c) n W mb) tNil) σ H (fun vs G => ∃ v u, vs = [v, u] ∧ ∃ d d' e1 t1 G0, SI (tb X c) n e1 t1 σ G0 G p ∧ Ext H0 G0 ∧ Rep (tb X c) G0 d v ∧ Rep (tb X c) G0 d' u ∧ RI (tb X c) n σ H0 p Rr W (f d d' e1 t1)) := by
  refine ⟨e, t, H0, p, S, ?_⟩
  have h := bindI h
  cases hm : ma e t with
  | err kk fs => rw [hm] at h; exact h
  | stuck => rw [hm] at h; exact h
  | ok d e1 t1 =>
    rw [hm] at h
    intro v G0 G S1 x1 R1
    obtain ⟨d, e1, t1, G0, S1, x1, R1, _, q⟩ := h v G0 G S1 x1 R1
    refine ⟨e1, t1, G0, p, S1, ?_⟩
    have h2 := RE.mono (bindI q) x1
    cases hm2 : mb e1 t1 with
    | err kk fs => rw [hm2] at h2; exact h2
    | stuck => rw [hm2] at h2; exact h2
    | ok d' e2 t2 =>
      rw [hm2] at h2
      intro u K0 K S2 x2 R2
      have q3 : RI (tb X c) n σ H0 p Rr W (f d d' e2 t2) := by
        have q3 := q
        rw [hm2] at q3
        exact q3
      exact ⟨v, u, rfl, d, d', e2, t2, K0, S2, x1.trans x2, R1.ext x2, R2, q3⟩
/-- for i in range(n) -/
theorem it_range {tg a : Expr} {ma : ME} {p pos : Pos} (hg : Gl X "range") (hm : X.mg "range" = none) (ha : PM X c n W a ma) (hs : starEach [a] X.env = [(false, eval a X.env)]) : PIt X c n W tg (.Call (.Name "range" p) [a] [] pos) (iRange ma) := by
  refine ⟨fun pins s σ H Rr I ⟨e, t, H0, p, S, q⟩ => ?_⟩
  refine (pi_range1 hg hm (pa_cons ha pa_nil hs) hs).run pins s σ H Rr I (tCons_mono (m_arg1 S q) fun vs G ⟨v, ev, d, e1, t1, G0, S1, x1, R1, q1⟩ => ?_)
  cases d with
  | int j =>
    have R1 : v = .int j := R1
    subst R1
    have q1 : RI (tb X c) n σ H0 p Rr W (if j < 4611686018427387904 then (if -4611686018427387904 ≤ j then .ok ((List.range j.toNat).map fun k => .int (k : Nat)) e1 t1 else .stuck) else .stuck) := q1
    by_cases h1 : j < 4611686018427387904
    · rw [if_pos h1] at q1
      by_cases h2 : -4611686018427387904 ≤ j
      · rw [if_pos h2] at q1
        refine ⟨j, ev, by omega, by omega, q1 _ _ _ S1 x1 (JOk.same (fun i K0 K e0 e1 hi => ?_) (fun i K0 K e0 e1 hi => ?_) fun i d K0 K x K' e0 e1 hd y => ?_)⟩
        · exact (show i < j.toNat by simpa using hi)
        · exact (show j.toNat ≤ i by simpa using hi)
        · obtain ⟨rfl, rfl⟩ := y
          refine ⟨rfl, ?_⟩
          have hi := get_lt hd
          rw [List.getElem?_map, List.getElem?_range (by simpa using hi)] at hd
          cases hd
          show V.int _ = V.int _
          congr 1
          omega
      · rw [if_neg h2] at q1; exact q1.elim
    · rw [if_neg h1] at q1; exact q1.elim
  | _ => exact q1.elim
/-- for i in range(a, b) -/
theorem it_range2 {tg a b : Expr} {ma mb : ME} {p pos : Pos} (hg : Gl X "range") (hm : X.mg "range" = none) (ha : PM X c n W a ma) (hb : PM X c n W b mb) (hs : starEach [a, b] X.env = (false, eval a X.env) :: starEach [b] X.env) (hs2 : starEach [b] X.env = (false, eval b X.env) :: starEach [] X.env)
    (hpl : (backTo pos (starEach [b] X.env)).any (·.1) = false) : PIt X c n W tg (.Call (.Name "range" p) [a, b] [] pos) (iRange2 ma mb) := by
  refine ⟨fun pins s σ H Rr I ⟨e, t, H0, p, S, q⟩ => ?_⟩
  refine (pi_range2 hg hm (pa_cons ha (pa_cons hb pa_nil hs2) hs) (hs := hs.trans (by rw [hs2]; rfl)) (hs2 := hs2)).run pins s σ H Rr I (tCons_mono2 (m_arg2 S q) fun vs G ⟨v, u, ev, d, d', e1, t1, G0, S1, x1, R1, R2, q1⟩ => ?_)
  cases d with
  | int i0 =>
    cases d' with
    | int j =>
      have R1 : v = .int i0 := R1
      have R2 : u = .int j := R2
      subst R1 R2
      have q1 : RI (tb X c) n σ H0 p Rr W (if (-4611686018427387904 ≤ i0 ∧ i0 < 4611686018427387904) ∧ (-4611686018427387904 ≤ j ∧ j < 4611686018427387904) then .ok ((List.range (j - i0).toNat).map fun k => .int (i0 + (k : Nat))) e1 t1 else .stuck) := q1
      by_cases h1 : (-4611686018427387904 ≤ i0 ∧ i0 < 4611686018427387904) ∧ (-4611686018427387904 ≤ j ∧ j < 4611686018427387904)
      · rw [if_pos h1] at q1
        refine ⟨i0, j, ev, ⟨by omega, by omega, by omega, by omega⟩, q1 _ _ _ S1 x1 (JOk.same (fun i K0 K e0 e1 hi => ?_) (fun i K0 K e0 e1 hi => ?_) fun i d K0 K x K' e0 e1 hd y => ?_)⟩
        · exact (show i < (j - i0).toNat by simpa using hi)
        · exact (show (j - i0).toNat ≤ i by simpa using hi)
        · obtain ⟨rfl, rfl⟩ := y
          refine ⟨rfl, ?_⟩
          have hi := get_lt hd
          rw [List.getElem?_map, List.getElem?_range (by simpa using hi)] at hd
          cases hd
          exact rfl
      · rw [if_neg h1] at q1; exact q1.elim
    | _ => exact q1.elim
  | _ => cases d' <;> exact q1.elim
theorem enumD_get : ∀ (xs : List D) (n i : Nat), (enumD n xs)[i]? = (xs[i]?).map fun x => D.tup [.int (n + i : Nat), x]
  | [], n, i => by simp [enumD]
  | x :: xs, n, 0 => by simp [enumD]
  | x :: xs, n, i + 1 => by
    have := enumD_get xs (n + 1) i
    simp only [enumD, List.getElem?_cons_succ]
    rw [this]
    congr 1
    funext y
    congr 4
    omega
theorem enumD_len : ∀ (xs : List D) (n : Nat), (enumD n xs).length = xs.length
  | [], n => rfl
  | x :: xs, n => by simp [enumD, enumD_len xs]
theorem zipD_get : ∀ (xs ys : List D) (i : Nat), (zipD xs ys)[i]? = (xs[i]?).bind fun x => (ys[i]?).map fun y => D.tup [x, y]
  | [], ys, i => by simp [zipD]
  | x :: xs, [], i => by simp [zipD]
  | x :: xs, y :: ys, 0 => by simp [zipD]
  | x :: xs, y :: ys, i + 1 => by
    simp only [zipD, List.getElem?_cons_succ]
    exact zipD_get xs ys i
theorem zipD_len : ∀ (xs ys : List D), (zipD xs ys).length = min xs.length ys.length
  | [], ys => by simp [zipD]
  | x :: xs, [] => by simp [zipD]
  | x :: xs, y :: ys => by simp only [zipD, List.length_cons, zipD_len xs ys]; omega
/-- a new pair is laid -/
theorem pair_grow {H0 H : Hp} {T : Addr} {x y : V} {d1 d2 : D} (s : Ext H0 H) (ha : H T = none) (R1 : Rep (tb X c) H0 d1 x) (R2 : Rep (tb X c) H0 d2 y) : ∃ H0', Grow H0 H H0' (upd H T (.tup [x, y])) ∧ Rep (tb X c) H0' (.tup [d1, d2]) (.ref T) := by
  obtain ⟨g, x1⟩ := Grow.tup (o := .tup [x, y]) s ha
  exact ⟨_, g, T, [x, y], rfl, SqT.of upd_same, _, _, rfl, R1.ext x1, _, _, rfl, R2.ext x1, rfl⟩
/-- for i, x in enumerate(e) -/
theorem it_enum {elts : List Expr} {kk : Nat} {tpos : Pos} {a : Expr} {ma : ME} {p pos : Pos} (hg : Gl X "enumerate") (hm : X.mg "enumerate" = none) (ha : PM X c n W a ma) (hs : starEach [a] X.env = [(false, eval a X.env)]) : PIt X c n W (.Tuple elts kk tpos) (.Call (.Name "enumerate" p) [a] [] pos) (iEnum ma) := by
  refine ⟨fun pins s σ H Rr I ⟨e, t, H0, p, S, q⟩ => ?_⟩
  refine Call_ (ld_blt I hg hm boot_enumerate (PyProof.Rows.callWith_type1 (thn ((pa_cons ha pa_nil hs).run pos pins s σ H _ I (m_arg1 S q)) fun us s1 ⟨vs, H1, I1, r1, v, ev, d, e1, t1, G0, S1, x1, R1, q1⟩ => ?_) hs rfl))
  subst ev
  obtain ⟨u, rfl, ru⟩ := vals1 r1
  cases hd : seqR d with
  | none =>
    have q1 : RI (tb X c) n σ H0 p Rr W (match seqR d with | some xs => .ok (enumD 0 xs) e1 t1 | none => .stuck) := q1
    rw [hd] at q1; exact q1.elim
  | some xs =>
    have q1 : RI (tb X c) n σ H0 p Rr W (match seqR d with | some xs => .ok (enumD 0 xs) e1 t1 | none => .stuck) := q1
    rw [hd] at q1
    obtain ⟨a, o, IT, vs, Con, rfl, Sr, hC, R⟩ := src_rep hd R1
    obtain rfl : u = Value.ref a := ru
    obtain ⟨There, us, rv, th, B, ⟨hal, _⟩, _, _⟩ := Sr.has X rfl rfl rfl pins σ H1 s1 I1 (Sr.ext _ _ hC S1.sub)
    refine enum1 B th fun h' he hit hsz hk => wpAny_pyIter_enum he ?_
    have I2 : Inv X pins σ H1 { s1 with heap := h' } := I1.kept (t' := s1.toks) hk
    refine ⟨s1.heap.objs.size + 1, [s1.heap.objs.size + 1, s1.heap.objs.size], _, _, H1, rfl, I2, turn_enumS Sr (s1.heap.objs.size + 1) s1.heap.objs.size, ⟨⟨.none, he⟩, Sr.st _ _ hit, Nat.succ_ne_self _, Nat.ne_of_lt hal, Nat.ne_of_lt (Nat.lt_succ_of_lt hal), Nat.zero_le _⟩, fun b hb => ?_, ?_⟩
    · have e' : b = s1.heap.objs.size + 1 ∨ b = s1.heap.objs.size := by simpa using hb
      have hle : s1.heap.objs.size ≤ b := by
        rcases e' with z | z
        · rw [z]; exact Nat.le_add_right _ _
        · rw [z]; exact Nat.le_refl _
      exact I1.fpOk hle (I1.hok.fresh hle)
    · refine q1 _ _ _ S1 x1 ⟨fun i K0 K e0 e1 hi => ?_, fun i K0 K e0 e1 hi => ?_, fun i d K0 K x K' e0 e1 hd y => ?_⟩
      · exact ⟨Sr.ext _ _ hC (e0.trans e1), by rw [← R.length]; rw [enumD_len] at hi; exact hi⟩
      · exact ⟨Sr.ext _ _ hC (e0.trans e1), by rw [← R.length]; rw [enumD_len] at hi; exact hi⟩
      · obtain ⟨T, y, rfl, hT, rfl, hy⟩ := y
        rw [enumD_get] at hd
        obtain ⟨z, hz, rfl⟩ := Option.map_eq_some_iff.mp hd
        obtain ⟨y', hy', Ry⟩ := (R.ext e0).get hz
        rw [hy] at hy'
        cases hy'
        rw [Nat.zero_add]
        exact pair_grow e1 hT rfl Ry
/-- the new cells of a zip lie apart -/
theorem zip_sep {N a b : Nat} (ha : a < N) (hb : b < N) : ZipSep2 (N + 4) (N + 2) (N + 3) N (N + 1) [N, a] [N + 1, b] := by
  constructor
  all_goals first
    | (intro h; exact absurd (show @Eq Nat _ _ from h) (by omega))
    | (exact List.mem_cons_self)
    | (intro h
       have h := List.mem_cons.mp h
       rcases h with h | h
       · exact absurd (show @Eq Nat _ _ from h) (by omega)
       · have h := List.mem_singleton.mp h
         exact absurd (show @Eq Nat _ _ from h) (by omega))
/-- for x, y in zip(a, b) -/
theorem it_zip {elts : List Expr} {kk : Nat} {tpos : Pos} {a b : Expr} {ma mb : ME} {p pos : Pos} (hg : Gl X "zip") (hm : X.mg "zip" = none) (ha : PM X c n W a ma) (hb : PM X c n W b mb) (hs : starEach [a, b] X.env = (false, eval a X.env) :: starEach [b] X.env) (hs2 : starEach [b] X.env = (false, eval b X.env) :: starEach [] X.env)
    (hpl : (backTo pos (starEach [b] X.env)).any (·.1) = false) : PIt X c n W (.Tuple elts kk tpos) (.Call (.Name "zip" p) [a, b] [] pos) (iZip ma mb) := by
  refine ⟨fun pins s σ H Rr I ⟨e, t, H0, p, S, q⟩ => ?_⟩
  refine Call_ (ld_blt I hg hm PyProof.Rows.boot_zip (PyProof.Rows.callWith_type1 (thn ((pa_cons ha (pa_cons hb pa_nil hs2) hs).run pos pins s σ H _ I (m_arg2 S q)) fun us s1 ⟨vs, H1, I1, r1, v, v2, ev, d, d2, e1, t1, G0, S1, x1, R1, R2, q1⟩ => ?_) hs hpl))
  subst ev
  obtain ⟨u, u2, rfl, ru, ru2⟩ := vals2 r1
  have q1 : RI (tb X c) n σ H0 p Rr W (match seqR d, seqR d2 with | some xs, some ys => .ok (zipD xs ys) e1 t1 | _, _ => .stuck) := q1
  cases hd : seqR d with
  | none => rw [hd] at q1; exact q1.elim
  | some xs =>
    cases hd2 : seqR d2 with
    | none => rw [hd, hd2] at q1; exact q1.elim
    | some ys =>
      rw [hd, hd2] at q1
      obtain ⟨a, o, IT, vs, Con, rfl, Sr, hC, R⟩ := src_rep hd R1
      obtain ⟨a2, o2, IT2, vs2, Con2, rfl, Sr2, hC2, R'⟩ := src_rep hd2 R2
      obtain rfl : u = Value.ref a := ru
      obtain rfl : u2 = Value.ref a2 := ru2
      obtain ⟨There, us, rv, th, B, ⟨hal, _⟩, _, _⟩ := Sr.has X rfl rfl rfl pins σ H1 s1 I1 (Sr.ext _ _ hC S1.sub)
      obtain ⟨There2, us2, rv2, th2, B2, ⟨hal2, _⟩, _, _⟩ := Sr2.has X rfl rfl rfl pins σ H1 s1 I1 (Sr2.ext _ _ hC2 S1.sub)
      refine zip_begins2 B B2 th th2 fun h' hz hTI hTO h1 h2 hsz hk => wpAny_pyIter_zip hz ?_
      have I2 : Inv X pins σ H1 { s1 with heap := h' } := I1.kept (t' := s1.toks) hk
      refine ⟨s1.heap.objs.size + 4, [s1.heap.objs.size + 4, s1.heap.objs.size + 2, s1.heap.objs.size + 3, s1.heap.objs.size, s1.heap.objs.size + 1], _, _, H1, rfl, I2, turn_zipS Sr Sr2 (zip_sep hal hal2) (Nat.ne_of_lt hal) (Nat.ne_of_lt (Nat.lt_succ_of_lt hal2)), ⟨hz, hTI, ⟨_, _, hTO⟩, Sr.st _ _ h1, Sr2.st _ _ h2, Nat.zero_le _, Nat.zero_le _⟩, fun c hcm => ?_, ?_⟩
      · have e' : c = s1.heap.objs.size + 4 ∨ c = s1.heap.objs.size + 2 ∨ c = s1.heap.objs.size + 3 ∨ c = s1.heap.objs.size ∨ c = s1.heap.objs.size + 1 := by simpa using hcm
        have hle : s1.heap.objs.size ≤ c := by
          have e' : @Eq Nat c (s1.heap.objs.size + 4) ∨ @Eq Nat c (s1.heap.objs.size + 2) ∨ @Eq Nat c (s1.heap.objs.size + 3) ∨ @Eq Nat c s1.heap.objs.size ∨ @Eq Nat c (s1.heap.objs.size + 1) := e'
          rcases e' with z | z | z | z | z <;> rw [z] <;> first | exact Nat.le_refl _ | exact Nat.le_add_right _ _
        exact I1.fpOk hle (I1.hok.fresh hle)
      · refine q1 _ _ _ S1 x1 ⟨fun i K0 K e0 e1 hi => ?_, fun i K0 K e0 e1 hi => ?_, fun i d K0 K x K' e0 e1 hd y => ?_⟩
        · rw [zipD_len] at hi
          exact ⟨⟨Sr.ext _ _ hC (e0.trans e1), Sr2.ext _ _ hC2 (e0.trans e1)⟩, by rw [← R.length]; omega, by rw [← R'.length]; omega⟩
        · rw [zipD_len] at hi
          exact ⟨⟨Sr.ext _ _ hC (e0.trans e1), Sr2.ext _ _ hC2 (e0.trans e1)⟩, by rw [← R.length, ← R'.length]; omega⟩
        · obtain ⟨T, y1, y2, rfl, hT, rfl, hy1, hy2⟩ := y
          rw [zipD_get] at hd
          obtain ⟨z1, hz1, hd⟩ := Option.bind_eq_some_iff.mp hd
          obtain ⟨z2, hz2, rfl⟩ := Option.map_eq_some_iff.mp hd
          obtain ⟨y', hy', Ry1⟩ := (R.ext e0).get hz1
          rw [hy1] at hy'
          cases hy'
          obtain ⟨y', hy', Ry2⟩ := (R'.ext e0).get hz2
          rw [hy2] at hy'
          cases hy'
          exact pair_grow e1 hT Ry1 Ry2
end
end DI
set_option linter.all false
set_option Elab.async false
set_option maxRecDepth 100000
set_option maxHeartbeats 4000000
/-! DSt: nothing that is followed is let go: found by instances. -/
namespace DI
open PySem PySem.Spec PyProof.Rows L2
/-- from t to t' the followed thing stays there, or stays away -/
abbrev Sd (t t' : D) : Prop := t' = .non ↔ t = .non
def SdR {α : Type} (t : D) : R α → Prop
  | .ok _ _ t' => Sd t t'
  | _ => True
class St1 (m : ME) : Prop where
  st : ∀ e t, SdR t (m e t)
class StA (m : ML) : Prop where
  st : ∀ e t, SdR t (m e t)
class StAs (ms : List ME) : Prop where
  st : ∀ e t, SdR t (mArgs ms e t)
class StM (m : MS) : Prop where
  st : ∀ e t, OKt t (m e t)
theorem SdR.bind {α β : Type} {t : D} {x : R α} {f : α → Env → D → R β} (h : SdR t x) (k : ∀ a e t', SdR t' (f a e t')) : SdR t (x.bind f) := by
  cases x with
  | ok a e t' =>
    have h : Sd t t' := h
    show SdR t (f a e t')
    have := k a e t'
    cases hf : f a e t' with
    | ok b e2 t2 => rw [hf] at this; exact Iff.trans this h
    | err _ _ => trivial
    | stuck => trivial
  | err _ _ => trivial
  | stuck => trivial
theorem SdR.of {α : Type} {t : D} {e : Env} (x : Option α) : SdR t (R.of x e t) := by
  cases x with
  | none => trivial
  | some a => exact Iff.rfl
theorem SdR.asB {t : D} {x : R D} (h : SdR t x) : SdR t (asB x) := h.bind fun d e t' => by cases d <;> first | exact Iff.rfl | trivial
theorem SdR.pure {t : D} {e : Env} (x : Out) : SdR t (pureOut x e t) := by
  cases x with
  | ok d t' => exact Iff.rfl
  | err _ _ => trivial
  | stuck => trivial
theorem SdR.toE {m : ME} (h : ∀ e t, SdR t (m e t)) : StE m := fun e t d e' t' hm => by
  have := h e t
  rw [hm] at this
  exact this
theorem SdR.toL {m : ML} (h : ∀ e t, SdR t (m e t)) : StL m := fun e t d e' t' hm => by
  have := h e t
  rw [hm] at this
  exact this
theorem SdR.ok {t : D} {x : R Flow} (h : SdR t x) : OKt t x := by
  cases x with
  | ok f e t' =>
    have h : Sd t t' := h
    exact fun z y => z (h.mp y)
  | err _ _ => trivial
  | stuck => trivial
section
variable {a b x : ME} [St1 a] [St1 b] [St1 x] {i : Nat}
instance : St1 (mVar i) := ⟨fun e t => by
  unfold mVar
  split
  · exact Iff.rfl
  · exact Iff.rfl
  · trivial⟩
instance : St1 (mPeek i) := ⟨fun e t => by
  unfold mPeek
  split
  · exact Iff.rfl
  · exact Iff.rfl
  · trivial⟩
instance {d : D} : St1 (mConst d) := ⟨fun e t => Iff.rfl⟩
instance {p : D → Option D} : St1 (m1 p a) := ⟨fun e t => (St1.st e t).bind fun d e t => .of _⟩
instance {p : D → D → Option D} : St1 (m2 p a b) := ⟨fun e t => (St1.st e t).bind fun d e t => (St1.st e t).bind fun d e t => .of _⟩
instance : StAs [] := ⟨fun e t => Iff.rfl⟩
instance {r : List ME} [StAs r] : StAs (a :: r) := ⟨fun e t => (St1.st (m := a) e t).bind fun d e t => (StAs.st (ms := r) e t).bind fun d e t => Iff.rfl⟩
variable {ms : List ME} [StAs ms]
instance {p : List D → Option D} : St1 (mN p ms) := ⟨fun e t => (StAs.st e t).bind fun d e t => .of _⟩
instance : St1 (mAnd a b) := ⟨fun e t => (St1.st (m := a) e t).asB.bind fun d e t => by
  cases d with
  | true => exact (St1.st (m := b) e t).asB.bind fun d e t => Iff.rfl
  | false => exact Iff.rfl⟩
instance : St1 (mOr a b) := ⟨fun e t => (St1.st (m := a) e t).asB.bind fun d e t => by
  cases d with
  | false => exact (St1.st (m := b) e t).asB.bind fun d e t => Iff.rfl
  | true => exact Iff.rfl⟩
instance : St1 (mNot a) := ⟨fun e t => (St1.st (m := a) e t).asB.bind fun d e t => Iff.rfl⟩
instance : St1 (mIf x a b) := ⟨fun e t => (St1.st (m := x) e t).asB.bind fun d e t => by
  cases d with
  | true => exact St1.st (m := a) e t
  | false => exact St1.st (m := b) e t⟩
instance {p q : D → D → Option D} : St1 (mChain p q a b x) := ⟨fun e t => (St1.st (m := a) e t).bind fun d e t => (St1.st (m := b) e t).bind fun d' e t => (SdR.of (p d d')).asB.bind fun k e t => by
  cases k with
  | true => exact (St1.st (m := x) e t).bind fun d e t => .of _
  | false => exact Iff.rfl⟩
instance {f : Fn} : St1 (mCall f ms) := ⟨fun e t => (StAs.st e t).bind fun d e t => .pure _⟩
instance {c : Nat} {f : Fn} : St1 (mNew c f ms) := ⟨fun e t => (StAs.st e t).bind fun d e t => .pure _⟩
instance {ks : List (Nat × AttrK)} : St1 (mAttr ks a) := ⟨fun e t => (St1.st (m := a) e t).bind fun d e t => by
  cases d with
  | obj c fs =>
    try dsimp only
    split
    · exact .of _
    · split
      · exact Iff.rfl
      · trivial
    · trivial
  | _ => trivial⟩
instance {ks : List (Nat × AttrK)} : St1 (mAttrT i ks) := ⟨fun e t => by
  unfold mAttrT
  split
  · split
    · split
      · exact .of _
      · trivial
      · trivial
    · trivial
  · trivial⟩
instance {ks : List (Nat × Fn)} : St1 (mMeth ks a ms) := ⟨fun e t => (St1.st (m := a) e t).bind fun d e t => by
  cases d with
  | obj c fs =>
    try dsimp only
    split
    · exact (StAs.st e t).bind fun d e t => .pure _
    · trivial
  | _ => trivial⟩
theorem SdR.outT {t : D} {e : Env} {x : Out} (h : t ≠ .non) : SdR t (R.outT x e) := by
  cases x with
  | ok d t' =>
    cases t' with
    | non => trivial
    | _ => exact Iff.intro (fun z => nomatch z) (fun z => absurd z h)
  | err _ _ => trivial
  | stuck => trivial
instance {ks : List (Nat × Fn)} : St1 (mMethT i ks ms) := ⟨fun e t => by
  unfold mMethT
  split
  · cases t with
    | obj c fs =>
      try dsimp only
      split
      · refine (StAs.st (ms := ms) e (.obj c fs)).bind fun d e t => ?_
        cases t with
        | obj c' fs' =>
          try dsimp only
          split
          · exact .outT (fun z => nomatch z)
          · trivial
        | _ => trivial
      · trivial
    | _ => trivial
  · trivial⟩
instance {ks : List (Nat × Fn)} : St1 (mEq ks a b) := ⟨fun e t => (St1.st (m := a) e t).bind fun d e t => (St1.st (m := b) e t).bind fun d' e t => .pure _⟩
instance {ks : List (Nat × Fn)} : St1 (mNe ks a b) := ⟨fun e t => (St1.st (m := a) e t).bind fun d e t => (St1.st (m := b) e t).bind fun d' e t => (SdR.pure _).asB.bind fun k e t => Iff.rfl⟩
instance : St1 (mTup ms) := ⟨fun e t => (StAs.st e t).bind fun d e t => Iff.rfl⟩
instance : St1 (mLst ms) := ⟨fun e t => (StAs.st e t).bind fun d e t => Iff.rfl⟩
class StPart (m : Option ME) : Prop where
  st : ∀ e t, SdR t (mPart m e t)
instance : StPart none := ⟨fun e t => Iff.rfl⟩
instance : StPart (some a) := ⟨fun e t => (St1.st (m := a) e t).bind fun d e t => by cases d <;> first | exact Iff.rfl | trivial⟩
instance {lo hi : Option ME} [StPart lo] [StPart hi] : St1 (mSlice a lo hi) := ⟨fun e t => (St1.st (m := a) e t).bind fun d e t => (StPart.st e t).bind fun d e t => (StPart.st e t).bind fun d e t => .of _⟩
instance : StA (iSeq a) := ⟨fun e t => (St1.st (m := a) e t).bind fun d e t => .of _⟩
instance : StA (iZip a b) := ⟨fun e t => (St1.st (m := a) e t).bind fun d e t => (St1.st (m := b) e t).bind fun d' e t => by
  try dsimp only
  split
  · exact Iff.rfl
  · trivial⟩
instance : StA (iEnum a) := ⟨fun e t => (St1.st (m := a) e t).bind fun d e t => by
  try dsimp only
  split
  · exact Iff.rfl
  · trivial⟩
instance : StA (iRange a) := ⟨fun e t => (St1.st (m := a) e t).bind fun d e t => by
  try dsimp only
  split
  · split
    · split
      · exact Iff.rfl
      · trivial
    · trivial
  · trivial⟩
instance : StA (iRange2 a b) := ⟨fun e t => (St1.st (m := a) e t).bind fun d e t => (St1.st (m := b) e t).bind fun d' e t => by
  try dsimp only
  split
  · split
    · exact Iff.rfl
    · trivial
  · trivial⟩
/-- arguments, the followed thing among them -/
class StAo (as : List Arg) : Prop where
  st : ∀ e t, SdR t (mArgsO as e t)
instance : StAo [] := ⟨fun e t => Iff.rfl⟩
instance {r : List Arg} [StAo r] : StAo (.v a :: r) := ⟨fun e t => (St1.st (m := a) e t).bind fun d e t => (StAo.st (as := r) e t).bind fun d e t => Iff.rfl⟩
instance {r : List Arg} [StAo r] : StAo (.t i :: r) := ⟨fun e t => by
  show SdR t (match e[i]? with | some .trk => (mArgsO r e t).bind fun ds e t => .ok (D.trk :: ds) e t | _ => .stuck)
  split
  · exact (StAo.st (as := r) e t).bind fun d e t => Iff.rfl
  · trivial⟩
instance {f : Fn} {as : List Arg} [StAo as] : St1 (mCallT f as) := ⟨fun e t => (StAo.st (as := as) e t).bind fun d e t => by
  cases t with
  | non => trivial
  | _ => exact .outT (fun z => nomatch z)⟩
/-- a test of a comprehension -/
class StI (m : Option ME) : Prop where
  st : ∀ m', m = some m' → St1 m'
instance : StI none := ⟨fun _ h => nomatch h⟩
instance : StI (some a) := ⟨fun _ h => by cases h; infer_instance⟩
theorem loop_sd {α : Type} {g : Tgt} {c : Option ME} [StI c] {k : α → Env → D → R α} (hk : ∀ a e t, SdR t (k a e t)) (e : Env) : ∀ (ds : List D) (a : α) (t : D), SdR t (compLoop g c k e ds a t)
  | [], a, t => Iff.rfl
  | d :: r, a, t => by
    have h : SdR t (compTurn g c k a d e t) := by
      unfold compTurn
      split
      · trivial
      · unfold compIf
        cases c with
        | none => exact hk _ _ _
        | some m =>
          have := StI.st (m := some m) m rfl
          exact (St1.st (m := m) _ t).asB.bind fun b e2 t2 => by
            cases b with
            | true => exact hk _ _ _
            | false => exact Iff.rfl
    show SdR t ((compTurn g c k a d e t).only fun a t => compLoop g c k e r a t)
    cases hx : compTurn g c k a d e t with
    | ok a2 e2 t2 =>
      rw [hx] at h
      have h : Sd t t2 := h
      have ih := loop_sd (g := g) (c := c) hk e r a2 t2
      show SdR t (compLoop g c k e r a2 t2)
      cases hy : compLoop g c k e r a2 t2 with
      | ok a3 e3 t3 => rw [hy] at ih; exact Iff.trans ih h
      | err _ _ => trivial
      | stuck => trivial
    | err _ _ => trivial
    | stuck => trivial
theorem SdR.only {α β : Type} {t : D} {x : R α} {f : α → D → R β} (h : SdR t x) (k : ∀ a t', SdR t' (f a t')) : SdR t (x.only f) := by
  cases x with
  | ok a e t' =>
    have h : Sd t t' := h
    show SdR t (f a t')
    have := k a t'
    cases hf : f a t' with
    | ok b e2 t2 => rw [hf] at this; exact Iff.trans this h
    | err _ _ => trivial
    | stuck => trivial
  | err _ _ => trivial
  | stuck => trivial
theorem push_sd (acc : List D) (e : Env) (t : D) : SdR t (pushL a acc e t) := (St1.st (m := a) e t).bind fun d e t => by
  try dsimp only
  split
  · exact Iff.rfl
  · trivial
instance {vs : List Nat} {it : ML} [StA it] {g : Tgt} {c : Option ME} [StI c] : St1 (mComp vs it g c a) := ⟨fun e t => (StA.st (m := it) e t).bind fun ds e1 t1 => (loop_sd push_sd _ ds [] t1).only fun acc t2 => Iff.rfl⟩
theorem pushK_sd (acc : List (D × D)) (e : Env) (t : D) : SdR t (pushK a b acc e t) := (St1.st (m := a) e t).bind fun d e t => (St1.st (m := b) e t).bind fun d' e t => by
  try dsimp only
  split
  · exact Iff.rfl
  · trivial
instance {vs : List Nat} {it : ML} [StA it] {g : Tgt} {c : Option ME} [StI c] : St1 (mDComp vs it g c a b) := ⟨fun e t => (StA.st (m := it) e t).bind fun ds e1 t1 => (loop_sd pushK_sd _ ds [] t1).only fun acc t2 => Iff.rfl⟩
instance {vs vs1 : List Nat} {it it1 : ML} [StA it] [StA it1] {g g1 : Tgt} {c c1 : Option ME} [StI c] [StI c1] : St1 (mComp2 vs vs1 it g c it1 g1 c1 a) :=
  ⟨fun e t => (StA.st (m := it) e t).bind fun ds e1 t1 => (loop_sd (fun acc e t => (StA.st (m := it1) e t).bind fun ds1 e1 t1 => loop_sd push_sd _ ds1 acc t1) _ ds [] t1).only fun acc t2 => Iff.rfl⟩
/-- what stands in a dict display -/
class StP (as : List (ME × ME)) : Prop where
  st : ∀ e t, SdR t (mPairs as e t)
instance : StP [] := ⟨fun e t => Iff.rfl⟩
instance {r : List (ME × ME)} [StP r] : StP ((a, b) :: r) := ⟨fun e t => (St1.st (m := a) e t).bind fun d e t => (St1.st (m := b) e t).bind fun d' e t => (StP.st (as := r) e t).bind fun ps e t => by
  try dsimp only
  split
  · exact Iff.rfl
  · trivial⟩
instance {as : List (ME × ME)} [StP as] : St1 (mDic as) := ⟨fun e t => (StP.st (as := as) (hideE e) t).only fun kvs t2 => Iff.rfl⟩
/-! ### statements -/
instance : StM sPass := ⟨fun e t => fun h => h⟩
theorem OKt.bind {α : Type} {t : D} {x : R α} {f : α → Env → D → R Flow} (h : SdR t x) (k : ∀ a e t', OKt t' (f a e t')) : OKt t (x.bind f) := by
  cases x with
  | ok a e t' =>
    have h : Sd t t' := h
    show OKt t (f a e t')
    have := k a e t'
    cases hf : f a e t' with
    | ok b e2 t2 => rw [hf] at this; exact fun z => this fun y => z (h.mp y)
    | err _ _ => trivial
    | stuck => trivial
  | err _ _ => trivial
  | stuck => trivial
theorem OKt.bindS {t : D} {x : R Flow} {f : Flow → Env → D → R Flow} (h : OKt t x) (k : ∀ a e t', OKt t' (f a e t')) : OKt t (x.bind f) := by
  cases x with
  | ok a e t' =>
    have h : t ≠ .non → t' ≠ .non := h
    show OKt t (f a e t')
    have := k a e t'
    cases hf : f a e t' with
    | ok b e2 t2 => rw [hf] at this; exact fun z => this (h z)
    | err _ _ => trivial
    | stuck => trivial
  | err _ _ => trivial
  | stuck => trivial
variable {p q : MS} [StM p] [StM q]
instance : StM (sSeq p q) := ⟨fun e t => (StM.st (m := p) e t).bindS fun f e t => by
  cases f with
  | next => exact StM.st (m := q) e t
  | ret d => exact fun h => h⟩
instance : StM (sExpr a) := ⟨fun e t => OKt.bind (St1.st (m := a) e t) fun d e t => fun h => h⟩
instance : StM (sRet a) := ⟨fun e t => OKt.bind (St1.st (m := a) e t) fun d e t => fun h => h⟩
instance : StM (sSet i a) := ⟨fun e t => OKt.bind (St1.st (m := a) e t) fun d e t => fun h => h⟩
instance : StM (sOwn i a) := ⟨fun e t => OKt.bind (St1.st (m := a) e t) fun d e t => fun h => h⟩
instance {g : Tgt} : StM (sPut g a) := ⟨fun e t => OKt.bind (St1.st (m := a) e t) fun d e t => by
  try dsimp only
  split
  · exact fun h => h
  · trivial⟩
instance {ks : List (Nat × Nat)} : StM (sFld i ks a) := ⟨fun e t => OKt.bind (St1.st (m := a) e t) fun d e t => by
  try dsimp only
  split
  · split
    · split
      · exact fun _ z => nomatch z
      · split
        · exact fun _ z => nomatch z
        · trivial
    · trivial
  · trivial⟩
instance : StM (sApp i a) := ⟨fun e t => by
  unfold sApp
  split
  · exact OKt.bind (St1.st (m := a) e t) fun d e t => by
      try dsimp only
      split
      · split
        · exact fun h => h
        · trivial
      · trivial
  · trivial⟩
instance : StM (sExt i a) := ⟨fun e t => by
  unfold sExt
  split
  · exact OKt.bind (St1.st (m := a) e t) fun d e t => by
      try dsimp only
      split
      · split
        · exact fun h => h
        · trivial
      · trivial
  · trivial⟩
instance : StM (sStore i a b) := ⟨fun e t => OKt.bind (St1.st (m := b) e t) fun d e t => by
  try dsimp only
  split
  · exact OKt.bind (St1.st (m := a) e t) fun d e t => by
      try dsimp only
      split
      · split
        · exact fun h => h
        · trivial
      · trivial
  · trivial⟩
instance : StM (sIf x p q) := ⟨fun e t => OKt.bind (St1.st (m := x) e t).asB fun b e t => by
  cases b with
  | true => exact StM.st (m := p) e t
  | false => exact StM.st (m := q) e t⟩
theorem for_ok {g : Tgt} : ∀ (ds : List D) (e : Env) (t : D), OKt t (forLoop g p ds e t)
  | [], e, t => fun h => h
  | d :: r, e, t => by
    show OKt t (match g.put d e with | none => .stuck | some e => (p e t).bind fun f e t => match f with | .next => forLoop g p r e t | .ret d => .ok (.ret d) e t)
    split
    · trivial
    · exact (StM.st (m := p) _ t).bindS fun f e t => by
        cases f with
        | next => exact for_ok r e t
        | ret d => exact fun h => h
instance {g : Tgt} {it : ML} [StA it] : StM (sFor g it p) := ⟨fun e t => OKt.bind (StA.st (m := it) e t) fun ds e t => for_ok ds e t⟩
instance {c : Nat} : StM (sRaise c ms) := ⟨fun e t => by
  show OKt t ((mArgs ms e t).bind fun ds _ _ => .err c ds)
  cases mArgs ms e t <;> trivial⟩
instance : StM (sTrk i a) := ⟨fun e t => by
  unfold sTrk
  split
  · cases a e .non with
    | ok d e t => cases t <;> first | exact fun h => absurd rfl h | trivial
    | err _ _ => trivial
    | stuck => trivial
  · trivial⟩
end
end DI
set_option linter.all false
set_option Elab.async false
set_option maxRecDepth 100000
set_option maxHeartbeats 4000000
/-! DSnd12: fields, changes in place, raise. -/
namespace DI
open PySem PySem.Spec PyProof.Rows L2
section
variable {X : Cx} {c : CT} {n : Ent} {W : XW} {k : Nat}
/-- the owned thing at slot i changes -/
theorem SI.mut {T : Tb} {e : Env} {t d d' : D} {σ : L2.St} {H0 H H' : Hp} {p a : Addr} {i : Nat} (S : SI T n e t σ H0 H p) (hi : e[i]? = some (.own d)) (hs : σ[i]? = some (some (.ref a))) (k : ∀ b, b ≠ a → H' b = H b) (o : OwnAt T H0 H' d' a) : SI T n (e.set i (.own d')) t σ H0 H' p := by
  obtain ⟨a', h1, h2, h3, h4, h5⟩ := S.slot i _ hi
  rw [hs] at h1
  cases h1
  have hil : i < e.length := (List.getElem?_eq_some_iff.mp hi).1
  refine ⟨⟨fun b u hb => ?_, fun b u z1 z2 => ?_, S.low0, S.ext0⟩, fun j s h => ?_, fun j m dj dm b z1 z2 z3 z4 => ?_, fun ht => ?_, S.tpq, by rw [List.length_set]; exact S.len⟩
  · rw [k b (by rintro rfl; rw [h4] at hb; cases hb)]; exact S.sub _ _ hb
  · rw [k b (by rintro rfl; rw [h3] at z1; cases z1)]; exact S.low b u z1 z2
  · by_cases hj : i = j
    · subst hj
      rw [getElem?_set_self' hil] at h
      cases h
      exact ⟨a, hs, o, h3, h4, h5⟩
    · rw [List.getElem?_set_ne hj] at h
      have q := S.slot j s h
      cases s with
      | none => trivial
      | val d => exact q
      | own dj =>
        obtain ⟨b, y1, y2, y3, y4, y5⟩ := q
        have hb : b ≠ a := by rintro rfl; exact hj (S.sep i j d dj b hi h hs y1)
        exact ⟨b, y1, y2.ext Ext.rfl' fun _ z => by rw [k b hb]; exact z, y3, y4, y5⟩
      | trk => exact q
  · have own : ∀ (j : Nat) (dj : D), (e.set i (.own d'))[j]? = some (.own dj) → ∃ d0, e[j]? = some (.own d0) := fun j dj h => by
      by_cases hj : i = j
      · subst hj; exact ⟨d, hi⟩
      · rw [List.getElem?_set_ne hj] at h; exact ⟨dj, h⟩
    obtain ⟨_, w1⟩ := own j dj z1
    obtain ⟨_, w2⟩ := own m dm z2
    exact S.sep j m _ _ b w1 w2 z3 z4
  · obtain ⟨y1, y2, y3⟩ := S.trk ht
    have hb : p ≠ a := fun z => h5 ht z.symm
    exact ⟨y1.ext Ext.rfl' fun _ z => by rw [k p hb]; exact z, y2, y3⟩
/-- the followed thing changes -/
theorem SI.trkMut {T : Tb} {e : Env} {t t' : D} {σ : L2.St} {H0 H H' : Hp} {p : Addr} (S : SI T n e t σ H0 H p) (ht : t ≠ .non) (ht' : t' ≠ .non) (k : ∀ b, b ≠ p → H' b = H b) (o : OwnAt T H0 H' t' p) : SI T n e t' σ H0 H' p := by
  obtain ⟨y1, y2, y3⟩ := S.trk ht
  refine ⟨⟨fun b u hb => ?_, fun b u z1 z2 => ?_, S.low0, S.ext0⟩, fun j s h => ?_, S.sep, fun _ => ⟨o, y2, y3⟩, fun q hq => ⟨(S.tpq q hq).1, ht'⟩, S.len⟩
  · rw [k b (by rintro rfl; rw [y2] at hb; cases hb)]; exact S.sub _ _ hb
  · have hb : b ≠ p := by
      rintro rfl
      rcases y3 with y3 | y3
      · exact z2 y3
      · rw [y3] at z1; cases z1
    rw [k b hb]; exact S.low b u z1 z2
  · have q := S.slot j s h
    cases s with
    | none => trivial
    | val d => exact q
    | own dj =>
      obtain ⟨b, w1, w2, w3, w4, w5⟩ := q
      have hb : b ≠ p := w5 ht
      exact ⟨b, w1, w2.ext Ext.rfl' fun _ z => by rw [k b hb]; exact z, w3, w4, fun _ => hb⟩
    | trk => exact ⟨q.1, ht'⟩
theorem putK_cons {j kk : Key} {w v : V} {r : List (Key × V)} : putK ((j, w) :: r) kk v = if j = kk then (j, v) :: (r.map fun kv => if kv.1 = kk then (kv.1, v) else kv) else (j, w) :: putK r kk v := by
  unfold putK
  by_cases h : j = kk
  · subst h; simp
  · simp only [List.any_cons, List.map_cons, h, decide_false, Bool.false_or, if_false]
    split <;> rfl
theorem map_noop {kk : Key} {v : V} : ∀ {r : List (Key × V)}, kk ∉ r.map (·.1) → (r.map fun kv => if kv.1 = kk then (kv.1, v) else kv) = r
  | [], _ => rfl
  | q :: r, h => by
    have h1 : q.1 ≠ kk := fun z => h (z ▸ List.mem_cons_self)
    rw [List.map_cons, if_neg h1, map_noop fun z => h (List.mem_cons_of_mem _ z)]
theorem RepK.put {T : Tb} {H : Hp} {kk : Key} {d : D} {v : V} (R : Rep T H d v) : ∀ {kvs : List (D × D)} {kv : List (Key × V)}, RepK T H kvs kv → (kv.map (·.1)).Nodup → RepK T H (dput (keyD kk) d kvs) (putK kv kk v)
  | [], kv, h, _ => by
    have h : kv = [] := h
    subst h
    exact ⟨(kk, v), [], rfl, ⟨rfl, R⟩, rfl⟩
  | (j, d0) :: kvs, kv, h, nd => by
    obtain ⟨⟨j', w⟩, r, rfl, ⟨e1, h2⟩, h3⟩ := h
    have e1 : j = keyD j' := e1
    subst e1
    have nd' : j' ∉ r.map (·.1) ∧ (r.map (·.1)).Nodup := List.nodup_cons.mp nd
    rw [putK_cons]
    show RepK T H (if keyEq (keyD j') (keyD kk) then (keyD j', d) :: kvs else (keyD j', d0) :: dput (keyD kk) d kvs) _
    rw [keyEq_keyD]
    by_cases hj : j' = kk
    · subst hj
      rw [if_pos (by simp), if_pos rfl, map_noop nd'.1]
      exact ⟨_, _, rfl, ⟨rfl, R⟩, h3⟩
    · rw [if_neg (by simpa using hj), if_neg hj]
      exact ⟨_, _, rfl, ⟨rfl, h2⟩, RepK.put R h3 nd'.2⟩
theorem putK_nodup {kv : List (Key × V)} {kk : Key} {v : V} (nd : (kv.map (·.1)).Nodup) : ((putK kv kk v).map (·.1)).Nodup := by
  unfold putK
  split
  · rw [List.map_map]
    have : ((fun q : Key × V => q.1) ∘ fun q : Key × V => if q.1 = kk then (q.1, v) else q) = fun q => q.1 := by
      funext q
      simp only [Function.comp]
      split <;> rfl
    rw [this]
    exact nd
  · rename_i h
    rw [List.map_append, List.nodup_append]
    refine ⟨nd, by simp, fun a ha b hb => ?_⟩
    have : b = kk := by simpa using hb
    subst this
    rintro rfl
    obtain ⟨q, hq, e⟩ := List.mem_map.mp ha
    exact h (List.any_eq_true.mpr ⟨q, hq, decide_eq_true e⟩)
/-! ### self.f = v -/
structure FldH (X : Cx) (c : CT) (f : Str) (cid j : Nat) : Prop where
  cl : Cls X.K (c.ca cid)
  no : NoAttr X.K (c.ca cid) f
  at_ : (c.cf cid)[j]? = some f
  nd : (c.cf cid).Nodup
  small : (c.cf cid).length < 1000
theorem putF_has {f : Str} {v : V} : ∀ {fv : List (Str × V)} {j : Nat}, (fv.map (·.1))[j]? = some f → (fv.map (·.1)).Nodup → (putF f v fv).map (·.1) = fv.map (·.1) ∧ (putF f v fv).map (·.2) = (fv.map (·.2)).set j v
  | [], j, h, _ => by simp at h
  | (g, x) :: r, 0, h, nd => by
    have h : g = f := by simpa using h
    subst h
    unfold putF
    rw [if_pos rfl]
    exact ⟨rfl, rfl⟩
  | (g, x) :: r, j + 1, h, nd => by
    have nd' : g ∉ r.map (·.1) ∧ (r.map (·.1)).Nodup := List.nodup_cons.mp nd
    have h' : (r.map (·.1))[j]? = some f := by simpa using h
    have hne : g ≠ f := by rintro rfl; exact nd'.1 (List.mem_of_getElem? h')
    obtain ⟨h1, h2⟩ := putF_has (v := v) h' nd'.2
    unfold putF
    rw [if_neg hne]
    exact ⟨congrArg (g :: ·) h1, congrArg (x :: ·) h2⟩
theorem putF_new {f : Str} {v : V} : ∀ {fv : List (Str × V)}, f ∉ fv.map (·.1) → putF f v fv = fv ++ [(f, v)]
  | [], _ => rfl
  | (g, x) :: r, h => by
    have hne : g ≠ f := by rintro rfl; exact h List.mem_cons_self
    unfold putF
    rw [if_neg hne, putF_new fun z => h (List.mem_cons_of_mem _ z)]
    rfl
theorem s_fld {i : Nat} {x f : Str} {px pos' pos : Pos} {value : Expr} {m : ME} {ks : List (Nat × Nat)} (hk : ∀ cid j, tab cid ks = some j → FldH X c f cid j) (hv : PM X c n W value m) (hN : X.N[i]? = some x) (hvs : Vis X.env.scope x) (hd : (x == ("__debug__" : Str)) = false) (hcd : (x == ("__classdict__" : Str)) = false)
    (hs : swapsWith value (some (.Attribute (.Name x px) f pos')) pos.line X.env = pure false) : PSt X c n W (.Assign [.Attribute (.Name x px) f pos'] value pos) (sFld i ks m) := by
  refine ⟨fun pins s σ H D' I ⟨e, t, H0, p, S, q⟩ => ?_⟩
  refine (ps_fld (pe_var hN hvs hd hcd) hv hs).run pins s σ H D' I ⟨e, t, H0, p, S, ?_⟩
  have q : RS (tb X c) n H0 p t D' W ((m e t).bind fun d e t => match e[i]?, t with
    | some .trk, .obj c fs => (match tab c ks with
      | some j => if j < fs.length then .ok .next e (.obj c (fs.set j d)) else if j = fs.length then .ok .next e (.obj c (fs ++ [d])) else .stuck
      | none => .stuck)
    | _, _ => .stuck) := q
  cases hx : m e t with
  | err k fs => rw [hx] at q; exact q
  | stuck => rw [hx] at q; exact q
  | ok d e1 t1 =>
    rw [hx, R.bind_ok] at q
    intro v G0 G S1 x1 R1
    cases hi : e1[i]? with
    | none => rw [hi] at q; exact q.elim
    | some sl =>
      rw [hi] at q
      cases sl with
      | trk =>
        obtain ⟨y1, y2⟩ := S1.trkAt hi
        obtain ⟨o1, _, _⟩ := S1.trk y2
        cases t1 with
        | obj cid fs =>
          dsimp only at q
          cases ht : tab cid ks with
          | none => rw [ht] at q; exact q.elim
          | some j =>
            rw [ht] at q
            dsimp only at q
            have F := hk _ _ ht
            obtain ⟨dx, fv, h1, h2, h3⟩ := o1
            have hl : fv.length = fs.length := by rw [h3.length, List.length_map]
            have hlt : fv.length < 1000 := by
              have : (fv.map (·.1)).length ≤ (c.cf cid).length := by rw [h2, List.length_take]; exact Nat.min_le_right _ _
              rw [List.length_map] at this
              have := F.small
              omega
            refine ⟨.ref p, y1, p, _, dx, fv, rfl, h1, F.cl, F.no, hlt, ?_⟩
            by_cases hj : j < fs.length
            · rw [if_pos hj] at q
              have e1' : (fv.map (·.1))[j]? = some f := by rw [h2, List.getElem?_take_of_lt hj]; exact F.at_
              obtain ⟨p1, p2⟩ := putF_has (v := v) e1' (by rw [h2]; exact F.nd.sublist (List.take_sublist _ _))
              refine q _ _ _ _ (S1.trkMut y2 (fun z => nomatch z) (fun b hb => upd_ne hb) ⟨dx, putF f v fv, upd_same, ?_, ?_⟩) x1 fun _ => rfl
              · rw [p1, List.length_set]; exact h2
              · rw [p2]; exact Reps.set R1 j h3
            · rw [if_neg hj] at q
              by_cases hj2 : j = fs.length
              · rw [if_pos hj2] at q
                subst hj2
                have hnew : f ∉ fv.map (·.1) := by
                  rw [h2]
                  intro z
                  obtain ⟨jj, h5⟩ := List.mem_iff_getElem?.mp z
                  have hjj : jj < fs.length := by
                    have := (List.getElem?_eq_some_iff.mp h5).1
                    rw [List.length_take] at this
                    omega
                  rw [List.getElem?_take_of_lt hjj] at h5
                  have hlt : fs.length < (c.cf cid).length := (List.getElem?_eq_some_iff.mp F.at_).1
                  have := (List.getElem?_inj (by omega) F.nd).mp (h5.trans F.at_.symm)
                  omega
                refine q _ _ _ _ (S1.trkMut y2 (fun z => nomatch z) (fun b hb => upd_ne hb) ⟨dx, putF f v fv, upd_same, ?_, ?_⟩) x1 fun _ => rfl
                · rw [putF_new hnew, List.map_append, List.length_append, h2]
                  have hlt : fs.length < (c.cf cid).length := (List.getElem?_eq_some_iff.mp F.at_).1
                  rw [List.length_singleton, List.take_succ_eq_append_getElem hlt]
                  have := (List.getElem?_eq_some_iff.mp F.at_).2
                  simp [this]
                · rw [putF_new hnew, List.map_append]
                  exact h3.append (Reps.one R1)
              · rw [if_neg hj2] at q; exact q.elim
        | _ => exact q.elim
      | _ => exact q.elim

/-! ### changes in place -/
theorem s_app {i : Nat} {x : Str} {px apos cpos pos : Pos} {a : Expr} {ma : ME} (hN : X.N[i]? = some x) (hvs : Vis X.env.scope x) (hd : (x == ("__debug__" : Str)) = false) (hcd : (x == ("__classdict__" : Str)) = false) (ha : PM X c n W a ma) (hst : starEach [a] X.env = (false, eval a X.env) :: starEach [] X.env)
    (hbase : attributeBase (.Name x px) "append" X.env (eval (.Name x px) X.env) = eval (.Name x px) X.env)
    (hfew : ((backTo cpos (starEach [a] X.env)).all (fun x => !x.1) && (backToKw cpos (keywordEach [] X.env)).all (fun x => x.1.isSome) && decide (([a] : List Expr).length + ([] : List Keyword).length + (if ([] : List Keyword).isEmpty then 0 else 1) < 30)) = true)
    (hline : (apos.endLine == cpos.line) = true) (hplain : (backTo cpos (starEach [] X.env)).any (·.1) = false) (hs : swapsWith (.Call (.Attribute (.Name x px) "append" apos) [a] [] cpos) none pos.line X.env = pure false) :
    PSt X c n W (.Expr (.Call (.Attribute (.Name x px) "append" apos) [a] [] cpos) pos) (sApp i ma) := by
  refine ⟨fun pins s σ H D' I ⟨e, t, H0, p, S, q⟩ => ?_⟩
  refine (ps_expr (pe_bm PySem.F.plainAttrs_list PySem.F.slot_list_append PySem.F.type_list_append mt_append (pe_var hN hvs hd hcd) (pa_cons ha pa_nil hst) hbase hfew hline hst hplain) hs).run pins s σ H D' I ?_
  have q : RS (tb X c) n H0 p t D' W (match e[i]? with
    | some (.own (.lst _)) => (ma e t).bind fun d e t => match e[i]? with
      | some (.own (.lst xs)) => if xs.length < lim then .ok .next (e.set i (.own (.lst (xs ++ [d])))) t else .stuck
      | _ => .stuck
    | _ => .stuck) := q
  cases hi : e[i]? with
  | none => rw [hi] at q; exact q.elim
  | some sl =>
    rw [hi] at q
    cases sl with
    | own d0 =>
      cases d0 with
      | lst xs0 =>
        obtain ⟨a0, h1, ⟨vs0, h2, _⟩, _⟩ := S.slot i _ hi
        refine ⟨.ref a0, h1, .inl ⟨rfl, vs0, SqL.of h2⟩, e, t, H0, p, S, ?_⟩
        have q : RS (tb X c) n H0 p t D' W ((ma e t).bind fun d e t => match e[i]? with
          | some (.own (.lst xs)) => if xs.length < lim then .ok .next (e.set i (.own (.lst (xs ++ [d])))) t else .stuck
          | _ => .stuck) := q
        cases hx : ma e t with
        | err k fs => rw [hx] at q; exact q
        | stuck => rw [hx] at q; exact q
        | ok d e1 t1 =>
          rw [hx, R.bind_ok] at q
          intro v G0 G S1 x1 R1
          cases hi1 : e1[i]? with
          | none => rw [hi1] at q; exact q.elim
          | some sl =>
            rw [hi1] at q
            cases sl with
            | own d1 =>
              cases d1 with
              | lst xs =>
                have q : RS (tb X c) n H0 p t D' W (if xs.length < lim then .ok .next (e1.set i (.own (.lst (xs ++ [d])))) t1 else .stuck) := q
                by_cases hl : xs.length < lim
                · rw [if_pos hl] at q
                  obtain ⟨a1, y1, ⟨vs1, y2, y3⟩, _⟩ := S1.slot i _ hi1
                  rw [h1] at y1
                  cases y1
                  exact ⟨a0, vs1, v, rfl, rfl, y2, by rw [← y3.length, ← lim_eq]; exact hl, q _ _ _ _ (S1.mut hi1 h1 (fun b hb => upd_ne hb) ⟨_, upd_same, y3.append (Reps.one R1)⟩) x1 fun _ => rfl⟩
                · rw [if_neg hl] at q; exact q.elim
              | _ => exact q.elim
            | _ => exact q.elim
      | _ => exact q.elim
    | _ => exact q.elim
/-- xs.extend(ys): ys any list that stands there -/
theorem s_store {i : Nat} {x : Str} {px pos' pos : Pos} {value key : Expr} {mk mv : ME} (h : Ok X k W) (hN : X.N[i]? = some x) (hvs : Vis X.env.scope x) (hd : (x == ("__debug__" : Str)) = false) (hcd : (x == ("__classdict__" : Str)) = false) (hk : PM X c n W key mk) (hv : PM X c n W value mv)
    (ha : ∀ v, assign (.Subscript (.Name x px) key pos') X.env v = (do
      let ov ← holding [v] (eval (.Name x px) X.env)
      let iv ← holding [v, ov] (eval key X.env)
      standAt pos'
      holding [v, ov, iv] (setItem ov iv v)
      release [v, ov, iv] []))
    (hs : swapsWithSole [.Subscript (.Name x px) key pos'] value pos.line X.env = pure false) (hw : swappedStores [.Subscript (.Name x px) key pos'] value X.env = pure none) (h1 : (assignEach [.Subscript (.Name x px) key pos'] X.env).map (·.2) = [assign (.Subscript (.Name x px) key pos') X.env]) :
    PSt X c n W (.Assign [.Subscript (.Name x px) key pos'] value pos) (sStore i mk mv) := by
  refine ⟨fun pins s σ H D' I ⟨e, t, H0, p, S, q⟩ => ?_⟩
  refine (ps_asg hv (pg_sub (t := fun o y v H Q => rSetL o y v H Q ∨ rSetD o y v H Q) (pe_var hN hvs hd hcd) hk (fun pins s σ H o y v ov iv u Q I ro ri rv hh => ?_) ha) hs hw h1).run pins s σ H D' I ⟨e, t, H0, p, S, ?_⟩
  · rcases hh with hh | hh
    · exact set_list pins s σ H o y v ov iv u Q I ro ri rv hh
    · exact set_dict (by have := h.room.units; omega) pins s σ H o y v ov iv u Q I ro ri rv hh
  have q : RS (tb X c) n H0 p t D' W ((mv e t).bind fun v e t => match e[i]? with
    | some (.own _) => (mk e t).bind fun k e t => match e[i]? with
      | some (.own d) => (match putAt d k v with
        | some d' => .ok .next (e.set i (.own d')) t
        | none => .stuck)
      | _ => .stuck
    | _ => .stuck) := q
  cases hx : mv e t with
  | err k fs => rw [hx] at q; exact q
  | stuck => rw [hx] at q; exact q
  | ok dv e1 t1 =>
    rw [hx, R.bind_ok] at q
    intro v G0 G S1 x1 R1
    cases hi : e1[i]? with
    | none => rw [hi] at q; exact q.elim
    | some sl =>
      rw [hi] at q
      cases sl with
      | own d0 =>
        obtain ⟨a0, h1, _⟩ := S1.slot i _ hi
        refine ⟨.ref a0, h1, e1, t1, G0, p, S1, ?_⟩
        have q : RS (tb X c) n H0 p t D' W ((mk e1 t1).bind fun k e t => match e[i]? with
          | some (.own d) => (match putAt d k dv with
            | some d' => .ok .next (e.set i (.own d')) t
            | none => .stuck)
          | _ => .stuck) := q
        cases hy : mk e1 t1 with
        | err k fs => rw [hy] at q; exact q
        | stuck => rw [hy] at q; exact q
        | ok dk e2 t2 =>
          rw [hy, R.bind_ok] at q
          intro kv K0 K S2 x2 R2
          cases hi2 : e2[i]? with
          | none => rw [hi2] at q; exact q.elim
          | some sl =>
            rw [hi2] at q
            cases sl with
            | own d1 =>
              obtain ⟨a1, y1, o1, _⟩ := S2.slot i _ hi2
              rw [h1] at y1
              cases y1
              have q : RS (tb X c) n H0 p t D' W (match putAt d1 dk dv with
                | some d' => .ok .next (e2.set i (.own d')) t2
                | none => .stuck) := q
              cases hp : putAt d1 dk dv with
              | none => rw [hp] at q; exact q.elim
              | some d' =>
                rw [hp] at q
                have R1' := R1.ext x2
                cases d1 with
                | lst xs =>
                  cases dk with
                  | int j =>
                    have hp : (if 0 ≤ j ∧ j.toNat < xs.length then some (D.lst (xs.set j.toNat dv)) else none) = some d' := hp
                    by_cases hj : 0 ≤ j ∧ j.toNat < xs.length
                    · rw [if_pos hj] at hp
                      cases hp
                      obtain ⟨vs, z1, z2⟩ := o1
                      have R2 : kv = .int j := R2
                      subst R2
                      refine .inl ⟨a0, vs, j, j.toNat, rfl, rfl, z1, ?_, q _ _ _ _ (S2.mut hi2 h1 (fun b hb => upd_ne hb) ⟨_, upd_same, Reps.set R1' _ z2⟩) (x1.trans x2) fun _ => rfl⟩
                      unfold ixN
                      rw [if_pos hj.1, if_pos (by rw [← z2.length]; omega)]
                    · rw [if_neg hj] at hp; cases hp
                  | _ => cases hp
                | dic kvs =>
                  have hp : (if isKey dk && decide (kvs.length < lim) then some (D.dic (dput dk dv kvs)) else none) = some d' := hp
                  by_cases hj : (isKey dk && decide (kvs.length < lim)) = true
                  · rw [if_pos hj] at hp
                    cases hp
                    rw [Bool.and_eq_true] at hj
                    obtain ⟨kk, rfl⟩ := isKey_key hj.1
                    obtain ⟨kv', z1, z2, z3⟩ := o1
                    have hl : kv'.length < sizeLine := by rw [← z2.length, ← lim_eq]; simpa using hj.2
                    refine .inr ⟨a0, _, rfl, .inl ⟨kv', kk, z1, keyD_kV R2, hl, rfl⟩, q _ _ _ _ (S2.mut hi2 h1 (fun b hb => upd_ne hb) ⟨_, upd_same, RepK.put R1' z2 z3, putK_nodup z3⟩) (x1.trans x2) fun _ => rfl⟩
                  · rw [if_neg hj] at hp; cases hp
                | _ => cases hp
            | _ => exact q.elim
      | _ => exact q.elim
end
end DI
namespace DI
open PySem PySem.Spec PyProof.Rows L2
/-! ### raise -/
section
variable {X : Cx} {c : CT} {n : Ent} {W : XW} {k : Nat}
theorem pmk_own0 {C : Addr} {bmB : List Value} {B newId initId : String} {x : Str} {p pos : Pos} (F : ExcBaseFacts B newId initId bmB) (q : PySem.W.excIn X.K C bmB newId = true) (gC : X.mg x = some (.ref C)) (kC : PySem.W.keepIn X.K (.ref C) = true) (r : Raises X (.ref C)) (hg : Gl X x)
    (hdb : (x == ("__debug__" : Str)) = false) : PMk X (.Call (.Name x p) [] [] pos) (fun _ H Q => Q (.ref C) none H) := by
  intro pins s σ H Q I h
  refine wpAny_Call_Name_kw (ld_glob I hg gC ?_ hdb)
  refine PySem.W.callWith_K0 I.kIn kC ?_
  show wpAny _ _ (call (.ref C) []) _ _ _
  obtain ⟨bm, N, nm, qn, bs, hdct, sn, sub, ab, col, dd, k0, k1, k2, k3, k5, mN, hC, hN, hni, T⟩ := exc_obj I.kIn q
  refine wpAny_call_exc_subT F T hC hN hni (fun h' e hm => ?_) (Nat.zero_le _)
  exact mk_of I hm r h (I.hok.gone hm.new)
/-- raise X() -/
theorem s_raise0 {cid : Nat} {bmB : List Value} {B newId initId : String} {x : Str} {p pos pos2 : Pos} (h : Ok X k W) (F : ExcBaseFacts B newId initId bmB) (q : PySem.W.excIn X.K (c.ca cid) bmB newId = true) (gC : X.mg x = some (.ref (c.ca cid))) (kC : PySem.W.keepIn X.K (.ref (c.ca cid)) = true) (r : Raises X (.ref (c.ca cid))) (hg : Gl X x)
    (hdb : (x == ("__debug__" : Str)) = false) : PSt X c n W (.Raise (some (.Call (.Name x p) [] [] pos)) none pos2) (sRaise cid []) := by
  refine ⟨fun pins s σ H D' I ⟨e, t, H0, p, S, qq⟩ => ?_⟩
  refine (L2.ps_raise h.calm h.tk (pmk_own0 F q gC kC r hg hdb)).run pins s σ H D' I ?_
  have qq : ErrW (tb X c) n W cid [] := qq
  exact qq _ _ H0 H S.toSince ⟨rfl, .inl ⟨rfl, rfl⟩⟩
/-- the promise of an exception's __init__(self, y): self.f = y -/
def spExc (K : PySem.W.Frag) (C : Addr) (f : Str) : Sp := fun vs H Q _ => ∃ a y, vs = [.ref a, y] ∧ OexC K C ∧ PySem.W.findIn K (.ref C) f = some none ∧ H a = some (exo a C none) ∧ ∀ d, H d = none → d ≠ a → Q .non (upd (upd H d (exd d [(f, y)])) a (exo a C (some d)))
structure ExH (X : Cx) (c : CT) (k cid : Nat) (f : Str) : Prop where
  T : OexC X.K (c.ca cid)
  no : PySem.W.findIn X.K (.ref (c.ca cid)) f = some none
  ini : ∃ fI fd ps, PySem.W.findIn X.K (.ref (c.ca cid)) "__init__" = some (some (.ref fI)) ∧ PySem.W.typeIn X.K (.ref fI) = some (.type "function") ∧ Binds X.K fd ps [] ∧ FnOk X.prog X.w X.K X.mg X.base (L2.CX X.prog X.w) k fI fd ps (spExc X.K (c.ca cid) f)
  cf : c.cf cid = [f]
theorem s_raise1 {cid : Nat} {f x : Str} {a : Expr} {ma : ME} {p pos pos2 : Pos} (h : Ok X (k + 1) W) (E : ExH X c k cid f) (hg : Gl X x) (hm : X.mg x = some (.ref (c.ca cid))) (ha : PM X c n W a ma) (hdb : (x == ("__debug__" : Str)) = false)
    (he : starEach [a] X.env = (false, eval a X.env) :: starEach [] X.env) (hpl : (backTo pos (starEach [] X.env)).any (·.1) = false) : PSt X c n W (.Raise (some (.Call (.Name x p) [a] [] pos)) none pos2) (sRaise cid [ma]) := by
  obtain ⟨fI, fd, ps, iC, tI, hb, F1⟩ := E.ini
  refine ⟨fun pins s σ H D' I ⟨e, t, H0, p, S, q⟩ => ?_⟩
  have px : Passes (L2.CX X.prog X.w) X (fun _ _ _ => False) := passL
  refine (L2.ps_raise h.calm h.tk (pmk_oex (dvs := []) E.T iC tI F1 h.room hb .nil px hg hm (pa_cons ha pa_nil he) hdb he hpl)).run pins s σ H D' I ⟨e, t, H0, p, S, ?_⟩
  have q : RS (tb X c) n H0 p t D' W ((mArgs [ma] e t).bind fun ds _ _ => .err cid ds) := q
  have q : RS (tb X c) n H0 p t D' W (((ma e t).bind fun d e t => .ok [d] e t).bind fun ds _ _ => .err cid ds) := q
  cases hx : ma e t with
  | err k fs => rw [hx] at q; exact q
  | stuck => rw [hx] at q; exact q
  | ok d e1 t1 =>
    rw [hx] at q
    have q : ErrW (tb X c) n W cid [d] := q
    intro v G0 G S1 x1 R1
    refine ⟨by show 1 ≤ 1000; decide, fun a ha => ⟨a, v, rfl, E.T, E.no, upd_same, fun dd hdd hda => ?_⟩⟩
    have hdG : G dd = none := by rw [upd_ne hda] at hdd; exact hdd
    refine ⟨rfl, dd, [(f, v)], upd_same, ?_, hdG, ?_⟩
    · rw [upd_ne hda, upd_same]
    · have gr : Grow G0 G G0 (upd (del (upd (upd (upd G a (exo a (c.ca cid) none)) dd (exd dd [(f, v)])) a (exo a (c.ca cid) (some dd))) a) dd (.xd [(f, v)])) := by
        have ex : Ext G (upd (del (upd (upd (upd G a (exo a (c.ca cid) none)) dd (exd dd [(f, v)])) a (exo a (c.ca cid) (some dd))) a) dd (.xd [(f, v)])) := fun b o hb => by
          have h1 : b ≠ dd := by rintro rfl; rw [hdG] at hb; cases hb
          have h2 : b ≠ a := by rintro rfl; rw [ha] at hb; cases hb
          rw [upd_ne h1, del_ne h2, upd_ne h2, upd_ne h1, upd_ne h2]
          exact hb
        exact ⟨ex, Ext.rfl', S1.sub.trans ex, fun _ _ => rfl⟩
      refine q _ _ G0 _ (S1.grow gr).toSince ⟨rfl, .inr ⟨dd, [v], rfl, ?_, Reps.one R1, ?_⟩⟩
      · show upd _ dd _ dd = some (.xd ((c.cf cid).zip [v]))
        rw [upd_same, E.cf]
        rfl
      · show 1 = (c.cf cid).length
        rw [E.cf]
        rfl
end
end DI
set_option linter.all false
set_option Elab.async false
set_option maxRecDepth 100000
set_option maxHeartbeats 4000000
/-! DFn: a def keeps its promise; rules with steadiness found by instances. -/
namespace DI
open PySem PySem.Spec PyProof.Rows L2
theorem start_get {N : List Str} {vs : List V} {i : Nat} {v : V} (h : vs[i]? = some v) : (L2.start N vs)[i]? = some (some v) := by
  unfold L2.start
  have hl : i < vs.length := (List.getElem?_eq_some_iff.mp h).1
  rw [List.getElem?_append_left (by simpa using hl), List.getElem?_map, h]
  rfl
theorem paired_get {α β : Type} {F : α → β → Prop} : ∀ {l : List α} {r : List β} {i : Nat} {a : α}, Paired F l r → l[i]? = some a → ∃ b, r[i]? = some b ∧ F a b
  | _, _, _, _, .nil, e => by simp at e
  | _, _, 0, _, .cons h t, e => by
    simp at e
    subst e
    exact ⟨_, rfl, h⟩
  | _, _, i + 1, a, .cons h t, e => by
    obtain ⟨b, h1, h2⟩ := paired_get (i := i) t (by simpa using e)
    exact ⟨b, by simpa using h1, h2⟩
/-- at the entry -/
theorem SI.start {T : Tb} {N : List Str} {vs : List V} {ds : List D} {H0 H : Hp} {t : D} {p : Addr} (x0 : Ext H0 H) (R : Paired (RepT T p H0) ds vs) (hl : vs.length ≤ N.length) (ht : t ≠ .non → OwnAt T H0 H t p ∧ H0 p = none) (hm : .trk ∈ ds → t ≠ .non) :
    SI T ⟨H, H0, tpOf t p⟩ (slotsOf ds ++ List.replicate (N.length - ds.length) .none) t (L2.start N vs) H0 H p := by
  have hlen : ds.length = vs.length := Paired.length R
  have slot : ∀ (i : Nat) (s : Slot), (slotsOf ds ++ List.replicate (N.length - ds.length) .none)[i]? = some s → (∃ d v, ds[i]? = some d ∧ vs[i]? = some v ∧ RepT T p H0 d v ∧ s = (match d with | .trk => .trk | d => .val d)) ∨ s = .none := fun i s h => by
    by_cases hi : i < ds.length
    · rw [List.getElem?_append_left (by simpa [slotsOf] using hi)] at h
      unfold slotsOf at h
      rw [List.getElem?_map, List.getElem?_eq_getElem hi] at h
      obtain ⟨v, h1, h2⟩ := paired_get R (List.getElem?_eq_getElem hi)
      exact .inl ⟨ds[i], v, List.getElem?_eq_getElem hi, h1, h2, (Option.some.inj h).symm⟩
    · rw [List.getElem?_append_right (by simpa [slotsOf] using hi)] at h
      exact .inr (List.eq_of_mem_replicate (List.mem_of_getElem? h))
  refine ⟨⟨x0, fun a o h _ => h, fun _ _ => rfl, Ext.rfl'⟩, fun i s h => ?_, fun i j di dj a h1 h2 _ _ => ?_, fun h => ⟨(ht h).1, (ht h).2, .inl (tpOf_some h)⟩, fun q hq => ?_, ?_⟩
  · rcases slot i s h with ⟨d, v, h1, h2, h3, rfl⟩ | rfl
    · cases d with
      | trk =>
        have h3 : v = .ref p := h3
        subst h3
        exact ⟨start_get h2, hm (List.mem_of_getElem? h1)⟩
      | _ => exact ⟨v, start_get h2, h3⟩
    · trivial
  · rcases slot i _ h1 with ⟨d, v, _, _, _, e⟩ | e
    · cases d <;> cases e
    · cases e
  · cases t with
    | non => cases hq
    | _ => cases hq; exact ⟨rfl, fun z => nomatch z⟩
  · unfold L2.start slotsOf
    simp only [List.length_append, List.length_map, List.length_replicate, hlen]
section
variable {P : Program} {w : World} {K : PySem.W.Frag} {mg : Str → Option Value} {base : Heap} {x qual : Str} {params : Arguments} {body : List Stmt} {scope : Scope} {f : Addr} {fd : FuncData} {N ps : List Str} {k : Nat} {c : CT} {m : MS}
/-- a def's body in the model: what is to be shown of it -/
abbrev BodyOk (P : Program) (w : World) (K : PySem.W.Frag) (mg : Str → Option Value) (base : Heap) (c : CT) (N : List Str) (qual : Str) (scope : Scope) (f : Addr) (k : Nat) (body : List Stmt) (m : MS) : Prop :=
  ∀ (cdv : Value) (A : Around) (outer : List PySem.Env) (s : Shared) (H : Hp) (E : XK) (n : Ent), Ok (cxOf (L2.CX P w) P w K mg base N qual scope f cdv A outer s H E) k E → PSts (cxOf (L2.CX P w) P w K mg base N qual scope f cdv A outer s H E) c n E body m
theorem fn_run (F : FunD K x qual params body scope [] [] f fd) (S : FnScope N ps scope) (hl : ps.length ≤ N.length) (hb : BodyOk P w K mg base c N qual scope f k body m) :
    FnOk P w K mg base (L2.CX P w) (k + 1) f fd ps (spD ⟨K, w, c.ca, c.cf⟩ ps.length (run N.length m)) := by
  refine F.ok S (fun vs H Q E h => h.1) fun cdv A outer s H vs Q E hr h => ?_
  obtain ⟨hlen, ds, H0, t, p, x0, R, ht, hm, q⟩ := h
  refine ⟨_, hb cdv A outer s H E ⟨H, H0, tpOf t p⟩ ⟨rfl, hr, S.nd, takes_of rfl rfl rfl rfl⟩, _, t, H0, p, SI.start x0 R (by rw [hlen]; exact hl) ht hm, ?_⟩
  have q : RF ⟨K, w, c.ca, c.cf⟩ ⟨H, H0, tpOf t p⟩ p Q E (match m (slotsOf ds ++ List.replicate (N.length - ds.length) .none) t with
    | .ok .next _ t => .ok .non t
    | .ok (.ret d) _ t => .ok d t
    | .err c fs => .err c fs
    | .stuck => .stuck) := q
  cases hx : m (slotsOf ds ++ List.replicate (N.length - ds.length) .none) t with
  | err kk fs => rw [hx] at q; exact q
  | stuck => rw [hx] at q; exact q
  | ok fl e1 t1 =>
    rw [hx] at q
    have trk : ∀ {σ' H0' H' p'}, SI (⟨K, w, c.ca, c.cf⟩ : Tb) ⟨H, H0, tpOf t p⟩ e1 t1 σ' H0' H' p' → (tpOf t p = some p → OwnAt (⟨K, w, c.ca, c.cf⟩ : Tb) H0' H' t1 p ∧ H0' p = none ∧ t1 ≠ .non) := fun S' htp => by
      obtain ⟨e, h1⟩ := S'.tpq p htp
      subst e
      obtain ⟨y1, y2, _⟩ := S'.trk h1
      exact ⟨y1, y2, h1⟩
    cases fl with
    | next => exact fun σ' H0' H' p' S' _ _ => q .non H0' H' S'.toSince (trk S') rfl
    | ret d => exact fun v σ' H0' H' p' S' _ _ Rv => q v H0' H' S'.toSince (trk S') Rv
/-- an exception's __init__(self, y): self.f = y -/
theorem exc_run {C : Addr} {fl : Str} (F : FunD K x qual params body scope [] [] f fd) (S : FnScope N ps scope) (h2 : ps.length = 2) (hN : N.length = 2)
    (hb : ∀ (cdv : Value) (A : Around) (outer : List PySem.Env) (s : Shared) (H : Hp) (E : XK), PSs (cxOf (L2.CX P w) P w K mg base N qual scope f cdv A outer s H E) body (tOst K fl (tVar 0) (tVar 1))) :
    FnOk P w K mg base (L2.CX P w) (k + 1) f fd ps (spExc K C fl) := by
  refine F.ok S (fun vs H Q E h => ?_) fun cdv A outer s H vs Q E hr h => ⟨_, hb cdv A outer s H E, ?_⟩
  · obtain ⟨a, y, rfl, _⟩ := h
    exact h2.symm
  · obtain ⟨a, y, rfl, T, no, ha, q⟩ := h
    refine ⟨y, start_get rfl, .ref a, start_get rfl, a, C, rfl, T, no, .inl ⟨ha, fun dx hdx hne => q dx hdx hne⟩⟩
theorem FnH.of {X : Cx} {ar : Nat} {g : Fn} (hb : Binds X.K fd ps []) (h : FnOk X.prog X.w X.K X.mg X.base (L2.CX X.prog X.w) k f fd ps (spD (tb X c) ar g)) : FnH X c k ar f g := ⟨fd, ps, hb, h⟩
theorem FnH.mono {X : Cx} {ar j : Nat} {g : Fn} (h : FnH X c j ar f g) (hj : j ≤ k) : FnH X c k ar f g := by
  obtain ⟨fd, ps, hb, h⟩ := h.ex
  exact ⟨fd, ps, hb, h.mono hj⟩
end
section
variable {X : Cx} {c : CT} {n : Ent} {W : XW} {k : Nat}
/-- s_seq, s_if, the comprehensions: steadiness by instances -/
theorem t_seq {st : Stmt} {rest : List Stmt} {a b : MS} [StM a] (h1 : PSt X c n W st a) (h2 : PSts X c n W rest b) : PSts X c n W (st :: rest) (sSeq a b) := s_seq h1 h2 StM.st
theorem t_if {x : Expr} {a b : List Stmt} {mx : ME} {ma mb : MS} {pos : Pos} [St1 mx] (hx : PB X c n W x mx) (ha : PSts X c n W a ma) (hb : PSts X c n W b mb) : PSt X c n W (.If x a b pos) (sIf mx ma mb) :=
  s_if hx ha hb fun e t => by
    have := (St1.st (m := mx) e t).asB
    cases h : asB (mx e t) with
    | ok b e' t' => rw [h] at this; exact fun z y => z (this.mp y)
    | err _ _ => trivial
    | stuck => trivial
theorem t_none {scope : Scope} : PTsb X c scope [] none := .none
theorem t_test {scope : Scope} {x : Expr} {m : ME} [St1 m] (h : ∀ (n : Ent) (s : Shared) (H : Hp) (C : Addr) (cl : List (Str × Addr)) (fp : List Addr), PB (X.blk s H scope (compEnvC scope cl C X.env) fp) c n W0 x m) : PTsb X c scope [x] (some m) := .one h (SdR.toE (St1.st (m := m)))
theorem t_comp {elt tg iter : Expr} {ifs : List Expr} {scope : Scope} {own : List (Str × Nat)} {pos : Pos} {it : ML} {g : Tgt} {co : Option ME} {m : ME} [St1 m] [StA it] (h : Ok X k W) (hi : PIt X c n W tg iter it) (ok : BlkOk X.N X.env.scope scope own)
    (hg : PTgb X c scope tg g) (ht : PTsb X c scope ifs co) (he : PMb X c scope elt m) (hs : ∀ x, foldedSetIterable iter X.env x = pure x) (hgs : ∀ i ∈ g.slots, i ∈ own.map (·.2)) :
    PNw X c n W (.ListComp elt [⟨tg, iter, ifs, 0⟩] scope pos) (mComp (own.map (·.2)) it g co m) := m_comp h.calm h.nd hi ok hg ht he hs hgs (SdR.toE (St1.st (m := m))) (SdR.toL (StA.st (m := it)))
theorem t_scomp {i : Nat} {y : Str} {py : Pos} {elt tg iter : Expr} {ifs : List Expr} {scope : Scope} {own : List (Str × Nat)} {pos spos : Pos} {it : ML} {g : Tgt} {co : Option ME} {m : ME} [St1 m] [StA it] (h : Ok X k W) (hy : X.N[i]? = some y) (hyl : X.env.scope.names.lookup y = some .local)
    (hsw : swapsWith (.ListComp elt [⟨tg, iter, ifs, 0⟩] scope pos) (some (.Name y py)) spos.line X.env = pure true) (hi : PIt X c n W tg iter it) (ok : BlkOk X.N X.env.scope scope own)
    (hg : PTgb X c scope tg g) (ht : PTsb X c scope ifs co) (he : PMb X c scope elt m) (hs : ∀ x, foldedSetIterable iter X.env x = pure x) (hgs : ∀ i ∈ g.slots, i ∈ own.map (·.2)) :
    PSt X c n W (.Assign [.Name y py] (.ListComp elt [⟨tg, iter, ifs, 0⟩] scope pos) spos) (sOwn i (mComp (own.map (·.2)) it g co m)) := s_comp (own? := true) h.calm h.nd hy hyl hsw hi ok hg ht he hs hgs (SdR.toE (St1.st (m := m))) (SdR.toL (StA.st (m := it)))
end
end DI
set_option linter.all false
set_option Elab.async false
set_option maxRecDepth 100000
set_option maxHeartbeats 4000000
/-! DSnd13: dict comprehensions, dict displays, dict(zip(..)), signs, blocks. -/
namespace DI
open PySem PySem.Spec PyProof.Rows L2
section
variable {X : Cx} {c : CT} {n : Ent} {W : XW} {k : Nat}
/-- the reading of a dict comprehension -/
theorem dc_read {it : ML} {g : Tgt} {co : Option ME} {m mv : ME} {vs : List Nat} {σ : L2.St} {H : Hp} {Q : VK} (hg : ∀ i ∈ g.slots, i ∈ vs) (hco : ∀ m, co = some m → StE m) (hm : StE m) (hv : StE mv) (hit : StL it)
    (q : tN (tb X c) n W (mDComp vs it g co m mv) σ H Q) : tDc (tI (tb X c) n W it) (exG (tb X c) g) (exT (tb X c) co) (exE (tb X c) m) (exE (tb X c) mv) vs σ H Q := by
  obtain ⟨e, t, H0, p, S, q⟩ := q
  refine ⟨e, t, H0, p, S, ?_⟩
  have q : RN (tb X c) n σ H0 p Q W ((it e t).bind fun ds e1 t1 => (compLoop g co (pushK m mv) (clearE vs (hideE e1)) ds [] t1).only fun a t2 => .ok (.dic a) e1 t2) := q
  cases hx : it e t with
  | err kk fs => rw [hx] at q; exact q
  | stuck => rw [hx] at q; exact q
  | ok ds e1 t1 =>
    rw [hx] at q
    have q : RN (tb X c) n σ H0 p Q W ((compLoop g co (pushK m mv) (clearE vs (hideE e1)) ds [] t1).only fun a t2 => .ok (.dic a) e1 t2) := q
    intro J G0 G S1 x1 jo Dl hD
    generalize he0 : clearE vs (hideE e1) = e0 at q
    obtain ⟨S2, F2⟩ := S1.lay (o := .dK []) hD
    refine ⟨fun i mm H2 => mm = ds.length - i ∧ i ≤ ds.length ∧ ∃ t2 K0 acc av, SI (tb X c) n e1 t2 σ K0 H2 p ∧ Ext G0 K0 ∧ Fresh n e1 t2 σ K0 p Dl ∧ H2 Dl = some (.dK av) ∧ (RepK (tb X c) K0 acc av ∧ (av.map (·.1)).Nodup) ∧
      RN (tb X c) n σ H0 p Q W ((compLoop g co (pushK m mv) e0 (ds.drop i) acc t2).only fun a t2 => .ok (.dic a) e1 t2),
      ⟨_, rfl, Nat.zero_le _, t1, G0, [], [], S2, Ext.rfl', F2, upd_same, ⟨rfl, .nil⟩, q⟩, ?_⟩
    rintro i mm H2 ⟨rfl, hi, t2, K0, acc, av, S3, y3, F3, hD3, ⟨R3, nd3⟩, q3⟩
    by_cases hlt : i < ds.length
    · have hd : ds.drop i = ds[i] :: ds.drop (i + 1) := List.drop_eq_getElem_cons hlt
      rw [hd] at q3
      refine .inr ⟨jo.go i K0 H2 y3 S3.sub hlt, fun H2 => i + 1 ≤ ds.length ∧ ∃ t2 K0 acc av, SI (tb X c) n e1 t2 σ K0 H2 p ∧ Ext G0 K0 ∧ Fresh n e1 t2 σ K0 p Dl ∧ H2 Dl = some (.dK av) ∧ (RepK (tb X c) K0 acc av ∧ (av.map (·.1)).Nodup) ∧
        RN (tb X c) n σ H0 p Q W ((compLoop g co (pushK m mv) e0 (ds.drop (i + 1)) acc t2).only fun a t2 => .ok (.dic a) e1 t2), fun H' z => ⟨ds.length - (i + 1), by omega, rfl, z⟩, fun x H3 hy => ?_⟩
      obtain ⟨K1, gr, R1⟩ := jo.yld i ds[i] K0 H2 x H3 y3 S3.sub (by simp [hlt]) hy
      have S4 := S3.grow gr
      have F4 := F3.grow gr (ne_none hD3)
      have hD4 : H3 Dl = some (.dK av) := gr.ext _ _ hD3
      have R4 := R3.ext gr.ext0
      have o4 : OwnAt (tb X c) K1 H3 (.dic acc) Dl := ⟨av, hD4, R4, nd3⟩
      have B4 := S4.block (vs := vs)
      rw [he0] at B4
      have C0 : RN (tb X c) n σ H0 p Q W (((compTurn g co (pushK m mv) acc ds[i] e0 t2).only fun a t => compLoop g co (pushK m mv) e0 (ds.drop (i + 1)) a t).only fun a t2 => .ok (.dic a) e1 t2) := q3
      cases hp : g.put ds[i] e0 with
      | none => unfold compTurn at C0; rw [hp] at C0; exact C0.elim
      | some e3 =>
        refine ⟨⟨H3, K1, tpOf t2 p⟩, e0, e3, t2, K1, p, ds[i], B4, R1, hp, fun σ3 B5 k5 => ⟨?_, ⟨H3, K1, tpOf t2 p⟩, ?_⟩⟩
        · rw [wipe_same (σ := wipe σ vs) (fun j hj => k5 j fun z => hj (hg j z)) (by rw [← B5.len, ← B4.len]; exact put_len hp), wipe_wipe]
        refine cond_read (C := fun r => RN (tb X c) n σ H0 p Q W ((r.only fun a t => compLoop g co (pushK m mv) e0 (ds.drop (i + 1)) a t).only fun a t2 => .ok (.dic a) e1 t2)) B5 hp hco C0 (fun z => z) (fun _ _ z => z) fun b e4 t4 L0 L B6 x6 st6 C6 => ?_
        cases b with
        | true =>
          show (if true = true then _ else _)
          rw [if_pos rfl]
          rw [if_pos rfl] at C6
          refine ⟨⟨H3, K1, tpOf t2 p⟩, e4, t4, L0, p, B6, ?_⟩
          have C6 : RN (tb X c) n σ H0 p Q W ((((m e4 t4).bind fun k e t => (mv e t).bind fun d e t => if isKey k && decide (acc.length < lim) then .ok (dput k d acc) e t else .stuck).only fun a t => compLoop g co (pushK m mv) e0 (ds.drop (i + 1)) a t).only fun a t2 => .ok (.dic a) e1 t2) := C6
          cases hme : m e4 t4 with
          | err kk fs => rw [hme] at C6; exact C6.elim
          | stuck => rw [hme] at C6; exact C6.elim
          | ok dk e5 t5 =>
            rw [hme] at C6
            have C6 : RN (tb X c) n σ H0 p Q W ((((mv e5 t5).bind fun d e t => if isKey dk && decide (acc.length < lim) then .ok (dput dk d acc) e t else .stuck).only fun a t => compLoop g co (pushK m mv) e0 (ds.drop (i + 1)) a t).only fun a t2 => .ok (.dic a) e1 t2) := C6
            intro y M0 M B7 x7 R7
            refine ⟨⟨H3, K1, tpOf t2 p⟩, e5, t5, M0, p, B7, ?_⟩
            cases hme2 : mv e5 t5 with
            | err kk fs => rw [hme2] at C6; exact C6.elim
            | stuck => rw [hme2] at C6; exact C6.elim
            | ok d e6 t6 =>
              rw [hme2] at C6
              have C6 : RN (tb X c) n σ H0 p Q W (((if isKey dk && decide (acc.length < lim) then R.ok (dput dk d acc) e6 t6 else .stuck).only fun a t => compLoop g co (pushK m mv) e0 (ds.drop (i + 1)) a t).only fun a t2 => .ok (.dic a) e1 t2) := C6
              by_cases hz : (isKey dk && decide (acc.length < lim)) = true
              · rw [if_pos hz] at C6
                rw [Bool.and_eq_true] at hz
                obtain ⟨kk, rfl⟩ := isKey_key hz.1
                intro z N0 N B8 x8 R8
                have st7 : t6 = .non ↔ t2 = .non := ((hv _ _ _ _ _ hme2).trans (hm _ _ _ _ _ hme)).trans st6
                obtain ⟨o7, F7, k7⟩ := F4.block B8 st7 o4
                have S7 := S4.unblock B8 st7
                have hD7 := k7 _ hD4
                refine ⟨av, kk, keyD_kV R7, hD7, by rw [← R4.length, ← lim_eq]; simpa using hz.2, hlt, t6, N0, dput (keyD kk) d acc, putK av kk z, ?_, (y3.trans gr.ext0).trans B8.ext0, F7, upd_same, ⟨RepK.put R8 (R4.ext B8.ext0) nd3, putK_nodup nd3⟩, C6⟩
                refine S7.but ⟨fun b u hb => ?_, fun b u hb hne => ?_, fun _ _ => rfl, Ext.rfl'⟩ F7
                · by_cases zz : b = Dl
                  · subst zz; rw [F7.h0] at hb; cases hb
                  · rw [upd_ne zz]; exact S7.sub _ _ hb
                · rw [upd_ne (fun zz => hne (by rw [zz]))]; exact hb
              · rw [if_neg hz] at C6; exact C6.elim
        | false =>
          show (if false = true then _ else _)
          rw [if_neg Bool.false_ne_true]
          rw [if_neg Bool.false_ne_true] at C6
          obtain ⟨o7, F7, k7⟩ := F4.block B6 st6 o4
          exact ⟨hlt, t4, L0, acc, av, S4.unblock B6 st6, (y3.trans gr.ext0).trans B6.ext0, F7, k7 _ hD4, ⟨R4.ext B6.ext0, nd3⟩, C6⟩
    · have e0' : i = ds.length := by omega
      subst e0'
      rw [List.drop_length] at q3
      refine .inl ⟨jo.stop _ K0 H2 y3 S3.sub (Nat.le_refl _), ?_⟩
      exact q3 Dl K0 H2 S3 (x1.trans y3) ⟨av, hD3, R3, nd3⟩ F3

theorem t_dcomp {kx vx tg iter : Expr} {ifs : List Expr} {scope : Scope} {own : List (Str × Nat)} {pos : Pos} {it : ML} {g : Tgt} {co : Option ME} {m mv : ME} [St1 m] [St1 mv] [StA it] (h : Ok X k W) (hi : PIt X c n W tg iter it) (ok : BlkOk X.N X.env.scope scope own)
    (hg : PTgb X c scope tg g) (ht : PTsb X c scope ifs co) (hk : PMb X c scope kx m) (he : PMb X c scope vx mv) (hs : ∀ x, foldedSetIterable iter X.env x = pure x) (hgs : ∀ i ∈ g.slots, i ∈ own.map (·.2)) :
    PNw X c n W (.DictComp kx vx [⟨tg, iter, ifs, 0⟩] scope pos) (mDComp (own.map (·.2)) it g co m mv) := by
  refine ⟨fun pins s σ H Q I q => ?_⟩
  refine (pe_dc h.calm h.nd hi ok (fun s H C cl fp => pg_ex fun n => hg n s H C cl fp) (fun s H C cl fp => pts_ex ht s H C cl fp) (fun s H C cl fp => pe_ex fun n => hk n s H C cl fp) (fun s H C cl fp => pe_ex fun n => he n s H C cl fp) hs).run pins s σ H Q I (dc_read hgs (fun mm hmm => ?_) (SdR.toE (St1.st (m := m))) (SdR.toE (St1.st (m := mv))) (SdR.toL (StA.st (m := it))) q)
  cases ht with
  | none => cases hmm
  | one h st => cases hmm; exact st
/-- -e -/
theorem m_neg {a : Expr} {ma : ME} {pos : Pos} (ha : PM X c n W a ma) : PM X c n W (.UnaryOp .USub a pos) (m1 pNeg ma) := by
  refine ⟨fun pins s σ H Q I ⟨e, t, H0, p, S, q⟩ => ?_⟩
  refine (pe_un un_neg ha).run pins s σ H Q I ⟨e, t, H0, p, S, ?_⟩
  have h := m1_run q
  cases hx : ma e t with
  | err k fs => rw [hx] at h; exact h
  | stuck => rw [hx] at h; exact h
  | ok d e1 t1 =>
    rw [hx] at h
    intro v G0 G S1 x1 R1
    obtain ⟨d, d', e2, t2, G2, S2, R2, hg, q2⟩ := h v G0 G S1 x1 R1
    cases d with
    | int i =>
      cases hg
      have R2 : v = .int i := R2
      subst R2
      exact ⟨i, rfl, q2 _ _ _ S2 Ext.rfl' rfl⟩
    | _ => cases hg
/-- {} -/
theorem n_dic0 {pos : Pos} : PNw X c n W (.Dict [] [] pos) (mDic []) := by
  refine ⟨fun pins s σ H Q I ⟨e, t, H0, p, S, q⟩ => ?_⟩
  refine pe_dnewK.run pins s σ H Q I fun a ha => ?_
  obtain ⟨S2, F2⟩ := S.lay (o := .dK []) ha
  exact q a _ _ S2 Ext.rfl' ⟨[], upd_same, rfl, .nil⟩ F2
/-- what stands in a dict display -/
inductive PDs (X : Cx) (c : CT) : List (Option Expr) → List Expr → List (ME × ME) → Prop where
  | nil : PDs X c [] [] []
  | cons {kx vx : Expr} {ks : List (Option Expr)} {vs : List Expr} {mk mv : ME} {ms : List (ME × ME)} (hk : ∀ n, PM X c n W0 kx mk) (hv : ∀ n, PM X c n W0 vx mv) (r : PDs X c ks vs ms) : PDs X c (some kx :: ks) (vx :: vs) ((mk, mv) :: ms)
theorem pps_of {ks : List (Option Expr)} {vs : List Expr} {ms : List (ME × ME)} {pos : Pos} (h : PDs X c ks vs ms) : PPs X pos ks vs (ms.map fun q => (exE (tb X c) q.1, exE (tb X c) q.2)) := by
  induction h with
  | nil => exact pps_nil
  | cons hk hv r ih => exact pps_cons (pe_ex hk) (pe_ex hv) ih
theorem pds_len {ks : List (Option Expr)} {vs : List Expr} {ms : List (ME × ME)} (h : PDs X c ks vs ms) : ms.length = ks.length := by
  induction h with
  | nil => rfl
  | cons hk hv r ih => simp [ih]
theorem mPairs_len : ∀ {ms : List (ME × ME)} {e e' : Env} {t t' : D} {kvs : List (D × D)}, mPairs ms e t = .ok kvs e' t' → kvs.length = ms.length
  | [], e, e', t, t', kvs, h => by
    have h : R.ok [] e t = R.ok kvs e' t' := h
    cases h; rfl
  | (mk, mv) :: ms, e, e', t, t', kvs, h => by
    have h : ((mk e t).bind fun k e t => (mv e t).bind fun d e t => (mPairs ms e t).bind fun ps e t => if isKey k then .ok ((k, d) :: ps) e t else .stuck) = .ok kvs e' t' := h
    cases h1 : mk e t with
    | err _ _ => rw [h1] at h; cases h
    | stuck => rw [h1] at h; cases h
    | ok k e1 t1 =>
      rw [h1, R.bind_ok] at h
      cases h2 : mv e1 t1 with
      | err _ _ => rw [h2] at h; cases h
      | stuck => rw [h2] at h; cases h
      | ok d e2 t2 =>
        rw [h2, R.bind_ok] at h
        cases h3 : mPairs ms e2 t2 with
        | err _ _ => rw [h3] at h; cases h
        | stuck => rw [h3] at h; cases h
        | ok ps e3 t3 =>
          rw [h3, R.bind_ok] at h
          by_cases hk : isKey k = true
          · rw [if_pos hk] at h
            cases h
            rw [List.length_cons, List.length_cons, mPairs_len h3]
          · rw [if_neg hk] at h; cases h
theorem pairs_read {nB : Ent} {σ : L2.St} {p : Addr} : ∀ {ms : List (ME × ME)} {e e' : Env} {t t' : D} {kvs : List (D × D)} {H0 H : Hp} {Q : List (V × V) → Hp → Prop}, mPairs ms e t = .ok kvs e' t' → SI (tb X c) nB e t σ H0 H p →
    (∀ kv H0' H', SI (tb X c) nB e' t' σ H0' H' p → Ext H0 H0' → RepK (tb X c) H0' kvs kv → Q (kv.map fun q => (kV q.1, q.2)) H') → tPairs (ms.map fun q => (exE (tb X c) q.1, exE (tb X c) q.2)) σ H Q
  | [], e, e', t, t', kvs, H0, H, Q, h, S, q => by
    have h : R.ok [] e t = R.ok kvs e' t' := h
    cases h
    exact q [] H0 H S Ext.rfl' rfl
  | (mk, mv) :: ms, e, e', t, t', kvs, H0, H, Q, h, S, q => by
    have h : ((mk e t).bind fun k e t => (mv e t).bind fun d e t => (mPairs ms e t).bind fun ps e t => if isKey k then .ok ((k, d) :: ps) e t else .stuck) = .ok kvs e' t' := h
    cases h1 : mk e t with
    | err _ _ => rw [h1] at h; cases h
    | stuck => rw [h1] at h; cases h
    | ok k e1 t1 =>
      rw [h1, R.bind_ok] at h
      refine ⟨nB, e, t, H0, p, S, ?_⟩
      show RE (tb X c) nB σ H0 p _ W0 (mk e t)
      rw [h1]
      intro x G0 G S1 x1 R1
      cases h2 : mv e1 t1 with
      | err _ _ => rw [h2] at h; cases h
      | stuck => rw [h2] at h; cases h
      | ok d e2 t2 =>
        rw [h2, R.bind_ok] at h
        refine ⟨nB, e1, t1, G0, p, S1, ?_⟩
        show RE (tb X c) nB σ G0 p _ W0 (mv e1 t1)
        rw [h2]
        intro y K0 K S2 x2 R2
        cases h3 : mPairs ms e2 t2 with
        | err _ _ => rw [h3] at h; cases h
        | stuck => rw [h3] at h; cases h
        | ok ps e3 t3 =>
          rw [h3, R.bind_ok] at h
          by_cases hk : isKey k = true
          · rw [if_pos hk] at h
            cases h
            obtain ⟨kk, rfl⟩ := isKey_key hk
            refine pairs_read h3 S2 fun kv H0' H' S3 x3 R3 => ?_
            have := q ((kk, y) :: kv) H0' H' S3 ((x1.trans x2).trans x3) ⟨_, _, rfl, ⟨rfl, R2.ext x3⟩, R3⟩
            rw [keyD_kV R1]
            exact this
          · rw [if_neg hk] at h; cases h
theorem merge_rep {T : Tb} {H : Hp} : ∀ {more : List (D × D)} {mkv : List (Key × V)} {acc : List (D × D)} {akv : List (Key × V)}, RepK T H more mkv → RepK T H acc akv → (akv.map (·.1)).Nodup → RepK T H (dmerge acc more) (mergeK akv mkv) ∧ ((mergeK akv mkv).map (·.1)).Nodup
  | [], mkv, acc, akv, h, ha, nd => by
    have h : mkv = [] := h
    subst h
    exact ⟨ha, nd⟩
  | (j, d) :: more, mkv, acc, akv, h, ha, nd => by
    obtain ⟨⟨j', w⟩, r, rfl, ⟨e1, h2⟩, h3⟩ := h
    have e1 : j = keyD j' := e1
    subst e1
    exact merge_rep (more := more) (mkv := r) (acc := dput (keyD j') d acc) (akv := putK akv j' w) h3 (RepK.put h2 ha nd) (putK_nodup nd)
theorem n_dic {keys : List (Option Expr)} {values : List Expr} {ms : List (ME × ME)} {pos : Pos} [StP ms] (h : PDs X c keys values ms) (hall : keys.all (·.isSome) = true) (hl : keys.length = values.length) (h0 : keys ≠ []) (h15 : keys.length ≤ 15) : PNw X c n W (.Dict keys values pos) (mDic ms) := by
  refine ⟨fun pins s σ H Q I ⟨e, t, H0, p, S, q⟩ => ?_⟩
  refine (pe_disp (pps_of h) hall hl h0 h15).run pins s σ H Q I fun a ha => ?_
  obtain ⟨S2, F2⟩ := S.lay (o := .dK []) ha
  have q : RN (tb X c) n σ H0 p Q W ((mPairs ms (hideE e) t).only fun kvs t2 => .ok (.dic (dmerge [] kvs)) e t2) := q
  cases hx : mPairs ms (hideE e) t with
  | err _ _ => rw [hx] at q; exact q.elim
  | stuck => rw [hx] at q; exact q.elim
  | ok kvs e2 t2 =>
    rw [hx, R.only_ok] at q
    have st : t2 = .non ↔ t = .non := by
      have := StP.st (as := ms) (hideE e) t
      rw [hx] at this
      exact this
    refine pairs_read hx (S2.block (vs := [])) fun kv K0 K B x1 R => ?_
    obtain ⟨o7, F7, k7⟩ := F2.block B st (d := .dic []) ⟨[], upd_same, rfl, .nil⟩
    have S7 := S2.unblock B st
    refine ⟨k7 _ upd_same, kv, rfl, by rw [← R.length, mPairs_len hx, pds_len h]; exact h15, ?_⟩
    obtain ⟨m1, m2⟩ := merge_rep (acc := []) (akv := []) R rfl .nil
    refine q a K0 _ (S7.but ⟨fun b u hb => ?_, fun b u hb hne => ?_, fun _ _ => rfl, Ext.rfl'⟩ F7) x1 ⟨_, upd_same, m1, m2⟩ F7
    · by_cases z : b = a
      · subst z; rw [F7.h0] at hb; cases hb
      · rw [upd_ne z]; exact S7.sub _ _ hb
    · rw [upd_ne (fun z => hne (by rw [z]))]; exact hb
end
end DI
set_option linter.all false
set_option Elab.async false
set_option maxRecDepth 100000
set_option maxHeartbeats 4000000
/-! DSnd14: dict(zip(..)), contexts within comprehensions. -/
namespace DI
open PySem PySem.Spec PyProof.Rows L2
section
variable {X : Cx} {c : CT} {n : Ent} {W : XW} {k : Nat}
theorem pairs_have {prog : Program} {w : World} {T : Tb} {H : Hp} : ∀ {ks ds : List D} {kvs : List (D × D)} {vs1 vs2 : List V} {us1 us2 : List Value}, pairKs ks ds = some kvs → Reps T H ks vs1 → Reps T H ds vs2 → Vals vs1 us1 → Vals vs2 us2 →
    ∃ (kv : List (Key × V)) (rs : List (Key × Value)), RepK T H kvs kv ∧ KV kv rs ∧ PairsHave (mixKind prog w) (min us1.length us2.length) (fun i k v => us1[i]? = some k ∧ us2[i]? = some v) rs
  | [], ds, kvs, vs1, vs2, us1, us2, h, R1, R2, r1, r2 => by
    have R1 : vs1 = [] := R1
    subst R1
    cases r1
    cases ds <;> cases h <;> exact ⟨[], [], rfl, .nil, by simp, fun i k v e => by simp at e⟩
  | k :: ks, [], kvs, vs1, vs2, us1, us2, h, R1, R2, r1, r2 => by
    have R2 : vs2 = [] := R2
    subst R2
    cases r2
    cases h
    exact ⟨[], [], rfl, .nil, by simp, fun i k v e => by simp at e⟩
  | k :: ks, d :: ds, kvs, vs1, vs2, us1, us2, h, R1, R2, r1, r2 => by
    have h : (if isKey k then (pairKs ks ds).map ((k, d) :: ·) else none) = some kvs := h
    by_cases hk : isKey k = true
    · rw [if_pos hk] at h
      obtain ⟨kk, rfl⟩ := isKey_key hk
      cases hp : pairKs ks ds with
      | none => rw [hp] at h; cases h
      | some rest =>
        rw [hp] at h
        cases h
        obtain ⟨x, xr, rfl, a1, a2⟩ := R1
        obtain ⟨y, yr, rfl, b1, b2⟩ := R2
        cases r1 with
        | cons c1 d1 =>
          cases r2 with
          | cons c2 d2 =>
            rename_i u1 ur1 u2 ur2
            obtain ⟨kv, rs, e1, e2, e3, e4⟩ := pairs_have (prog := prog) (w := w) hp a2 b2 d1 d2
            have hx := keyD_kV a1
            subst hx
            refine ⟨(kk, y) :: kv, (kk, u2) :: rs, ⟨_, _, rfl, ⟨rfl, b1⟩, e1⟩, .cons ⟨rfl, c2⟩ e2, ?_, fun i key v e => ?_⟩
            · simp only [List.length_cons, e3]; omega
            · cases i with
              | zero =>
                obtain ⟨z1, z2⟩ := e
                simp at z1 z2
                subst z1 z2
                exact ⟨kk, rfl, kV_is c1⟩
              | succ i =>
                obtain ⟨z1, z2⟩ := e
                obtain ⟨k', y1, y2⟩ := e4 i key v ⟨by simpa using z1, by simpa using z2⟩
                exact ⟨k', by simpa using y1, y2⟩
    · rw [if_neg hk] at h; cases h
theorem n_arg2 {ma mb : ME} {e : Env} {t : D} {σ : L2.St} {H H0 : Hp} {p : Addr} {Q : VK} {f : D → D → Env → D → R D} (S : SI (tb X c) n e t σ H0 H p) (h : RN (tb X c) n σ H0 p Q W ((ma e t).bind fun x e t => (mb e t).bind fun y e t => f x y e t)) :
    tCons (tE (tb X c) n W ma) (tCons (tE (tb X c) n W mb) tNil) σ H (fun vs G => ∃ v u, vs = [v, u] ∧ ∃ d d' e1 t1 G0, SI (tb X c) n e1 t1 σ G0 G p ∧ Ext H0 G0 ∧ Rep (tb X c) G0 d v ∧ Rep (tb X c) G0 d' u ∧ RN (tb X c) n σ H0 p Q W (f d d' e1 t1)) := by
  refine ⟨e, t, H0, p, S, ?_⟩
  cases hm : ma e t with
  | err kk fs => rw [hm] at h; exact h
  | stuck => rw [hm] at h; exact h
  | ok d e1 t1 =>
    rw [hm, R.bind_ok] at h
    intro v G0 G S1 x1 R1
    refine ⟨e1, t1, G0, p, S1, ?_⟩
    cases hm2 : mb e1 t1 with
    | err kk fs => rw [hm2] at h; exact h
    | stuck => rw [hm2] at h; exact h
    | ok d' e2 t2 =>
      rw [hm2, R.bind_ok] at h
      intro u K0 K S2 x2 R2
      exact ⟨v, u, rfl, d, d', e2, t2, K0, S2, x1.trans x2, R1.ext x2, R2, h⟩
/-- dict(zip(a, b)) -/
theorem n_dzip {a b : Expr} {ma mb : ME} {p p2 pos pos2 : Pos} (h : Ok X k W) (hgd : Gl X "dict") (hmd : X.mg "dict" = none) (hg : Gl X "zip") (hm : X.mg "zip" = none) (ha : PM X c n W a ma) (hb : PM X c n W b mb) (hs : starEach [a, b] X.env = (false, eval a X.env) :: starEach [b] X.env) (hs2 : starEach [b] X.env = (false, eval b X.env) :: starEach [] X.env)
    (hpl : (backTo pos (starEach [b] X.env)).any (·.1) = false) (hd1 : starEach [.Call (.Name "zip" p) [a, b] [] pos] X.env = (false, eval (.Call (.Name "zip" p) [a, b] [] pos) X.env) :: starEach [] X.env) :
    PNw X c n W (.Call (.Name "dict" p2) [.Call (.Name "zip" p) [a, b] [] pos] [] pos2) (m2 pDictZip ma mb) := by
  refine ⟨fun pins s σ H Q I ⟨e, t, H0, p, S, q⟩ => ?_⟩
  refine wpAny_Call_Name_kw (ld_blt I hgd hmd PyProof.Rows.boot_dict ?_ (by decide) rfl)
  refine PyProof.Rows.callWith_type1 ?_ hd1 rfl
  rw [hd1]
  show wpAny _ _ (spliced ((false, eval (.Call (.Name "zip" _) [a, b] [] pos) X.env) :: backTo pos2 (starEach [] X.env))) _ _ s
  refine Calls.spliced_cons ?_
  refine Call_ (ld_blt I hg hm PyProof.Rows.boot_zip (PyProof.Rows.callWith_type1 (thn ((pa_cons ha (pa_cons hb pa_nil hs2) hs).run pos pins s σ H _ I (n_arg2 S q)) fun us s1 ⟨vs, H1, I1, r1, v, v2, ev, d, d2, e1, t1, G0, S1, x1, R1, R2, q1⟩ => ?_) hs hpl))
  subst ev
  obtain ⟨u, u2, rfl, ru, ru2⟩ := vals2 r1
  unfold pDictZip at q1
  cases hd : seqR d with
  | none => rw [hd] at q1; exact q1.elim
  | some xs =>
    cases hd2 : seqR d2 with
    | none => rw [hd, hd2] at q1; exact q1.elim
    | some ys =>
      rw [hd, hd2] at q1
      dsimp only at q1
      cases hp : pairKs xs ys with
      | none => rw [hp] at q1; exact q1.elim
      | some kvs =>
        rw [hp, Option.bind_some] at q1
        by_cases hl : kvs.length ≤ 1000
        · rw [if_pos hl] at q1
          obtain ⟨a, o, IT, vs, Con, rfl, Sr, hC, R⟩ := src_rep hd R1
          obtain ⟨a2, o2, IT2, vs2, Con2, rfl, Sr2, hC2, R'⟩ := src_rep hd2 R2
          obtain rfl : u = Value.ref a := ru
          obtain rfl : u2 = Value.ref a2 := ru2
          obtain ⟨There, us, rv, th, B, ⟨hal, liv⟩, tha, hD⟩ := Sr.has X rfl rfl rfl pins σ H1 s1 I1 (Sr.ext _ _ hC S1.sub)
          obtain ⟨There2, us2, rv2, th2, B2, ⟨hal2, liv2⟩, tha2, hD2⟩ := Sr2.has X rfl rfl rfl pins σ H1 s1 I1 (Sr2.ext _ _ hC2 S1.sub)
          obtain ⟨kv, rs, m1, m2, m3⟩ := pairs_have (prog := X.prog) (w := X.w) hp R R' rv rv2
          have hA : X.A.handled = none := I1.ok.hd h.calm
          refine zip_begins2 B B2 th th2 fun h' hz hTI hTO h1 h2 hsz hk => Calls.spliced_nil ?_
          have hlen : min us.length us2.length = kvs.length := by rw [← m3.1, ← m2.length, m1.length]
          have P := pairArg_zip X.A hA (prog := X.prog) (w := X.w) (z := s1.heap.objs.size + 4) (zip_sep hal hal2) (fun A hA => hD A hA s1.heap.objs.size (Nat.ne_of_lt hal)) (fun A hA => hD2 A hA (s1.heap.objs.size + 1) (Nat.ne_of_lt (Nat.lt_succ_of_lt hal2)))
            (fun h x => liv h x.2) (fun h x => liv2 h x.2)
          refine call_dict_pairs (s := { s1 with heap := h' }) (knd := mixKind X.prog X.w) P hA ⟨hz, hTI, ⟨_, _, hTO⟩, ⟨Sr.st _ _ h1, tha _ _ th fun o e => hk _ _ e⟩, ⟨Sr2.st _ _ h2, tha2 _ _ th2 fun o e => hk _ _ e⟩⟩ m3 (by rw [hlen, ← lim_eq]; exact Nat.le_trans hl (by decide)) fun h'' tk dd hk2 => ?_
          have old : ∀ b o, s1.heap.get? b = some o → h''.get? b = some o := fun b o e => hk2 b o (fun hm => by
            have hb : b < s1.heap.objs.size := Heap.lt_size e
            have e' : b = s1.heap.objs.size + 4 ∨ b = s1.heap.objs.size + 3 ∨ b = s1.heap.objs.size ∨ b = s1.heap.objs.size + 1 := by simpa using hm
            have e' : @Eq Nat b (s1.heap.objs.size + 4) ∨ @Eq Nat b (s1.heap.objs.size + 3) ∨ @Eq Nat b s1.heap.objs.size ∨ @Eq Nat b (s1.heap.objs.size + 1) := e'
            have hb : @LT.lt Nat _ b s1.heap.objs.size := hb
            omega) (hk b o e)
          have big : s1.heap.objs.size ≤ h'.objs.size := by rw [hsz]; exact Nat.le_add_right _ _
          obtain ⟨g1, g2⟩ := merge_rep (acc := []) (akv := []) m1 rfl .nil
          have ob : ObjOk X.prog X.w (upd H1 h'.objs.size (.dK (mergeK [] kv))) h'' h'.objs.size (.dK (mergeK [] kv)) := by
            have km := KV.merge m2 (kvs := []) (vs := []) .nil
            refine ⟨?_, beq_eq_false_iff_ne.mpr (Ne.symm (Nat.ne_of_lt (Nat.lt_of_lt_of_le I1.big big))), _, km, dd⟩
            rw [km.length]
            have := merged_length ([] : List (Key × Value)) rs
            rw [m3.1, hlen] at this
            rw [← lim_eq]
            have h3 : (1000 : Nat) ≤ lim := by decide
            simp at this
            omega
          have J := I1.laid (t' := tk) old big ob
          have hN : H1 h'.objs.size = none := I1.hok.fresh big
          obtain ⟨S2, F2⟩ := S1.lay (o := .dK (mergeK [] kv)) hN
          exact ⟨.ref h'.objs.size, _, J, rfl, q1 _ _ _ S2 x1 ⟨_, upd_same, g1, g2⟩ F2⟩
        · rw [if_neg hl] at q1; exact q1.elim
end
end DI
set_option linter.all false
set_option Elab.async false
set_option maxRecDepth 100000
set_option maxHeartbeats 4000000
/-! DGen: the rules in short, as a program prints them. -/
namespace DI
open PySem PySem.Spec PyProof.Rows L2
/-- a def of the module, by name -/
structure Cal (P : Program) (w : World) (K : PySem.W.Frag) (mg : Str → Option Value) (base : Heap) (c : CT) (k : Nat) (x : Str) (ar : Nat) (f : Fn) : Prop where
  ex : ∃ a, mg x = some (.ref a) ∧ PySem.W.keepIn K (.ref a) = true ∧ ∃ fd ps, Binds K fd ps [] ∧ FnOk P w K mg base (L2.CX P w) k a fd ps (spD ⟨K, w, c.ca, c.cf⟩ ar f)
/-- a class with an __init__, by name -/
structure CalC (P : Program) (w : World) (K : PySem.W.Frag) (mg : Str → Option Value) (base : Heap) (c : CT) (k : Nat) (x : Str) (cid ar : Nat) (f : Fn) : Prop where
  gm : mg x = some (.ref (c.ca cid))
  ex : ∃ a, Mk K (c.ca cid) a ∧ ∃ fd ps, Binds K fd ps [] ∧ FnOk P w K mg base (L2.CX P w) k a fd ps (spD ⟨K, w, c.ca, c.cf⟩ ar f)
section
variable {X : Cx} {c : CT} {n : Ent} {W : XW} {k : Nat}
theorem Ok.mono {j : Nat} (h : Ok X k W) (hj : j ≤ k) : Ok X j W := ⟨h.calm, h.room.mono hj, h.nd, h.tk⟩
theorem Ok.blk (h : Ok X k W) (s : Shared) (H : Hp) (scope : Scope) (cenv : PySem.Env) (fp : List Addr) : Ok (X.blk s H scope cenv fp) k W0 := ⟨h.calm, h.room, h.nd, takes0⟩
theorem r_v (i : Nat) {x : Str} {pos : Pos} (hN : X.N[i]? = some x := by rfl) (hv : Vis X.env.scope x := by first | exact Or.inl rfl | exact Or.inr (Or.inl rfl) | exact Or.inr (Or.inr rfl)) (hd : (x == ("__debug__" : Str)) = false := by decide) (hcd : (x == ("__classdict__" : Str)) = false := by decide) :
    PM X c n W (.Name x pos) (mVar i) := m_var hN hv hd hcd
theorem r_g {x : Str} {d : D} {v : V} {u : Value} {pos : Pos} (hm : X.mg x = some u ∧ RelV v u ∧ Rep (tb X c) (fun _ => none) d v) (hg : Gl X x := by rfl) (hd : (x == ("__debug__" : Str)) = false := by decide) : PM X c n W (.Name x pos) (mConst d) := m_glob hg hm.1 hm.2.1 hm.2.2 hd
theorem r_call {x : Str} {ar j : Nat} {f : Fn} {e1 : Expr} {es : List Expr} {ms : List ME} {p pos : Pos} (h : Ok X k W) (C : Cal X.prog X.w X.K X.mg X.base c j x ar f) (ha : PMs X c n W (e1 :: es) (mArgs ms)) (hj : j ≤ k := by first | decide | omega) (hl : ms.length = ar := by rfl) (hg : Gl X x := by rfl) (hdb : (x == ("__debug__" : Str)) = false := by decide)
    (he : starEach (e1 :: es) X.env = (false, eval e1 X.env) :: starEach es X.env := by rfl) (hpl : (backTo pos (starEach es X.env)).any (·.1) = false := by rfl) : PM X c n W (.Call (.Name x p) (e1 :: es) [] pos) (mCall f ms) := by
  obtain ⟨a, hm, hk, F⟩ := C.ex
  exact m_call (h.mono hj) ⟨F⟩ hg hm hk hl ha hdb he hpl
theorem r_call0 {x : Str} {j : Nat} {f : Fn} {p pos : Pos} (h : Ok X k W) (C : Cal X.prog X.w X.K X.mg X.base c j x 0 f) (hj : j ≤ k := by first | decide | omega) (hg : Gl X x := by rfl) (hdb : (x == ("__debug__" : Str)) = false := by decide) : PM X c n W (.Call (.Name x p) [] [] pos) (mCall f []) := by
  obtain ⟨a, hm, hk, F⟩ := C.ex
  exact m_call0 (h.mono hj) ⟨F⟩ hg hm hk hdb
theorem r_callT {x : Str} {ar j : Nat} {f : Fn} {e1 : Expr} {es : List Expr} {ms : List Arg} {p pos : Pos} (h : Ok X k W) (C : Cal X.prog X.w X.K X.mg X.base c j x ar f) (ha : PMo X c n W (e1 :: es) ms) (hj : j ≤ k := by first | decide | omega) (hl : ms.length = ar := by rfl) (hg : Gl X x := by rfl) (hdb : (x == ("__debug__" : Str)) = false := by decide)
    (he : starEach (e1 :: es) X.env = (false, eval e1 X.env) :: starEach es X.env := by rfl) (hpl : (backTo pos (starEach es X.env)).any (·.1) = false := by rfl) : PM X c n W (.Call (.Name x p) (e1 :: es) [] pos) (mCallT f ms) := by
  obtain ⟨a, hm, hk, F⟩ := C.ex
  exact m_callT (h.mono hj) ⟨F⟩ hg hm hk hl ha hdb he hpl
theorem r_new {x : Str} {cid ar j : Nat} {f : Fn} {e1 : Expr} {es : List Expr} {ms : List ME} {p pos : Pos} (h : Ok X k W) (C : CalC X.prog X.w X.K X.mg X.base c j x cid (ar + 1) f) (ha : PMs X c n W (e1 :: es) (mArgs ms)) (hj : j + 1 ≤ k := by first | decide | omega) (hl : ms.length = ar := by rfl) (hg : Gl X x := by rfl) (hdb : (x == ("__debug__" : Str)) = false := by decide)
    (he : starEach (e1 :: es) X.env = (false, eval e1 X.env) :: starEach es X.env := by rfl) (hpl : (backTo pos (starEach es X.env)).any (·.1) = false := by rfl) : PNw X c n W (.Call (.Name x p) (e1 :: es) [] pos) (mNew cid f ms) := by
  obtain ⟨a, M, F⟩ := C.ex
  exact m_new (h.mono hj) ⟨F⟩ M hg C.gm hl ha hdb he hpl
theorem r_new0 {x : Str} {cid j : Nat} {f : Fn} {p pos : Pos} (h : Ok X k W) (C : CalC X.prog X.w X.K X.mg X.base c j x cid 1 f) (hj : j + 1 ≤ k := by first | decide | omega) (hg : Gl X x := by rfl) (hdb : (x == ("__debug__" : Str)) = false := by decide) : PNw X c n W (.Call (.Name x p) [] [] pos) (mNew cid f []) := by
  obtain ⟨a, M, F⟩ := C.ex
  exact m_new0 (h.mono hj) ⟨F⟩ M hg C.gm hdb
theorem r_nil : PMs X c n W [] (mArgs []) := a_nil
theorem r_cons {a : Expr} {es : List Expr} {ma : ME} {ms : List ME} (ha : PM X c n W a ma) (hr : PMs X c n W es (mArgs ms)) (hs : starEach (a :: es) X.env = (false, eval a X.env) :: starEach es X.env := by rfl) : PMs X c n W (a :: es) (mArgs (ma :: ms)) := a_cons ha hr hs
theorem r_ov {a : Expr} {es : List Expr} {ma : ME} {ms : List Arg} (ha : PM X c n W a ma) (hr : PMo X c n W es ms) (hs : starEach (a :: es) X.env = (false, eval a X.env) :: starEach es X.env := by rfl) : PMo X c n W (a :: es) (.v ma :: ms) := ao_v ha hr hs
theorem r_ot (i : Nat) {es : List Expr} {ms : List Arg} {x : Str} {pos : Pos} (hr : PMo X c n W es ms) (hN : X.N[i]? = some x := by rfl) (hv : Vis X.env.scope x := by first | exact Or.inl rfl | exact Or.inr (Or.inl rfl) | exact Or.inr (Or.inr rfl)) (hd : (x == ("__debug__" : Str)) = false := by decide) (hcd : (x == ("__classdict__" : Str)) = false := by decide)
    (hs : starEach (.Name x pos :: es) X.env = (false, eval (.Name x pos) X.env) :: starEach es X.env := by rfl) : PMo X c n W (.Name x pos :: es) (.t i :: ms) := ao_t hN hv hd hcd hr hs
theorem r_tup {es : List Expr} {ms : List ME} {x1} {pos : Pos} (h : PMs X c n W es (mArgs ms)) (hl : ms.length ≤ 1000 := by decide) : PM X c n W (.Tuple es x1 pos) (mTup ms) := m_tup h (by rw [← lim_eq]; exact Nat.le_trans hl (by decide)) (mArgs_len ms)
theorem r_lst {es : List Expr} {ms : List ME} {pos : Pos} (h : PMs X c n W es (mArgs ms)) (hl : ms.length ≤ 1000 := by decide) : PNw X c n W (.List es pos) (mLst ms) := m_lst h (by rw [← lim_eq]; exact Nat.le_trans hl (by decide)) (mArgs_len ms)
variable {a b : Expr} {ma mb : ME} {pos : Pos} {g : D → D → Option D}
theorem r_cmp {op : CmpOp} (hf : Op2 X c (compareOp op) g) (ha : PM X c n W a ma) (hb : PM X c n W b mb) (hm : behindInMarks op b = false := by rfl) : PM X c n W (.Compare a [op] [b] pos) (m2 g ma mb) := m_cmp hf ha hb hm
theorem r_bcmp {op : CmpOp} (hf : Op2 X c (compareOp op) g) (ha : PM X c n W a ma) (hb : PM X c n W b mb) (hm : behindInMarks op b = false := by rfl) : PB X c n W (.Compare a [op] [b] pos) (m2 g ma mb) := b_cmp hf ha hb hm
theorem r_eq {ks : List (Nat × Fn)} {j : Nat} (h : Ok X k W) (hk : ∀ cid f, tab cid ks = some f → EqH X c j cid f) (ha : PM X c n W a ma) (hb : PM X c n W b mb) (hj : j ≤ k := by first | decide | omega) (hm : behindInMarks .Eq b = false := by rfl) : PM X c n W (.Compare a [.Eq] [b] pos) (mEq ks ma mb) := m_eq (h.mono hj) hk ha hb hm
theorem r_beq {ks : List (Nat × Fn)} {j : Nat} (h : Ok X k W) (hk : ∀ cid f, tab cid ks = some f → EqH X c j cid f) (ha : PM X c n W a ma) (hb : PM X c n W b mb) (hj : j ≤ k := by first | decide | omega) (hm : behindInMarks .Eq b = false := by rfl) : PB X c n W (.Compare a [.Eq] [b] pos) (mEq ks ma mb) := b_eq (h.mono hj) hk ha hb hm
theorem r_ne {ks : List (Nat × Fn)} {j : Nat} (h : Ok X k W) (hk : ∀ cid f, tab cid ks = some f → EqH X c j cid f) (ha : PM X c n W a ma) (hb : PM X c n W b mb) (hj : j + 1 ≤ k := by first | decide | omega) (hm : behindInMarks .NotEq b = false := by rfl) : PM X c n W (.Compare a [.NotEq] [b] pos) (mNe ks ma mb) := m_ne (h.mono hj) hk ha hb hm
theorem r_bne {ks : List (Nat × Fn)} {j : Nat} (h : Ok X k W) (hk : ∀ cid f, tab cid ks = some f → EqH X c j cid f) (ha : PM X c n W a ma) (hb : PM X c n W b mb) (hj : j + 1 ≤ k := by first | decide | omega) (hm : behindInMarks .NotEq b = false := by rfl) : PB X c n W (.Compare a [.NotEq] [b] pos) (mNe ks ma mb) := b_ne (h.mono hj) hk ha hb hm
theorem no_eq : ∀ (cid : Nat) (f : Fn), tab cid ([] : List (Nat × Fn)) = some f → EqH X c 0 cid f := fun _ _ h => nomatch h
/-- a test of no form of its own -/
theorem r_b {ex : Expr} {m : ME} (h : PM X c n W ex m) (he : ∀ whole, isTrue ex X.env whole = (do let v ← whole; standAt ex.pos; holding [v] (truthy v)) := by intro _; rfl) : PB X c n W ex m := b_of h he
theorem r_item (h : Ok X k W) (ha : PM X c n W a ma) (hb : PM X c n W b mb) (hs : PlainIx b := by exact fun _ _ => rfl) : PM X c n W (.Subscript a b pos) (m2 pItem ma mb) := m_item h ha hb hs
theorem r_attr {f : Str} {ks : List (Nat × AttrK)} {j : Nat} (h : Ok X k W) (hk : ∀ cid a, tab cid ks = some a → AtH X c j f cid a) (ha : PM X c n W a ma) (hj : j + 1 ≤ k := by first | decide | omega) (hab : attributeBase a f X.env (eval a X.env) = eval a X.env := by rfl) : PM X c n W (.Attribute a f pos) (mAttr ks ma) := m_attr (h.mono hj) hk ha hab
theorem r_attrT (i : Nat) {f : Str} {ks : List (Nat × AttrK)} {x : Str} {pos' : Pos} {j : Nat} (h : Ok X k W) (hk : ∀ cid a, tab cid ks = some a → AtH X c j f cid a) (hj : j + 1 ≤ k := by first | decide | omega) (hN : X.N[i]? = some x := by rfl) (hv : Vis X.env.scope x := by first | exact Or.inl rfl | exact Or.inr (Or.inl rfl) | exact Or.inr (Or.inr rfl)) (hd : (x == ("__debug__" : Str)) = false := by decide) (hcd : (x == ("__classdict__" : Str)) = false := by decide)
    (hab : attributeBase (.Name x pos') f X.env (eval (.Name x pos') X.env) = eval (.Name x pos') X.env := by rfl) : PM X c n W (.Attribute (.Name x pos') f pos) (mAttrT i ks) := m_attrT (h.mono hj) hk hN hv hd hcd hab
theorem r_blt {x : Str} {id : String} {gg : List D → Option D} {e : Expr} {es : List Expr} {ms : List ME} {p : Pos} (hc : Blt X c (.builtin id) gg) (hm : X.mg x = none) (hv : bootBuiltins x = some (.builtin id)) (ha : PMs X c n W (e :: es) (mArgs ms)) (hg : Gl X x := by rfl) (hn : x ≠ "__name__" := by decide) (hdb : (x == ("__debug__" : Str)) = false := by decide)
    (he : starEach (e :: es) X.env = (false, eval e X.env) :: starEach es X.env := by rfl) (hpl : (backTo pos (starEach es X.env)).any (·.1) = false := by rfl) : PM X c n W (.Call (.Name x p) (e :: es) [] pos) (mN gg ms) := m_blt hc hg hm hv ha hn hdb he hpl
theorem r_bltT {x : Str} {id : String} {gg : List D → Option D} {e : Expr} {es : List Expr} {ms : List ME} {p : Pos} (hc : Blt X c (.type id) gg) (hm : X.mg x = none) (hv : bootBuiltins x = some (.type id)) (ha : PMs X c n W (e :: es) (mArgs ms)) (hg : Gl X x := by rfl) (hn : x ≠ "__name__" := by decide) (hdb : (x == ("__debug__" : Str)) = false := by decide)
    (he : starEach (e :: es) X.env = (false, eval e X.env) :: starEach es X.env := by rfl) (hpl : (backTo pos (starEach es X.env)).any (·.1) = false := by rfl) : PM X c n W (.Call (.Name x p) (e :: es) [] pos) (mN gg ms) := m_bltT hc hg hm hv ha hn hdb he hpl
theorem r_nblt {x : Str} {id : String} {gg : List D → Option D} {e : Expr} {es : List Expr} {ms : List ME} {p : Pos} (hc : BltN X c (.builtin id) gg) (hm : X.mg x = none) (hv : bootBuiltins x = some (.builtin id)) (ha : PMs X c n W (e :: es) (mArgs ms)) (hg : Gl X x := by rfl) (hn : x ≠ "__name__" := by decide) (hdb : (x == ("__debug__" : Str)) = false := by decide)
    (he : starEach (e :: es) X.env = (false, eval e X.env) :: starEach es X.env := by rfl) (hpl : (backTo pos (starEach es X.env)).any (·.1) = false := by rfl) : PNw X c n W (.Call (.Name x p) (e :: es) [] pos) (mN gg ms) := n_blt hc hg hm hv ha hn hdb he hpl
theorem r_nbltT {x : Str} {id : String} {gg : List D → Option D} {e : Expr} {es : List Expr} {ms : List ME} {p : Pos} (hc : BltN X c (.type id) gg) (hm : X.mg x = none) (hv : bootBuiltins x = some (.type id)) (ha : PMs X c n W (e :: es) (mArgs ms)) (hg : Gl X x := by rfl) (hn : x ≠ "__name__" := by decide) (hdb : (x == ("__debug__" : Str)) = false := by decide)
    (he : starEach (e :: es) X.env = (false, eval e X.env) :: starEach es X.env := by rfl) (hpl : (backTo pos (starEach es X.env)).any (·.1) = false := by rfl) : PNw X c n W (.Call (.Name x p) (e :: es) [] pos) (mN gg ms) := n_bltT hc hg hm hv ha hn hdb he hpl
/-! ### statements -/
theorem r_ret (h : PM X c n W a ma) : PSt X c n W (.Return (some a) pos) (sRet ma) := s_ret h
theorem r_expr (h : PM X c n W a ma) (hs : swapsWith a none pos.line X.env = pure false := by rfl) : PSt X c n W (.Expr a pos) (sExpr ma) := s_expr h hs
theorem r_set (i : Nat) {x : Str} {pos' : Pos} (o : Ok X k W) (h : PM X c n W a ma) (hi : X.N[i]? = some x := by rfl) (hx : Loc X.env.scope x := by first | exact Or.inl rfl | exact Or.inr rfl) (hf : X.fn x = true ∨ X.env.scope.names.lookup x = some .local := by first | exact Or.inr rfl | exact Or.inl rfl)
    (hs : swapsWith a (some (.Name x pos')) pos.line X.env = pure false := by rfl) : PSt X c n W (.Assign [.Name x pos'] a pos) (sSet i ma) := s_set o.nd hi hx hf h hs
theorem r_own (i : Nat) {x : Str} {pos' : Pos} (o : Ok X k W) (h : PNw X c n W a ma) (hi : X.N[i]? = some x := by rfl) (hx : Loc X.env.scope x := by first | exact Or.inl rfl | exact Or.inr rfl) (hf : X.fn x = true ∨ X.env.scope.names.lookup x = some .local := by first | exact Or.inr rfl | exact Or.inl rfl)
    (hs : swapsWith a (some (.Name x pos')) pos.line X.env = pure false := by rfl) : PSt X c n W (.Assign [.Name x pos'] a pos) (sOwn i ma) := s_own o.nd hi hx hf h hs
theorem r_for {tg it : Expr} {body : List Stmt} {mi : ML} {gg : Tgt} {mb : MS} [StA mi] [StM mb] (o : Ok X k W) (hi : PIt X c n W tg it mi) (hg : PTg X c n tg gg) (hb : PSts X c n W body mb) (hp : PassesOwn (model X.prog X.w) X.A X.env X.xe := by exact passes_of rfl) (hs : ∀ x, foldedSetIterable it X.env x = pure x := by intro _; rfl) :
    PSt X c n W (.For tg it body [] pos) (sFor gg mi mb) := s_for hp o.calm hi hg hb hs (fun e t => by
      have := StA.st (m := mi) e t
      cases h : mi e t with
      | ok _ e' t' => rw [h] at this; exact fun z y => z (this.mp y)
      | err _ _ => trivial
      | stuck => trivial) StM.st
theorem r_g1 (i : Nat) {x : Str} (o : Ok X k W) (hi : X.N[i]? = some x := by rfl) (hx : Loc X.env.scope x := by first | exact Or.inl rfl | exact Or.inr rfl) (hf : X.fn x = true ∨ X.env.scope.names.lookup x = some .local := by first | exact Or.inr rfl | exact Or.inl rfl) : PTg X c n (.Name x pos) (.one i) := g_one o.nd hi hx hf
theorem r_g2 (i j : Nat) {x y : Str} {p1 p2 : Pos} {kk : Nat} (o : Ok X k W) (hi : X.N[i]? = some x := by rfl) (hx : Loc X.env.scope x := by first | exact Or.inl rfl | exact Or.inr rfl) (hf : X.fn x = true ∨ X.env.scope.names.lookup x = some .local := by first | exact Or.inr rfl | exact Or.inl rfl)
    (hi2 : X.N[j]? = some y := by rfl) (hx2 : Loc X.env.scope y := by first | exact Or.inl rfl | exact Or.inr rfl) (hf2 : X.fn y = true ∨ X.env.scope.names.lookup y = some .local := by first | exact Or.inr rfl | exact Or.inl rfl) : PTg X c n (.Tuple [.Name x p1, .Name y p2] kk pos) (.many [i, j]) :=
  g_many o.calm o.nd ⟨[(x, p1), (y, p2)], rfl, rfl, fun m x' pos' i' h1 h2 => by
    match m with
    | 0 => cases h1; cases h2; exact ⟨hi, hx, hf⟩
    | 1 => cases h1; cases h2; exact ⟨hi2, hx2, hf2⟩
    | m + 2 => cases h1⟩
theorem r_g3 (i j l : Nat) {x y z : Str} {p1 p2 p3 : Pos} {kk : Nat} (o : Ok X k W) (hi : X.N[i]? = some x := by rfl) (hx : Loc X.env.scope x := by first | exact Or.inl rfl | exact Or.inr rfl) (hf : X.fn x = true ∨ X.env.scope.names.lookup x = some .local := by first | exact Or.inr rfl | exact Or.inl rfl)
    (hi2 : X.N[j]? = some y := by rfl) (hx2 : Loc X.env.scope y := by first | exact Or.inl rfl | exact Or.inr rfl) (hf2 : X.fn y = true ∨ X.env.scope.names.lookup y = some .local := by first | exact Or.inr rfl | exact Or.inl rfl)
    (hi3 : X.N[l]? = some z := by rfl) (hx3 : Loc X.env.scope z := by first | exact Or.inl rfl | exact Or.inr rfl) (hf3 : X.fn z = true ∨ X.env.scope.names.lookup z = some .local := by first | exact Or.inr rfl | exact Or.inl rfl) : PTg X c n (.Tuple [.Name x p1, .Name y p2, .Name z p3] kk pos) (.many [i, j, l]) :=
  g_many o.calm o.nd ⟨[(x, p1), (y, p2), (z, p3)], rfl, rfl, fun m x' pos' i' h1 h2 => by
    match m with
    | 0 => cases h1; cases h2; exact ⟨hi, hx, hf⟩
    | 1 => cases h1; cases h2; exact ⟨hi2, hx2, hf2⟩
    | 2 => cases h1; cases h2; exact ⟨hi3, hx3, hf3⟩
    | m + 3 => cases h1⟩
theorem r_put {tg : Expr} {gg : Tgt} (h : PM X c n W a ma) (hg : PTg X c n tg gg) (hs : swapsWithSole [tg] a pos.line X.env = pure false := by rfl) (hw : swappedStores [tg] a X.env = pure none := by rfl) (h1 : (assignEach [tg] X.env).map (·.2) = [assign tg X.env] := by rfl) :
    PSt X c n W (.Assign [tg] a pos) (sPut gg ma) := s_put h hg hs hw h1
theorem r_fld (i : Nat) {x f : Str} {px pos' : Pos} {ks : List (Nat × Nat)} (hk : ∀ cid j, tab cid ks = some j → FldH X c f cid j) (hv : PM X c n W a ma) (hN : X.N[i]? = some x := by rfl) (hvs : Vis X.env.scope x := by first | exact Or.inl rfl | exact Or.inr (Or.inl rfl) | exact Or.inr (Or.inr rfl)) (hd : (x == ("__debug__" : Str)) = false := by decide) (hcd : (x == ("__classdict__" : Str)) = false := by decide)
    (hs : swapsWith a (some (.Attribute (.Name x px) f pos')) pos.line X.env = pure false := by rfl) : PSt X c n W (.Assign [.Attribute (.Name x px) f pos'] a pos) (sFld i ks ma) := s_fld hk hv hN hvs hd hcd hs
theorem r_app (i : Nat) {x : Str} {px apos cpos : Pos} (ha : PM X c n W a ma) (hN : X.N[i]? = some x := by rfl) (hvs : Vis X.env.scope x := by first | exact Or.inl rfl | exact Or.inr (Or.inl rfl) | exact Or.inr (Or.inr rfl)) (hd : (x == ("__debug__" : Str)) = false := by decide) (hcd : (x == ("__classdict__" : Str)) = false := by decide)
    (hst : starEach [a] X.env = (false, eval a X.env) :: starEach [] X.env := by rfl) (hbase : attributeBase (.Name x px) "append" X.env (eval (.Name x px) X.env) = eval (.Name x px) X.env := by rfl)
    (hfew : ((backTo cpos (starEach [a] X.env)).all (fun x => !x.1) && (backToKw cpos (keywordEach [] X.env)).all (fun x => x.1.isSome) && decide (([a] : List Expr).length + ([] : List Keyword).length + (if ([] : List Keyword).isEmpty then 0 else 1) < 30)) = true := by rfl)
    (hline : (apos.endLine == cpos.line) = true := by rfl) (hplain : (backTo cpos (starEach [] X.env)).any (·.1) = false := by rfl) (hs : swapsWith (.Call (.Attribute (.Name x px) "append" apos) [a] [] cpos) none pos.line X.env = pure false := by rfl) :
    PSt X c n W (.Expr (.Call (.Attribute (.Name x px) "append" apos) [a] [] cpos) pos) (sApp i ma) := s_app hN hvs hd hcd ha hst hbase hfew hline hplain hs
theorem r_store (i : Nat) {x : Str} {px pos' : Pos} {value key : Expr} {mk mv : ME} (h : Ok X k W) (hk : PM X c n W key mk) (hv : PM X c n W value mv) (hN : X.N[i]? = some x := by rfl) (hvs : Vis X.env.scope x := by first | exact Or.inl rfl | exact Or.inr (Or.inl rfl) | exact Or.inr (Or.inr rfl)) (hd : (x == ("__debug__" : Str)) = false := by decide) (hcd : (x == ("__classdict__" : Str)) = false := by decide)
    (ha : ∀ v, assign (.Subscript (.Name x px) key pos') X.env v = (do
      let ov ← holding [v] (eval (.Name x px) X.env)
      let iv ← holding [v, ov] (eval key X.env)
      standAt pos'
      holding [v, ov, iv] (setItem ov iv v)
      release [v, ov, iv] []) := by intro _; rfl)
    (hs : swapsWithSole [.Subscript (.Name x px) key pos'] value pos.line X.env = pure false := by rfl) (hw : swappedStores [.Subscript (.Name x px) key pos'] value X.env = pure none := by rfl) (h1 : (assignEach [.Subscript (.Name x px) key pos'] X.env).map (·.2) = [assign (.Subscript (.Name x px) key pos') X.env] := by rfl) :
    PSt X c n W (.Assign [.Subscript (.Name x px) key pos'] value pos) (sStore i mk mv) := s_store h hN hvs hd hcd hk hv ha hs hw h1
theorem r_raise1 {cid : Nat} {f x : Str} {p pos2 : Pos} {j : Nat} (h : Ok X k W) (E : ExH X c j cid f) (hm : X.mg x = some (.ref (c.ca cid))) (ha : PM X c n W a ma) (hj : j + 1 ≤ k := by first | decide | omega) (hg : Gl X x := by rfl) (hdb : (x == ("__debug__" : Str)) = false := by decide)
    (he : starEach [a] X.env = (false, eval a X.env) :: starEach [] X.env := by rfl) (hpl : (backTo pos (starEach [] X.env)).any (·.1) = false := by rfl) : PSt X c n W (.Raise (some (.Call (.Name x p) [a] [] pos)) none pos2) (sRaise cid [ma]) := s_raise1 (h.mono hj) E hg hm ha hdb he hpl
theorem r_range {tg : Expr} {p : Pos} (hm : X.mg "range" = none) (ha : PM X c n W a ma) (hg : Gl X "range" := by rfl) (hs : starEach [a] X.env = [(false, eval a X.env)] := by rfl) : PIt X c n W tg (.Call (.Name "range" p) [a] [] pos) (iRange ma) := it_range hg hm ha hs
theorem r_range2 {tg : Expr} {p : Pos} (hm : X.mg "range" = none) (ha : PM X c n W a ma) (hb : PM X c n W b mb) (hg : Gl X "range" := by rfl) (hs : starEach [a, b] X.env = (false, eval a X.env) :: starEach [b] X.env := by rfl) (hs2 : starEach [b] X.env = (false, eval b X.env) :: starEach [] X.env := by rfl)
    (hpl : (backTo pos (starEach [b] X.env)).any (·.1) = false := by rfl) : PIt X c n W tg (.Call (.Name "range" p) [a, b] [] pos) (iRange2 ma mb) := it_range2 hg hm ha hb hs hs2 hpl
theorem r_enum {elts : List Expr} {kk : Nat} {tpos p : Pos} (hm : X.mg "enumerate" = none) (ha : PM X c n W a ma) (hg : Gl X "enumerate" := by rfl) (hs : starEach [a] X.env = [(false, eval a X.env)] := by rfl) : PIt X c n W (.Tuple elts kk tpos) (.Call (.Name "enumerate" p) [a] [] pos) (iEnum ma) := it_enum hg hm ha hs
theorem r_zip {elts : List Expr} {kk : Nat} {tpos p : Pos} (hm : X.mg "zip" = none) (ha : PM X c n W a ma) (hb : PM X c n W b mb) (hg : Gl X "zip" := by rfl) (hs : starEach [a, b] X.env = (false, eval a X.env) :: starEach [b] X.env := by rfl) (hs2 : starEach [b] X.env = (false, eval b X.env) :: starEach [] X.env := by rfl)
    (hpl : (backTo pos (starEach [b] X.env)).any (·.1) = false := by rfl) : PIt X c n W (.Tuple elts kk tpos) (.Call (.Name "zip" p) [a, b] [] pos) (iZip ma mb) := it_zip hg hm ha hb hs hs2 hpl
theorem r_dzip {p p2 pos2 : Pos} (h : Ok X k W) (hmd : X.mg "dict" = none) (hm : X.mg "zip" = none) (ha : PM X c n W a ma) (hb : PM X c n W b mb) (hgd : Gl X "dict" := by rfl) (hg : Gl X "zip" := by rfl) (hs : starEach [a, b] X.env = (false, eval a X.env) :: starEach [b] X.env := by rfl) (hs2 : starEach [b] X.env = (false, eval b X.env) :: starEach [] X.env := by rfl)
    (hpl : (backTo pos (starEach [b] X.env)).any (·.1) = false := by rfl) (hd1 : starEach [.Call (.Name "zip" p) [a, b] [] pos] X.env = (false, eval (.Call (.Name "zip" p) [a, b] [] pos) X.env) :: starEach [] X.env := by rfl) :
    PNw X c n W (.Call (.Name "dict" p2) [.Call (.Name "zip" p) [a, b] [] pos] [] pos2) (m2 pDictZip ma mb) := n_dzip h hgd hmd hg hm ha hb hs hs2 hpl hd1
theorem r_meth {m : Str} {ks : List (Nat × Fn)} {ar : Nat} {pl : Sem Bool} {es : List Expr} {ms : List ME} {apos : Pos} {j : Nat} (h : Ok X k W) (hk : ∀ cid f, tab cid ks = some f → MeH X c j m ar cid f) (ho : PM X c n W a ma) (ha : PMs X c n W es (mArgs ms)) (hj : j ≤ k := by first | decide | omega) (hl : ms.length = ar := by rfl) (hl2 : es.length = ms.length := by rfl)
    (hst : ∀ a es', es = a :: es' → starEach (a :: es') X.env = (false, eval a X.env) :: starEach es' X.env ∧ (backTo pos (starEach es' X.env)).any (·.1) = false := by intro a es' h; cases h <;> exact ⟨rfl, rfl⟩)
    (ht : eval (.Call (.Attribute a m apos) es [] pos) X.env = (do
      let ov ← eval a X.env
      standAt apos.atName
      let (f, first) ← holding [ov] (getMethod ov m pl)
      callWith pos f first (backTo pos (starEach es X.env)) (backToKw pos (keywordEach [] X.env))) := by rfl) : PM X c n W (.Call (.Attribute a m apos) es [] pos) (mMeth ks ma ms) := m_meth (h.mono hj) hk ho ha hl hl2 hst ht
theorem r_methT (i : Nat) {m : Str} {ks : List (Nat × Fn)} {ar : Nat} {pl : Sem Bool} {x : Str} {es : List Expr} {ms : List ME} {apos pos' : Pos} {j : Nat} (h : Ok X k W) (hk : ∀ cid f, tab cid ks = some f → MeH X c j m ar cid f) (ha : PMs X c n W es (mArgs ms)) (hj : j ≤ k := by first | decide | omega) (hN : X.N[i]? = some x := by rfl) (hv : Vis X.env.scope x := by first | exact Or.inl rfl | exact Or.inr (Or.inl rfl) | exact Or.inr (Or.inr rfl)) (hd : (x == ("__debug__" : Str)) = false := by decide) (hcd : (x == ("__classdict__" : Str)) = false := by decide)
    (hl : ms.length = ar := by rfl) (hl2 : es.length = ms.length := by rfl)
    (hst : ∀ a es', es = a :: es' → starEach (a :: es') X.env = (false, eval a X.env) :: starEach es' X.env ∧ (backTo pos (starEach es' X.env)).any (·.1) = false := by intro a es' h; cases h <;> exact ⟨rfl, rfl⟩)
    (ht : eval (.Call (.Attribute (.Name x pos') m apos) es [] pos) X.env = (do
      let ov ← eval (.Name x pos') X.env
      standAt apos.atName
      let (f, first) ← holding [ov] (getMethod ov m pl)
      callWith pos f first (backTo pos (starEach es X.env)) (backToKw pos (keywordEach [] X.env))) := by rfl) : PM X c n W (.Call (.Attribute (.Name x pos') m apos) es [] pos) (mMethT i ks ms) := m_methT (h.mono hj) hk hN hv hd hcd ha hl hl2 hst ht
/-! ### isinstance of built-in classes, of own ones -/
theorem isa_bt {K : PySem.W.Frag} {cc : CT} {nm : String} {f : D → Bool} (h : ∀ d : D, (∀ k fs, d ≠ .obj k fs) → d ≠ .trk → kitB (tyN d) nm = some (f d)) : IsaH K cc [] (.type nm) f := ⟨fun d h1 h2 => kit_ty (h d h1 h2), fun k fs h => by simp at h⟩
theorem isa_int {K : PySem.W.Frag} {cc : CT} : IsaH K cc [] (.type "int") (fun d => isTy d .int) := isa_bt fun d h1 h2 => by cases d <;> first | exact absurd rfl (h1 _ _) | exact absurd rfl h2 | (simp only [tyN, isTy]; decide +kernel)
theorem isa_bool {K : PySem.W.Frag} {cc : CT} : IsaH K cc [] (.type "bool") (fun d => isTy d .bool) := isa_bt fun d h1 h2 => by cases d <;> first | exact absurd rfl (h1 _ _) | exact absurd rfl h2 | (simp only [tyN, isTy]; decide +kernel)
theorem isa_str {K : PySem.W.Frag} {cc : CT} : IsaH K cc [] (.type "str") (fun d => isTy d .str) := isa_bt fun d h1 h2 => by cases d <;> first | exact absurd rfl (h1 _ _) | exact absurd rfl h2 | (simp only [tyN, isTy]; decide +kernel)
theorem isa_list {K : PySem.W.Frag} {cc : CT} : IsaH K cc [] (.type "list") (fun d => isTy d .list) := isa_bt fun d h1 h2 => by cases d <;> first | exact absurd rfl (h1 _ _) | exact absurd rfl h2 | (simp only [tyN, isTy]; decide +kernel)
theorem isa_tuple {K : PySem.W.Frag} {cc : CT} : IsaH K cc [] (.type "tuple") (fun d => isTy d .tuple) := isa_bt fun d h1 h2 => by cases d <;> first | exact absurd rfl (h1 _ _) | exact absurd rfl h2 | (simp only [tyN, isTy]; decide +kernel)
theorem isa_dict {K : PySem.W.Frag} {cc : CT} : IsaH K cc [] (.type "dict") (fun d => isTy d .dict) := isa_bt fun d h1 h2 => by cases d <;> first | exact absurd rfl (h1 _ _) | exact absurd rfl h2 | (simp only [tyN, isTy]; decide +kernel)
theorem no_obs {K : PySem.W.Frag} {cc : CT} : ∀ k, ([] : List Nat).contains k = true → InsT K (cc.ca k) := fun k h => by simp at h
/-- isinstance(e, T), T built in -/
theorem r_isa {x : Str} {nm : String} {f : D → Bool} {p p2 : Pos} (hu : IsaH X.K c [] (.type nm) f) (hm : X.mg "isinstance" = none) (hx : X.mg x = none) (hv : bootBuiltins x = some (.type nm)) (ha : PM X c n W a ma) (hg : Gl X "isinstance" := by rfl) (hgx : Gl X x := by rfl) (hn : x ≠ "__name__" := by decide) (hd : (x == ("__debug__" : Str)) = false := by decide)
    (he : starEach [a, .Name x p2] X.env = (false, eval a X.env) :: starEach [.Name x p2] X.env := by rfl) (he2 : starEach [.Name x p2] X.env = (false, eval (.Name x p2) X.env) :: starEach [] X.env := by rfl) (hpl : (backTo pos (starEach [.Name x p2] X.env)).any (·.1) = false := by rfl) :
    PM X c n W (.Call (.Name "isinstance" p) [a, .Name x p2] [] pos) (m1 (pIsF (fun d => [f].any fun f => f d) []) ma) := m_isa hg hm ha (pe_bltn (v := .ty nm) hgx hx hv rfl hn hd) (.ty nm) hu no_obs he he2 hpl
/-- isinstance(e, C), C an own class -/
theorem r_isaC {x : Str} {cid : Nat} {obs : List Nat} {f : D → Bool} {p p2 : Pos} (hu : IsaH X.K c obs (.ref (c.ca cid)) f) (ho : ∀ k, obs.contains k = true → InsT X.K (c.ca k)) (hm : X.mg "isinstance" = none) (hx : X.mg x = some (.ref (c.ca cid))) (ha : PM X c n W a ma) (hg : Gl X "isinstance" := by rfl) (hgx : Gl X x := by rfl) (hd : (x == ("__debug__" : Str)) = false := by decide)
    (he : starEach [a, .Name x p2] X.env = (false, eval a X.env) :: starEach [.Name x p2] X.env := by rfl) (he2 : starEach [.Name x p2] X.env = (false, eval (.Name x p2) X.env) :: starEach [] X.env := by rfl) (hpl : (backTo pos (starEach [.Name x p2] X.env)).any (·.1) = false := by rfl) :
    PM X c n W (.Call (.Name "isinstance" p) [a, .Name x p2] [] pos) (m1 (pIsF (fun d => [f].any fun f => f d) obs) ma) := m_isa hg hm ha (pe_glob (v := .ref (c.ca cid)) hgx hx rfl hd) (.own _) hu ho he he2 hpl
/-- isinstance(e, (S, T)), both built in -/
theorem r_isa2 {x y : Str} {nx ny : String} {f g : D → Bool} {p p2 p3 tpos : Pos} {kk : Nat} (hu : IsaH X.K c [] (.type nx) f) (hu2 : IsaH X.K c [] (.type ny) g) (hm : X.mg "isinstance" = none) (hx : X.mg x = none) (hv : bootBuiltins x = some (.type nx)) (hy : X.mg y = none) (hvy : bootBuiltins y = some (.type ny)) (ha : PM X c n W a ma) (hg : Gl X "isinstance" := by rfl)
    (hgx : Gl X x := by rfl) (hgy : Gl X y := by rfl) (hn : x ≠ "__name__" := by decide) (hd : (x == ("__debug__" : Str)) = false := by decide) (hn2 : y ≠ "__name__" := by decide) (hd2 : (y == ("__debug__" : Str)) = false := by decide)
    (hs : starEach [.Name x p2, .Name y p3] X.env = (false, eval (.Name x p2) X.env) :: starEach [.Name y p3] X.env := by rfl) (hs2 : starEach [.Name y p3] X.env = (false, eval (.Name y p3) X.env) :: starEach [] X.env := by rfl)
    (he : starEach [a, .Tuple [.Name x p2, .Name y p3] kk tpos] X.env = (false, eval a X.env) :: starEach [.Tuple [.Name x p2, .Name y p3] kk tpos] X.env := by rfl) (he2 : starEach [.Tuple [.Name x p2, .Name y p3] kk tpos] X.env = (false, eval (.Tuple [.Name x p2, .Name y p3] kk tpos) X.env) :: starEach [] X.env := by rfl) (hpl : (backTo pos (starEach [.Tuple [.Name x p2, .Name y p3] kk tpos] X.env)).any (·.1) = false := by rfl) :
    PM X c n W (.Call (.Name "isinstance" p) [a, .Tuple [.Name x p2, .Name y p3] kk tpos] [] pos) (m1 (pIsF (fun d => [f, g].any fun f => f d) []) ma) :=
  m_isaT (us := [.type nx, .type ny]) hg hm ha (pa_cons (pe_bltn (v := .ty nx) hgx hx hv rfl hn hd) (pa_cons (pe_bltn (v := .ty ny) hgy hy hvy rfl hn2 hd2) pa_nil hs2) hs) (fun σ H Q q => q) (by rw [← lim_eq]; show 2 ≤ lim; decide) (.cons (.ty nx) (.cons (.ty ny) .nil)) (.cons hu (.cons hu2 .nil)) no_obs he he2 hpl
end
end DI
set_option linter.all false
set_option Elab.async false
set_option maxRecDepth 100000
set_option maxHeartbeats 4000000
/-! DGen2: more short rules. -/
namespace DI
open PySem PySem.Spec PyProof.Rows L2
instance {is : List Nat} {ms : List ME} [StAs ms] : StM (sPar is ms) := ⟨fun e t => OKt.bind (StAs.st (ms := ms) e t) fun d e t => by
  try dsimp only
  split
  · exact fun h => h
  · trivial⟩
/-- one argument, in fewer words -/
instance (priority := low) {ms : List ME} [StAs ms] : StA (mArgs ms) := ⟨StAs.st⟩
def blkOkB (N : List Str) (sc scope : Scope) (own : List (Str × Nat)) : Bool :=
  (scope.kind == .function) && scope.names.all (fun y => scope.names.lookup y.1 == some y.2) && own.all (fun p => N[p.2]? == some p.1) &&
  scope.names.all (fun y => !(y.2 == .free) || (sc.names.lookup y.1 == some .cell || sc.names.lookup y.1 == some .free)) &&
  scope.names.all (fun y => !(y.2 == .local || y.2 == .cell) || ((own.map (·.1)).contains y.1 || !N.contains y.1))
theorem blkOk_of {N : List Str} {sc scope : Scope} {own : List (Str × Nat)} (h : blkOkB N sc scope own = true) : BlkOk N sc scope own := by
  unfold blkOkB at h
  simp only [Bool.and_eq_true, List.all_eq_true, Bool.or_eq_true, Bool.not_eq_true', beq_iff_eq, beq_eq_false_iff_ne, List.contains_iff_mem, decide_eq_true_eq] at h
  obtain ⟨⟨⟨⟨h1, h2⟩, h3⟩, h4⟩, h5⟩ := h
  refine ⟨eq_of_beq (by simpa using h1), h2, h3, fun y hy e => ?_, fun y hy e => ?_⟩
  · rcases h4 y hy with z | z
    · exact absurd e z
    · exact z
  · rcases h5 y hy with z | z
    · rcases e with e | e
      · rw [e] at z; cases z
      · rw [e] at z; cases z
    · rcases z with z | z
      · exact .inl z
      · exact .inr fun m => by simp [m] at z
section
variable {X : Cx} {c : CT} {n : Ent} {W : XW} {k : Nat}
theorem b_or1 {a : Expr} {ma : ME} {pos : Pos} (ha : PB X c n W a ma) : PW X (.BoolOp .Or [a] pos) (tT (tb X c) n W fun e t => asB (ma e t)) := pw_or1 ha
theorem r_nilO : PMo X c n W [] [] := ao_nil
abbrev PMk (X : Cx) (k : Nat) (c : CT) (scope : Scope) (ex : Expr) (m : ME) : Prop := ∀ (n : Ent) (s : Shared) (H : Hp) (C : Addr) (cl : List (Str × Addr)) (fp : List Addr), Ok (X.blk s H scope (compEnvC scope cl C X.env) fp) k W0 → PM (X.blk s H scope (compEnvC scope cl C X.env) fp) c n W0 ex m
abbrev PTgk (X : Cx) (k : Nat) (c : CT) (scope : Scope) (tg : Expr) (g : Tgt) : Prop := ∀ (n : Ent) (s : Shared) (H : Hp) (C : Addr) (cl : List (Str × Addr)) (fp : List Addr), Ok (X.blk s H scope (compEnvC scope cl C X.env) fp) k W0 → PTg (X.blk s H scope (compEnvC scope cl C X.env) fp) c n tg g
inductive PTsk (X : Cx) (k : Nat) (c : CT) (scope : Scope) : List Expr → Option ME → Prop where
  | none : PTsk X k c scope [] none
  | one {x : Expr} {m : ME} (h : ∀ (n : Ent) (s : Shared) (H : Hp) (C : Addr) (cl : List (Str × Addr)) (fp : List Addr), Ok (X.blk s H scope (compEnvC scope cl C X.env) fp) k W0 → PB (X.blk s H scope (compEnvC scope cl C X.env) fp) c n W0 x m) (st : StE m) : PTsk X k c scope [x] (some m)
theorem PTsk.b {scope : Scope} {ifs : List Expr} {co : Option ME} (h : Ok X k W) (ht : PTsk X k c scope ifs co) : PTsb X c scope ifs co := by
  cases ht with
  | none => exact .none
  | one g st => exact .one (fun n s H C cl fp => g n s H C cl fp (h.blk _ _ _ _ _)) st
theorem k_none {scope : Scope} : PTsk X k c scope [] none := .none
theorem k_test {scope : Scope} {x : Expr} {m : ME} [St1 m] (h : ∀ (n : Ent) (s : Shared) (H : Hp) (C : Addr) (cl : List (Str × Addr)) (fp : List Addr), Ok (X.blk s H scope (compEnvC scope cl C X.env) fp) k W0 → PB (X.blk s H scope (compEnvC scope cl C X.env) fp) c n W0 x m) : PTsk X k c scope [x] (some m) := .one h (SdR.toE (St1.st (m := m)))
theorem r_comp {elt tg iter : Expr} {ifs : List Expr} {scope : Scope} {pos : Pos} {it : ML} {g : Tgt} {co : Option ME} {m : ME} [St1 m] [StA it] (h : Ok X k W) (own : List (Str × Nat)) (hi : PIt X c n W tg iter it)
    (hg : PTgk X k c scope tg g) (ht : PTsk X k c scope ifs co) (he : PMk X k c scope elt m) (ok : blkOkB X.N X.env.scope scope own = true := by rfl) (hs : ∀ x, foldedSetIterable iter X.env x = pure x := by intro _; rfl) (hgs : ∀ i ∈ g.slots, i ∈ own.map (·.2) := by decide) :
    PNw X c n W (.ListComp elt [⟨tg, iter, ifs, 0⟩] scope pos) (mComp (own.map (·.2)) it g co m) := t_comp h hi (blkOk_of ok) (fun n s H C cl fp => hg n s H C cl fp (h.blk _ _ _ _ _)) (ht.b h) (fun n s H C cl fp => he n s H C cl fp (h.blk _ _ _ _ _)) hs hgs
theorem r_scomp (i : Nat) {y : Str} {py : Pos} {elt tg iter : Expr} {ifs : List Expr} {scope : Scope} {pos spos : Pos} {it : ML} {g : Tgt} {co : Option ME} {m : ME} [St1 m] [StA it] (h : Ok X k W) (own : List (Str × Nat)) (hi : PIt X c n W tg iter it)
    (hg : PTgk X k c scope tg g) (ht : PTsk X k c scope ifs co) (he : PMk X k c scope elt m) (hy : X.N[i]? = some y := by rfl) (hyl : X.env.scope.names.lookup y = some .local := by rfl)
    (hsw : swapsWith (.ListComp elt [⟨tg, iter, ifs, 0⟩] scope pos) (some (.Name y py)) spos.line X.env = pure true := by rfl) (ok : blkOkB X.N X.env.scope scope own = true := by rfl) (hs : ∀ x, foldedSetIterable iter X.env x = pure x := by intro _; rfl) (hgs : ∀ i ∈ g.slots, i ∈ own.map (·.2) := by decide) :
    PSt X c n W (.Assign [.Name y py] (.ListComp elt [⟨tg, iter, ifs, 0⟩] scope pos) spos) (sOwn i (mComp (own.map (·.2)) it g co m)) := t_scomp h hy hyl hsw hi (blkOk_of ok) (fun n s H C cl fp => hg n s H C cl fp (h.blk _ _ _ _ _)) (ht.b h) (fun n s H C cl fp => he n s H C cl fp (h.blk _ _ _ _ _)) hs hgs
theorem r_dcomp {kx vx tg iter : Expr} {ifs : List Expr} {scope : Scope} {pos : Pos} {it : ML} {g : Tgt} {co : Option ME} {m mv : ME} [St1 m] [St1 mv] [StA it] (h : Ok X k W) (own : List (Str × Nat)) (hi : PIt X c n W tg iter it)
    (hg : PTgk X k c scope tg g) (ht : PTsk X k c scope ifs co) (hk : PMk X k c scope kx m) (he : PMk X k c scope vx mv) (ok : blkOkB X.N X.env.scope scope own = true := by rfl) (hs : ∀ x, foldedSetIterable iter X.env x = pure x := by intro _; rfl) (hgs : ∀ i ∈ g.slots, i ∈ own.map (·.2) := by decide) :
    PNw X c n W (.DictComp kx vx [⟨tg, iter, ifs, 0⟩] scope pos) (mDComp (own.map (·.2)) it g co m mv) := t_dcomp h hi (blkOk_of ok) (fun n s H C cl fp => hg n s H C cl fp (h.blk _ _ _ _ _)) (ht.b h) (fun n s H C cl fp => hk n s H C cl fp (h.blk _ _ _ _ _)) (fun n s H C cl fp => he n s H C cl fp (h.blk _ _ _ _ _)) hs hgs
theorem b_cls {ex : Expr} {m : ME} (h : PM X c n W ex m) (he : ∀ whole, isTrue ex X.env whole = (do let v ← whole; standAt ex.pos; holding [v] (truthy v)) := by intro _; rfl) : PB X c n W ex m := b_of h he
/-- the reading of a op b op c -/
theorem chain_read {mx my mz : ME} {f g : D → D → Option D} {σ : L2.St} {H : Hp} {Q : VK} (q : tE (tb X c) n W (mChain f g mx my mz) σ H Q) :
    tChain (fun x y H Q => ∃ H0 dx dy d, Ext H0 H ∧ Rep (tb X c) H0 dx x ∧ Rep (tb X c) H0 dy y ∧ f dx dy = some d ∧ ∀ z H0' H', Grow H0 H H0' H' → Rep (tb X c) H0' d z → Q z H')
      (fun x y H Q => ∃ H0 dx dy d, Ext H0 H ∧ Rep (tb X c) H0 dx x ∧ Rep (tb X c) H0 dy y ∧ g dx dy = some d ∧ ∀ z H0' H', Grow H0 H H0' H' → Rep (tb X c) H0' d z → Q z H') (tE (tb X c) n W mx) (tE (tb X c) n W my) (tE (tb X c) n W mz) σ H Q := by
  obtain ⟨e, t, H0, p, S, q⟩ := q
  have q : RE (tb X c) n σ H0 p Q W ((mx e t).bind fun x e t => (my e t).bind fun y e t => (asB (R.of (f x y) e t)).bind fun k e t => if k then (mz e t).bind fun z e t => R.of (g y z) e t else .ok (.bl false) e t) := q
  refine ⟨e, t, H0, p, S, ?_⟩
  have h1 := bindE (T := tb X c) (n := n) (σ := σ) (H0 := H0) (p := p) (W := W) (C := RE (tb X c) n σ H0 p Q W) RE.e RE.s q
  cases h : mx e t with
  | err k fs => rw [h] at h1; exact h1
  | stuck => rw [h] at h1; exact h1
  | ok dx e1 t1 =>
    rw [h] at h1
    intro vx G0 G S1 x1 R1
    obtain ⟨dx, e1, t1, G1, S1, x1, R1, q1⟩ := h1 vx G0 G S1 x1 R1
    refine ⟨e1, t1, G1, p, S1, ?_⟩
    have h2 := bindE (T := tb X c) (n := n) (σ := σ) (H0 := G1) (p := p) (W := W) (C := RE (tb X c) n σ G1 p Q W) RE.e RE.s (q1.mono x1)
    cases hh : my e1 t1 with
    | err k fs => rw [hh] at h2; exact h2
    | stuck => rw [hh] at h2; exact h2
    | ok dy e2 t2 =>
      rw [hh] at h2
      intro vy K0 K S2 x2 R2
      obtain ⟨dy, e2, t2, G2, S2, x2, R2, q2⟩ := h2 vy K0 K S2 x2 R2
      cases hfd : f dx dy with
      | none => rw [hfd] at q2; exact q2.elim
      | some d =>
        rw [hfd] at q2
        refine ⟨G2, dx, dy, d, S2.sub, R1.ext x2, R2, hfd, fun z H0' H' gr Rz => ?_⟩
        have q3 : RE (tb X c) n σ G2 p Q W ((asB (.ok d e2 t2)).bind fun k e t => if k then (mz e t).bind fun z e t => R.of (g dy z) e t else .ok (.bl false) e t) := RE.mono q2 x2
        have S3 := S2.grow gr
        cases d with
        | bl b =>
          have Rz : z = .bl b := Rz
          subst Rz
          refine ⟨b, rfl, ?_⟩
          cases b with
          | false =>
            show (if false = true then _ else _)
            rw [if_neg Bool.false_ne_true]
            exact q3 _ _ _ S3 gr.ext0 rfl
          | true =>
            show (if true = true then _ else _)
            rw [if_pos rfl]
            have q4 : RE (tb X c) n σ H0' p Q W ((mz e2 t2).bind fun z e t => R.of (g dy z) e t) := RE.mono (x := (mz e2 t2).bind fun z e t => R.of (g dy z) e t) (by simpa using q3) gr.ext0
            refine ⟨e2, t2, H0', p, S3, ?_⟩
            have h4 := bindE (T := tb X c) (n := n) (σ := σ) (H0 := H0') (p := p) (W := W) (C := RE (tb X c) n σ H0' p Q W) RE.e RE.s q4
            cases hz' : mz e2 t2 with
            | err k fs => rw [hz'] at h4; exact h4
            | stuck => rw [hz'] at h4; exact h4
            | ok dz e5 t5 =>
              rw [hz'] at h4
              intro vz L0 L S5 x5 R5
              obtain ⟨dz, e5, t5, G5, S5, x5, R5, q5⟩ := h4 vz L0 L S5 x5 R5
              cases hgd : g dy dz with
              | none => rw [hgd] at q5; exact q5.elim
              | some d2 =>
                rw [hgd] at q5
                exact ⟨G5, dy, dz, d2, S5.sub, (R2.ext gr.ext0).ext x5, R5, hgd, fun z H0' H' gr2 Rz => q5 _ _ _ (S5.grow gr2) (x5.trans gr2.ext0) Rz⟩
        | _ => exact q3.elim

theorem b_chain {x y z : Expr} {mx my mz : ME} {f g : D → D → Option D} {o1 o2 : CmpOp} {pos : Pos} (hf : Op2 X c (compareOp o1) f) (hg : Op2 X c (compareOp o2) g) (hx : PM X c n W x mx) (hy : PM X c n W y my) (hz : PM X c n W z mz)
    (hm : lastMarks [o1, o2] [y, z] = false := by with_unfolding_all rfl) : PB X c n W (.Compare x [o1, o2] [y, z] pos) (mChain f g mx my mz) := by
  refine ⟨fun pins s σ H Q I ⟨e, t, H0, p, S, q⟩ => ?_⟩
  refine (pt_chain
    (fun pins s σ H x y v u Q I rx ry ⟨H0, dx, dy, d, x0, Rx, Ry, e, q⟩ => hf pins s σ H0 H x y v u dx dy d Q I x0 rx ry Rx Ry e q)
    (fun pins s σ H x y v u Q I rx ry ⟨H0, dx, dy, d, x0, Rx, Ry, e, q⟩ => hg pins s σ H0 H x y v u dx dy d Q I x0 rx ry Rx Ry e q) hx hy hz hm).run pins s σ H Q I (chain_read ⟨e, t, H0, p, S, ?_⟩)
  have q : RT (tb X c) n σ H0 p Q W (asB (mChain f g mx my mz e t)) := q
  cases hc : mChain f g mx my mz e t with
  | err kk fs => rw [hc] at q; exact q
  | stuck => rw [hc] at q; exact q
  | ok d e1 t1 =>
    rw [hc] at q
    intro v G0 G S1 x1 R1
    cases d with
    | bl b =>
      have R1 : v = .bl b := R1
      exact ⟨b, R1, q _ _ S1 x1⟩
    | _ => exact q.elim
theorem r_chain {x y z : Expr} {mx my mz : ME} {f g : D → D → Option D} {o1 o2 : CmpOp} {pos : Pos} (hf : Op2 X c (compareOp o1) f) (hg : Op2 X c (compareOp o2) g) (hx : PM X c n W x mx) (hy : PM X c n W y my) (hz : PM X c n W z mz)
    (hm : lastMarks [o1, o2] [y, z] = false := by with_unfolding_all rfl) : PM X c n W (.Compare x [o1, o2] [y, z] pos) (mChain f g mx my mz) := m_chain hf hg hx hy hz fun h1 h2 _ _ _ a b c => pe_chain h1 h2 a b c hm
theorem r_par (i j : Nat) {x y : Str} {a b : Expr} {ma mb : ME} {px py pt pos : Pos} {kt k2 pt2} (h : Ok X k W) (ha : PMs X c n W [a, b] (mArgs [ma, mb])) (hi : X.N[i]? = some x := by rfl) (hj : X.N[j]? = some y := by rfl) (hij : i ≠ j := by decide)
    (hx : X.env.scope.names.lookup x = some .local := by rfl) (hy : X.env.scope.names.lookup y = some .local := by rfl)
    (hw : swappedStores [.Tuple [.Name x px, .Name y py] kt pt] (.Tuple [a, b] k2 pt2) X.env = pure (some [x, y]) := by rfl)
    (hs : swapsWithSole [.Tuple [.Name x px, .Name y py] kt pt] (.Tuple [a, b] k2 pt2) pos.line X.env = pure false := by rfl) :
    PSt X c n W (.Assign [.Tuple [.Name x px, .Name y py] kt pt] (.Tuple [a, b] k2 pt2) pos) (sPar [i, j] [ma, mb]) := by
  refine ⟨fun pins s σ H D' I ⟨e, t, H0, p, S, q⟩ => ?_⟩
  refine (ps_par h.calm h.nd hi hj hij hx hy ha hw hs).run pins s σ H D' I ⟨e, t, H0, p, S, ?_⟩
  have q : RS (tb X c) n H0 p t D' W ((mArgs [ma, mb] e t).bind fun ds e t => match setAll [i, j] ds e with | some e => .ok .next e t | none => .stuck) := q
  show RA (tb X c) n σ H0 p _ W (mArgs [ma, mb] e t)
  cases hm : mArgs [ma, mb] e t with
  | err kk fs => rw [hm] at q; exact q
  | stuck => rw [hm] at q; exact q
  | ok ds e1 t1 =>
    rw [hm] at q
    have hl := mArgs_len [ma, mb] e t ds e1 t1 hm
    intro vs G0 G S1 x1 R1
    match ds, vs, R1, hl with
    | [d1, d2], vs, R1, _ =>
      obtain ⟨v1, r1, rfl, R1, v2, r2, rfl, R2, rfl⟩ := R1
      exact ⟨_, _, rfl, q _ _ _ _ ((S1.put R1).put R2) x1 fun _ => rfl⟩
end
end DI
set_option linter.all false
set_option Elab.async false
set_option maxRecDepth 100000
set_option maxHeartbeats 4000000
/-! DHead: what the head is asked, and what the rules take from it. -/
namespace DI
open PySem PySem.Spec PyProof.Rows L2
/-! ### constants -/
def vOf : Value → V
  | .none => .non
  | .bool b => .bl b
  | .int i _ => .int i
  | .str s _ => .str s
  | .ref a => .ref a
  | _ => .non
mutual
def repB (K : PySem.W.Frag) : D → Value → Bool
  | .non, .none => true
  | .bl b, .bool c => b == c
  | .int i, .int j _ => decide (i = j)
  | .str s, .str z _ => decide (s = z)
  | .tup ds, .ref a => match K.lookup a with
    | some ⟨.type c, _, .seq its _, _⟩ => decide (c = "tuple") && (decide (its.size ≤ sizeLine) && repsB K ds its.toList)
    | _ => false
  | _, _ => false
def repsB (K : PySem.W.Frag) : List D → List Value → Bool
  | [], [] => true
  | d :: ds, u :: us => repB K d u && repsB K ds us
  | _, _ => false
end
mutual
theorem repB_ok {T : Tb} {H : Hp} : ∀ {d : D} {u : Value}, repB T.K d u = true → RelV (vOf u) u ∧ Rep T H d (vOf u)
  | .non, u, h => by cases u <;> first | exact ⟨rfl, rfl⟩ | cases h
  | .bl b, u, h => by
    cases u <;> first | (have h : (b == _) = true := h; have h := eq_of_beq h; subst h; exact ⟨rfl, rfl⟩) | cases h
  | .int b, u, h => by
    cases u <;> first | (have h : decide (b = _) = true := h; have h := of_decide_eq_true h; subst h; exact ⟨⟨_, rfl⟩, rfl⟩) | cases h
  | .str b, u, h => by
    cases u <;> first | (have h : decide (b = _) = true := h; have h := of_decide_eq_true h; subst h; exact ⟨⟨_, rfl⟩, rfl⟩) | cases h
  | .tup ds, u, h => by
    cases u with
    | ref a =>
      have h : (match T.K.lookup a with
        | some ⟨.type c, _, .seq its _, _⟩ => decide (c = "tuple") && (decide (its.size ≤ sizeLine) && repsB T.K ds its.toList)
        | _ => false) = true := by
          have h' := h
          unfold repB at h'
          exact h'
      cases q : T.K.lookup a with
      | none => rw [q] at h; cases h
      | some o =>
        obtain ⟨oc, od, dt, osl⟩ := o
        rw [q] at h
        cases oc with
        | type cn =>
          cases dt with
          | seq its m =>
            have h : (decide (cn = "tuple") && (decide (its.size ≤ sizeLine) && repsB T.K ds its.toList)) = true := h
            simp only [Bool.and_eq_true, decide_eq_true_eq] at h
            obtain ⟨h1, h2, h3⟩ := h
            subst h1
            obtain ⟨g1, g2⟩ := repsB_ok (T := T) (H := H) h3
            exact ⟨rfl, a, _, rfl, .inr ⟨_, its, m, q, rfl, rfl, h2, g1⟩, g2⟩
          | _ => cases h
        | _ => cases dt <;> cases h
    | _ => cases h
  | .lst ds, u, h => by cases u <;> cases h
  | .dic ds, u, h => by cases u <;> cases h
  | .kdic ds, u, h => by cases u <;> cases h
  | .obj k ds, u, h => by cases u <;> cases h
  | .trk, u, h => by cases u <;> cases h
theorem repsB_ok {T : Tb} {H : Hp} : ∀ {ds : List D} {us : List Value}, repsB T.K ds us = true → Vals (us.map vOf) us ∧ Reps T H ds (us.map vOf)
  | [], [], _ => ⟨.nil, rfl⟩
  | [], _ :: _, h => by cases h
  | _ :: _, [], h => by cases h
  | d :: ds, u :: us, h => by
    have h : (repB T.K d u && repsB T.K ds us) = true := by
      have h' := h
      unfold repsB at h'
      exact h'
    obtain ⟨h1, h2⟩ := Bool.and_eq_true_iff.mp h
    obtain ⟨g1, g2⟩ := repB_ok (T := T) (H := H) h1
    obtain ⟨g3, g4⟩ := repsB_ok (T := T) (H := H) h2
    exact ⟨.cons g1 g3, _, _, rfl, g2, g4⟩
end
/-- a table's pairs -/
def kvsB (K : PySem.W.Frag) : List (Str × D) → List DictEntry → Bool
  | [], [] => true
  | p :: ps, e :: es => (match e.key with
    | .str y _ => decide (y = p.1)
    | _ => false) && (repB K p.2 e.val && kvsB K ps es)
  | _, _ => false
theorem kvsB_ok {T : Tb} {H : Hp} : ∀ {kvs : List (Str × D)} {es : List DictEntry}, kvsB T.K kvs es = true → ∃ kv : List (Key × V), KVE es kv ∧ RepK T H (kvs.map fun p => (.str p.1, p.2)) kv ∧ kv.map (·.1) = kvs.map fun p => .inr p.1
  | [], [], _ => ⟨[], .nil, rfl, rfl⟩
  | [], _ :: _, h => by cases h
  | _ :: _, [], h => by cases h
  | p :: ps, e :: es, h => by
    have h : ((match e.key with
      | .str y _ => decide (y = p.1)
      | _ => false) && (repB T.K p.2 e.val && kvsB T.K ps es)) = true := h
    obtain ⟨h1, h2⟩ := Bool.and_eq_true_iff.mp h
    obtain ⟨h2, h3⟩ := Bool.and_eq_true_iff.mp h2
    obtain ⟨kv, g1, g2, g3⟩ := kvsB_ok (T := T) (H := H) h3
    obtain ⟨g4, g5⟩ := repB_ok (T := T) (H := H) h2
    cases hk : e.key with
    | str y t =>
      rw [hk] at h1
      have h1 : y = p.1 := of_decide_eq_true h1
      subst h1
      exact ⟨(.inr p.1, vOf e.val) :: kv, .cons ⟨p.1, t, rfl, hk, g4⟩ g1, ⟨_, _, rfl, ⟨rfl, g5⟩, g2⟩, by rw [List.map_cons, List.map_cons, g3]⟩
    | _ => rw [hk] at h1; cases h1
structure ConH (mg : Str → Option Value) (T : Tb) (x : Str) (d : D) : Prop where
  ex : ∃ u v, mg x = some u ∧ RelV v u ∧ Rep T (fun _ => none) d v
/-- the constant x is d -/
def conB (x : Str) (d : D) (K : PySem.W.Frag) : Bool := match PySem.W.nsIn K mainGlobals x with
  | some (some u) => repB K d u
  | _ => false
def kdB (x : Str) (kvs : List (Str × D)) (K : PySem.W.Frag) : Bool := He.eqO (PySem.W.nsIn K mainGlobals x) (some (some (.ref (He.ga K x)))) && (decide (kvs.map (·.1)).Nodup && (match K.lookup (He.ga K x) with
  | some ⟨_, _, .dict es _, _⟩ => kvsB K kvs es.toList
  | _ => false))
section
variable {K : PySem.W.Frag} {h : Heap} {mg : Str → Option Value} {w : World} {ca : Nat → Addr} {cf : Nat → List Str}
theorem conB_ok (X : K.In h) (G : h.Ns mainGlobals mg) {x : Str} {d : D} (e : conB x d K = true) : ConH mg ⟨K, w, ca, cf⟩ x d := by
  unfold conB at e
  cases q : PySem.W.nsIn K mainGlobals x with
  | none => rw [q] at e; cases e
  | some r =>
    rw [q] at e
    cases r with
    | none => cases e
    | some u =>
      obtain ⟨h1, h2⟩ := repB_ok (T := ⟨K, w, ca, cf⟩) (H := fun _ => none) e
      exact ⟨_, _, PySem.W.mg_of X G q, h1, h2⟩
theorem kdB_ok (X : K.In h) (G : h.Ns mainGlobals mg) {x : Str} {kvs : List (Str × D)} (e : kdB x kvs K = true) (hd : ∃ es n, KDict K w (He.ga K x) es n) : ConH mg ⟨K, w, ca, cf⟩ x (kdD kvs) := by
  unfold kdB at e
  obtain ⟨e1, e⟩ := Bool.and_eq_true_iff.mp e
  obtain ⟨e2, e3⟩ := Bool.and_eq_true_iff.mp e
  obtain ⟨es, n, D⟩ := hd
  rw [D.at_] at e3
  obtain ⟨kv, g1, g2, g3⟩ := kvsB_ok (T := ⟨K, w, ca, cf⟩) (H := fun _ => none) e3
  refine ⟨_, .ref (He.ga K x), PySem.W.mg_of X G (He.eqO_ok e1), rfl, _, kv, rfl, ⟨es, n, D, g1, ?_⟩, g2⟩
  rw [g3]
  have := of_decide_eq_true e2
  rw [show (kvs.map fun p => (Sum.inr p.1 : Key)) = (kvs.map (·.1)).map Sum.inr by rw [List.map_map]; rfl]
  exact List.pairwise_map.mpr (List.Pairwise.imp (fun h e => h (Sum.inr.inj e)) this)
end
/-! ### own classes -/
def propB (C f : Str) (K : PySem.W.Frag) : Bool := He.eqO (PySem.W.findIn K (.ref (He.ga K C)) f) (some (some (.ref (He.ma K (He.ga K C) f)))) && (He.eqO (PySem.W.specialIn K (.ref (He.ma K (He.ga K C) f)) "__get__") (some (some (.builtin "property.__get__"))) &&
  (decide (PySem.W.takesIn K (.ref (He.ma K (He.ga K C) f)) = some true) && (match PySem.W.recIn K (He.ma K (He.ga K C) f) "property" with
    | some (.ref g :: _) => true
    | _ => false)))
/-- the getter of a property -/
def gAd (C f : Str) (K : PySem.W.Frag) : Addr := match PySem.W.recIn K (He.ma K (He.ga K C) f) "property" with
  | some (.ref g :: _) => g
  | _ => 0
theorem propB_ok {K : PySem.W.Frag} {C f : Str} (e : propB C f K = true) : PropOf K (He.ga K C) f (He.ma K (He.ga K C) f) (gAd C f K) := by
  obtain ⟨e1, e⟩ := Bool.and_eq_true_iff.mp e
  obtain ⟨e2, e⟩ := Bool.and_eq_true_iff.mp e
  obtain ⟨e3, e⟩ := Bool.and_eq_true_iff.mp e
  refine ⟨He.eqO_ok e1, He.eqO_ok e2, of_decide_eq_true e3, ?_⟩
  unfold gAd
  cases q : PySem.W.recIn K (He.ma K (He.ga K C) f) "property" with
  | none => rw [q] at e; cases e
  | some l =>
    rw [q] at e
    cases l with
    | nil => cases e
    | cons v r =>
      cases v with
      | ref g => exact ⟨r, rfl⟩
      | _ => cases e
/-- an exception with an __init__ of its own -/
def oexB (C : Str) (K : PySem.W.Frag) : Bool := (match K.lookup (He.ga K C) with
  | some ⟨.type t, _, .cls cd, sl⟩ => (match cd.mro, sl.toList with
    | .ref C' :: bm, [_, _, _, _, some (.builtin m), _] => decide (t = "type") && (decide (C' = He.ga K C) && (decide (m = "ValueError.__new__") && (!cd.hasDel && (cd.hasDict && PySem.HandSPX.refsVE bm))))
    | _, _ => false)
  | _ => false) && (He.eqO (PySem.W.findIn K (.ref (He.ga K C)) "__setattr__") (some (some (.builtin "object.__setattr__"))) && (decide (PySem.W.subIn K (.ref (He.ga K C)) (.type "BaseException") = some true) &&
  (decide (PySem.W.typeIn K (.ref (He.ga K C)) = some (.type "type")) && PySem.W.keepIn K (.ref (He.ga K C)))))
theorem oexB_ok {K : PySem.W.Frag} {C : Str} (e : oexB C K = true) : OexC K (He.ga K C) := by
  obtain ⟨e1, e⟩ := Bool.and_eq_true_iff.mp e
  obtain ⟨e2, e⟩ := Bool.and_eq_true_iff.mp e
  obtain ⟨e3, e⟩ := Bool.and_eq_true_iff.mp e
  obtain ⟨e4, e5⟩ := Bool.and_eq_true_iff.mp e
  refine ⟨?_, He.eqO_ok e2, of_decide_eq_true e3, of_decide_eq_true e4, e5⟩
  clear e2 e3 e4 e5 e
  split at e1
  · rename_i t dd cd sl ho
    split at e1
    · rename_i C' bm k0 k1 k2 k3 m k5 hm hs
      simp only [Bool.and_eq_true, decide_eq_true_eq, Bool.not_eq_true'] at e1
      obtain ⟨rfl, rfl, rfl, hdel, hdc, hr⟩ := e1
      obtain ⟨nm, bs, mro, ns, qn, hd, sn, sub, ab, col, del⟩ := cd
      dsimp only at hm hdel hdc
      subst hm hdel hdc
      have hsl : sl = #[k0, k1, k2, k3, some (.builtin "ValueError.__new__"), k5] := by
        obtain ⟨l⟩ := sl
        simp only at hs
        rw [hs]
      subst hsl
      exact ⟨_, _, _, _, _, _, _, _, _, _, _, _, _, _, _, ho, hr⟩
    · cases e1
  · cases e1
/-- own equality -/
def eqB (C : Str) (K : PySem.W.Frag) : Bool := decide (PySem.W.subIn K (.type "list") (.ref (He.ga K C)) = some false) && (He.eqO (PySem.W.findIn K (.ref (He.ga K C)) "__ne__") (some (some (.builtin "object.__ne__"))) && (decide (PySem.W.subIn K (.ref (He.ga K C)) (.type "object") = some true) &&
  (He.eqO (PySem.W.findIn K (.ref (He.ga K C)) "__eq__") (some (some (.ref (He.ma K (He.ga K C) "__eq__")))) && PySem.W.isFn K (.ref (He.ma K (He.ga K C) "__eq__")))))
/-- isinstance's reading of an own object -/
def instB (C : Str) (K : PySem.W.Frag) : Bool := (He.Fa.cls C).ok K && (He.eqO (PySem.W.findIn K (.ref (He.ga K C)) "__class__") (some (some (.builtin "object.__class__"))) && (He.eqO (PySem.W.specialIn K (.builtin "object.__class__") "__get__") (some (some (.builtin "getset_descriptor.__get__"))) &&
  (decide (PySem.W.takesIn K (.builtin "object.__class__") = some true) && decide (PySem.W.mroIn K (He.ga K C) (.type "object") = some true))))
theorem instB_ok {K : PySem.W.Frag} {C : Str} (e : instB C K = true) : InsT K (He.ga K C) := by
  obtain ⟨e1, e⟩ := Bool.and_eq_true_iff.mp e
  obtain ⟨e2, e⟩ := Bool.and_eq_true_iff.mp e
  obtain ⟨e3, e⟩ := Bool.and_eq_true_iff.mp e
  obtain ⟨e4, e5⟩ := Bool.and_eq_true_iff.mp e
  exact ⟨He.cls_ok e1, He.eqO_ok e2, He.eqO_ok e3, of_decide_eq_true e4, of_decide_eq_true e5⟩
def tyNs : List String := ["NoneType", "bool", "int", "str", "list", "tuple", "dict"]
theorem tyN_in (d : D) (h1 : ∀ k fs, d ≠ .obj k fs) (h2 : d ≠ .trk) : tyN d ∈ tyNs := by
  cases d <;> first | exact absurd rfl (h1 _ _) | exact absurd rfl h2 | (unfold tyN tyNs; simp)
def isaB (C : Str) (cid : Nat) (obs : List (Nat × Str)) (K : PySem.W.Frag) : Bool := tyNs.all (fun z => decide (PySem.W.kitOne K (.type z) (.ref (He.ga K C)) = some false)) && obs.all fun o => decide (PySem.W.kitOne K (.ref (He.ga K o.2)) (.ref (He.ga K C)) = some (o.1 == cid))
theorem isaB_ok {K : PySem.W.Frag} {C : Str} {cid : Nat} {obs : List (Nat × Str)} {c : CT} (e : isaB C cid obs K = true) (hc : ∀ o ∈ obs, c.ca o.1 = He.ga K o.2) : IsaH K c (obs.map (·.1)) (.ref (He.ga K C)) (isCls cid) := by
  obtain ⟨e1, e2⟩ := Bool.and_eq_true_iff.mp e
  refine ⟨fun d h1 h2 => ?_, fun k fs h => ?_⟩
  · have := of_decide_eq_true (List.all_eq_true.mp e1 _ (tyN_in d h1 h2))
    rw [this]
    cases d <;> first | rfl | exact absurd rfl (h1 _ _)
  · rw [List.contains_iff_mem] at h
    obtain ⟨o, ho, rfl⟩ := List.mem_map.mp h
    have := of_decide_eq_true (List.all_eq_true.mp e2 _ ho)
    rw [hc o ho, this]
    rfl
/-! ### a def somewhere -/
structure DA where
  at_ : PySem.W.Frag → Addr
  name : Str
  qual : Str
  params : Arguments
  body : List Stmt
  scope : Scope
def DA.val (d : DA) : He.FnW := some (d.name, d.qual, d.params, .stmts d.body, d.scope, mainGlobals, [], builtinsNs)
def DA.obs (K : PySem.W.Frag) (d : DA) : He.FnW := match K.lookup (d.at_ K) with
  | some ⟨_, _, .func g, _⟩ => some (g.name, g.qualname, g.params, g.body, g.scope, g.globals, g.closure, g.builtins)
  | _ => none
def noneB : Value → Bool
  | .none => true
  | _ => false
def DA.ok (K : PySem.W.Frag) (d : DA) : Bool := PySem.W.keepIn K (.ref (d.at_ K)) && (match K.lookup (d.at_ K) with
  | some ⟨_, _, .func g, _⟩ => noneB g.defaults && PySem.W.codeIn K g.code d.qual
  | _ => false)
structure FnX (K : PySem.W.Frag) (d : DA) : Prop where
  ex : ∃ fd, FunD K d.name d.qual d.params d.body d.scope [] [] (d.at_ K) fd
theorem DA.fnX {K : PySem.W.Frag} {d : DA} (e : d.obs K = d.val) (c : d.ok K = true) : FnX K d := by
  obtain ⟨kp, c⟩ := Bool.and_eq_true_iff.mp c
  unfold DA.obs at e
  cases q : K.lookup (d.at_ K) with
  | none => rw [q] at c; cases c
  | some o =>
    obtain ⟨oc, od, dt, osl⟩ := o
    rw [q] at c e
    cases dt with
    | func g =>
      obtain ⟨a1, a2, a3, a4, a5, a6, a7, a8, a9, a10, a11, a12, a13, a14, a15⟩ := g
      have e : (some (a1, a2, a3, a4, a5, a6, a7, a15) : He.FnW) = d.val := e
      simp only [DA.val, Option.some.injEq, Prod.mk.injEq] at e
      obtain ⟨h1, h2, h3, h4, h5, h6, h7, h8⟩ := e
      subst h1 h2 h3 h4 h5 h6 h7 h8
      have c : (noneB a8 && PySem.W.codeIn K a13 d.qual) = true := c
      obtain ⟨c1, c2⟩ := Bool.and_eq_true_iff.mp c
      cases a8 with
      | none => exact ⟨_, ⟨oc, od, .none, a9, a10, a11, a12, a13, a14, osl, rfl, q, c2, .inl ⟨rfl, rfl⟩, .inl rfl⟩, kp⟩
      | _ => cases c1
    | _ => cases c
/-! ### the hook -/
abbrev AlZ : Type := (Bool × List He.FnW) × List (Option (List (Option (Str × Int))))
def obsZ (n : Nat) (ps : List (PySem.W.Frag → Bool)) (ds : List DA) (ts : List He.Tab) (g : Addr → Option Obj) : AlZ :=
  let K := He.frG g (He.asD g n)
  ((ps.all (fun p => p K) && ds.all (fun d => d.ok K), ds.map fun d => d.obs K), ts.map fun t => He.dicW K (t.1 K))
def valZ (ds : List DA) (ts : List He.Tab) (w : World) : AlZ := ((true, ds.map DA.val), ts.map fun t => some (He.keysIn w.params t.2))
structure SaysZ (ps : List (PySem.W.Frag → Bool)) (ds : List DA) (ts : List He.Tab) (w : World) (K : PySem.W.Frag) : Prop where
  p : ∀ p ∈ ps, p K = true
  d : ∀ d ∈ ds, FnX K d
  t : ∀ t ∈ ts, ∃ es n, KDict K w (t.1 K) es n
theorem map_mem_eq {α β : Type} {f g : α → β} : ∀ {l : List α}, l.map f = l.map g → ∀ x ∈ l, f x = g x
  | [], _, x, h => by cases h
  | a :: r, e, x, h => by
    rw [List.map_cons, List.map_cons] at e
    injection e with e1 e2
    rcases List.mem_cons.mp h with rfl | h
    · exact e1
    · exact map_mem_eq e2 x h
def hookZ (n : Nat) (ps : List (PySem.W.Frag → Bool)) (ds : List DA) (ts : List He.Tab) : PySem.W.Hook where
  α := AlZ
  obs := fun s => obsZ n ps ds ts s.heap.get?
  val := fun w => valZ ds ts w
  says := fun w h => ∃ K : PySem.W.Frag, K.In h ∧ SaysZ ps ds ts w K
  of := fun w s e => by
    refine ⟨He.frG s.heap.get? (He.asD s.heap.get? n), He.frG_in, ?_⟩
    have e1 : ((ps.all (fun p => p (He.frG s.heap.get? (He.asD s.heap.get? n))) && ds.all (fun d => d.ok (He.frG s.heap.get? (He.asD s.heap.get? n))), ds.map fun d => d.obs (He.frG s.heap.get? (He.asD s.heap.get? n))) : Bool × List He.FnW) = (true, ds.map DA.val) := congrArg (fun z : AlZ => z.1) e
    have e2 : ts.map (fun t => He.dicW (He.frG s.heap.get? (He.asD s.heap.get? n)) (t.1 (He.frG s.heap.get? (He.asD s.heap.get? n)))) = ts.map fun t => some (He.keysIn w.params t.2) := congrArg (fun z : AlZ => z.2) e
    obtain ⟨e3, e4⟩ := Prod.mk.inj e1
    obtain ⟨e5, e6⟩ := Bool.and_eq_true_iff.mp e3
    exact ⟨fun p hp => List.all_eq_true.mp e5 p hp, fun d hd => DA.fnX (map_mem_eq e4 d hd) (List.all_eq_true.mp e6 d hd), fun t ht => He.dicW_ok (map_mem_eq e2 t ht)⟩
  keeps := fun _ _ _ ⟨K, hK, c⟩ k => ⟨K, PySem.W.Frag.In.keeps hK k, c⟩
theorem obsZ_eq {n : Nat} {ps : List (PySem.W.Frag → Bool)} {ds : List DA} {ts : List He.Tab} {g : Addr → Option Obj} {s : Shared} (h : ∀ a, g a = s.heap.get? a) : obsZ n ps ds ts g = (hookZ n ps ds ts).obs s := by
  have e : g = s.heap.get? := funext h
  rw [e] <;> rfl
end DI
namespace DI
open PySem PySem.Spec PyProof.Rows L2
/-! ### what a law's text is written in -/
def subAt (s : Stmt) (j : Nat) : Stmt := match s with
  | .ClassDef _ _ _ b _ _ _ _ _ _ _ => b.getD j (.Pass ⟨0, 0, 0, 0⟩)
  | _ => .Pass ⟨0, 0, 0, 0⟩
theorem SaysZ.fact {ps : List (PySem.W.Frag → Bool)} {ds : List DA} {ts : List He.Tab} {w : World} {K : PySem.W.Frag} (c : SaysZ ps ds ts w K) (i : Nat) {p : PySem.W.Frag → Bool} (h : ps[i]? = some p := by rfl) : p K = true := c.p p (List.mem_of_getElem? h)
theorem SaysZ.def_ {ps : List (PySem.W.Frag → Bool)} {ds : List DA} {ts : List He.Tab} {w : World} {K : PySem.W.Frag} (c : SaysZ ps ds ts w K) (i : Nat) {d : DA} (h : ds[i]? = some d := by rfl) : FnX K d := c.d d (List.mem_of_getElem? h)
theorem SaysZ.tab {ps : List (PySem.W.Frag → Bool)} {ds : List DA} {ts : List He.Tab} {w : World} {K : PySem.W.Frag} (c : SaysZ ps ds ts w K) (i : Nat) {t : He.Tab} (h : ts[i]? = some t := by rfl) : ∃ es n, KDict K w (t.1 K) es n := c.t t (List.mem_of_getElem? h)
/-- a law's head: the heap it ends in, the names -/
structure Zh (ps : List (PySem.W.Frag → Bool)) (ds : List DA) (ts : List He.Tab) (mg : Str → Option Value) (w : World) (K : PySem.W.Frag) : Prop where
  hp : ∃ h : Heap, K.In h ∧ h.Ns mainGlobals mg
  s : SaysZ ps ds ts w K
section
variable {ps : List (PySem.W.Frag → Bool)} {ds : List DA} {ts : List He.Tab} {mg : Str → Option Value} {w : World} {K : PySem.W.Frag}
theorem Zh.glo (Z : Zh ps ds ts mg w K) (i : Nat) {x : Str} (h : ps[i]? = some ((He.Fa.glo x).ok ·) := by rfl) : mg x = some (.ref (He.ga K x)) := by
  obtain ⟨hp, h1, h2⟩ := Z.hp
  exact He.glo_ok h1 h2 (Z.s.fact i h)
theorem Zh.free (Z : Zh ps ds ts mg w K) (i : Nat) {x : Str} (h : ps[i]? = some ((He.Fa.free x).ok ·) := by rfl) : mg x = none := by
  obtain ⟨hp, h1, h2⟩ := Z.hp
  exact He.free_ok h1 h2 (Z.s.fact i h)
theorem Zh.con (Z : Zh ps ds ts mg w K) {ca : Nat → Addr} {cf : Nat → List Str} (i : Nat) {x : Str} {d : D} (h : ps[i]? = some (conB x d) := by rfl) : ConH mg ⟨K, w, ca, cf⟩ x d := by
  obtain ⟨hp, h1, h2⟩ := Z.hp
  exact conB_ok h1 h2 (Z.s.fact i h)
theorem Zh.kd (Z : Zh ps ds ts mg w K) {ca : Nat → Addr} {cf : Nat → List Str} (i : Nat) {x : Str} {kvs : List (Str × D)} (hd : ∃ es n, KDict K w (He.ga K x) es n) (h : ps[i]? = some (kdB x kvs) := by rfl) : ConH mg ⟨K, w, ca, cf⟩ x (kdD kvs) := by
  obtain ⟨hp, h1, h2⟩ := Z.hp
  exact kdB_ok h1 h2 (Z.s.fact i h) hd
end
theorem tab_nil {α : Type} {p : Nat → α → Prop} : ∀ cid a, tab cid ([] : List (Nat × α)) = some a → p cid a := fun _ _ h => nomatch h
theorem tab_cons {α : Type} {p : Nat → α → Prop} {c0 : Nat} {a0 : α} {ks : List (Nat × α)} (h : p c0 a0) (r : ∀ cid a, tab cid ks = some a → p cid a) : ∀ cid a, tab cid ((c0, a0) :: ks) = some a → p cid a := fun cid a e => by
  unfold tab at e
  split at e
  · rename_i q
    cases e
    subst q
    exact h
  · exact r cid a e
/-- a def at an address keeps its promise -/
structure FnA (P : Program) (w : World) (K : PySem.W.Frag) (mg : Str → Option Value) (base : Heap) (c : CT) (k : Nat) (a : Addr) (ar : Nat) (f : Fn) : Prop where
  ex : ∃ fd ps, Binds K fd ps [] ∧ FnOk P w K mg base (L2.CX P w) k a fd ps (spD ⟨K, w, c.ca, c.cf⟩ ar f)
  kp : PySem.W.keepIn K (.ref a) = true
section
variable {P : Program} {w : World} {K : PySem.W.Frag} {mg : Str → Option Value} {base : Heap} {c : CT} {k : Nat} {a : Addr} {ar : Nat} {f : Fn}
theorem FnA.cal {x : Str} (h : FnA P w K mg base c k (He.ga K x) ar f) (hm : mg x = some (.ref (He.ga K x))) : Cal P w K mg base c k x ar f := ⟨⟨_, hm, h.kp, h.ex⟩⟩
theorem FnA.calC {x : Str} {cid : Nat} (h : FnA P w K mg base c k (He.ma K (c.ca cid) "__init__") ar f) (hm : mg x = some (.ref (c.ca cid))) (M : Mk K (c.ca cid) (He.ma K (c.ca cid) "__init__")) : CalC P w K mg base c k x cid ar f := ⟨hm, _, M, h.ex⟩
theorem FnA.fnH {X : Cx} {j : Nat} (h : FnA X.prog X.w X.K X.mg X.base c j a ar f) (hj : j ≤ k) : FnH X c k ar a f := FnH.mono ⟨h.ex⟩ hj
theorem FnA.of {N ps : List Str} {m : MS} {d : DA} (F : FnX K d) (S : FnScope N ps d.scope) (hl : ps.length ≤ N.length)
    (hbi : ∀ (kV doc pm : Value) (an : Option Addr) (cdv ct : Value) (us : List Value), us.length = ps.length → bindArgs (PySem.W.fnOf d.name d.qual d.params d.body d.scope .none kV doc pm an cdv ct) ⟨us, []⟩ = pure (ps.zip us))
    (hb : BodyOk P w K mg base c N d.qual d.scope (d.at_ K) k d.body m) : FnA P w K mg base c (k + 1) (d.at_ K) ps.length (run N.length m) := by
  obtain ⟨fd, F⟩ := F.ex
  exact ⟨⟨fd, ps, F.bindsN hbi, fn_run F S hl hb⟩, F.kp⟩
end
section
variable {X : Cx} {c : CT} {n : Ent} {W : XW} {k : Nat}
theorem r_c {x : Str} {d : D} {pos : Pos} (hm : ConH X.mg (tb X c) x d) (hg : Gl X x := by rfl) (hd : (x == ("__debug__" : Str)) = false := by decide) : PM X c n W (.Name x pos) (mConst d) := by
  obtain ⟨u, v, h⟩ := hm.ex
  exact r_g h hg hd
end
end DI
namespace DI
open PySem PySem.Spec PyProof.Rows L2
def exiB (C f : Str) (K : PySem.W.Frag) : Bool := oexB C K && (He.eqO (PySem.W.findIn K (.ref (He.ga K C)) f) (some none) && (He.eqO (PySem.W.findIn K (.ref (He.ga K C)) "__init__") (some (some (.ref (He.ma K (He.ga K C) "__init__")))) && decide (PySem.W.typeIn K (.ref (He.ma K (He.ga K C) "__init__")) = some (.type "function"))))
section
variable {X : Cx} {c : CT} {n : Ent} {W : XW} {k : Nat}
theorem ExH.of {C f : Str} {cid : Nat} (e : exiB C f X.K = true) (hc : c.ca cid = He.ga X.K C) (hf : c.cf cid = [f])
    (F : ∃ fd ps, Binds X.K fd ps [] ∧ FnOk X.prog X.w X.K X.mg X.base (L2.CX X.prog X.w) k (He.ma X.K (He.ga X.K C) "__init__") fd ps (spExc X.K (He.ga X.K C) f)) : ExH X c k cid f := by
  obtain ⟨e1, e⟩ := Bool.and_eq_true_iff.mp e
  obtain ⟨e2, e⟩ := Bool.and_eq_true_iff.mp e
  obtain ⟨e3, e4⟩ := Bool.and_eq_true_iff.mp e
  obtain ⟨fd, ps, F1, F2⟩ := F
  refine ⟨?_, ?_, ?_, hf⟩
  · rw [hc]; exact oexB_ok e1
  · rw [hc]; exact He.eqO_ok e2
  · rw [hc]
    exact ⟨_, fd, ps, He.eqO_ok e3, of_decide_eq_true e4, F1, F2⟩
theorem r_raise0 {cid : Nat} {x : Str} {p pos pos2 : Pos} (h : Ok X k W) (e : (He.Fa.exc x).ok X.K = true) (hm : X.mg x = some (.ref (He.ga X.K x))) (hc : c.ca cid = He.ga X.K x := by rfl) (hg : Gl X x := by rfl) (hdb : (x == ("__debug__" : Str)) = false := by decide) :
    PSt X c n W (.Raise (some (.Call (.Name x p) [] [] pos)) none pos2) (sRaise cid []) := by
  obtain ⟨e1, e2, e3, e4⟩ := He.exc_ok e
  refine s_raise0 h PySem.F.excBase_ValueError (by rw [hc]; exact e1) (by rw [hc]; exact hm) (by rw [hc]; exact e2) (raises_own (by rw [hc]; exact e3) (by rw [hc]; exact e4)) hg hdb
end
theorem FnA.exc {P : Program} {w : World} {K : PySem.W.Frag} {mg : Str → Option Value} {base : Heap} {C : Addr} {fl : Str} {k : Nat} {N ps : List Str} {d : DA} (F : FnX K d) (S : FnScope N ps d.scope) (h2 : ps.length = 2) (hN : N.length = 2)
    (hbi : ∀ (kV doc pm : Value) (an : Option Addr) (cdv ct : Value) (us : List Value), us.length = ps.length → bindArgs (PySem.W.fnOf d.name d.qual d.params d.body d.scope .none kV doc pm an cdv ct) ⟨us, []⟩ = pure (ps.zip us))
    (hb : ∀ (cdv : Value) (A : Around) (outer : List PySem.Env) (s : Shared) (H : Hp) (E : XK), PSs (cxOf (L2.CX P w) P w K mg base N d.qual d.scope (d.at_ K) cdv A outer s H E) d.body (tOst K fl (tVar 0) (tVar 1))) :
    ∃ fd ps, Binds K fd ps [] ∧ FnOk P w K mg base (L2.CX P w) (k + 1) (d.at_ K) fd ps (spExc K C fl) := by
  obtain ⟨fd, F⟩ := F.ex
  exact ⟨fd, ps, F.bindsN hbi, exc_run F S h2 hN hb⟩
end DI
namespace DI
open PySem PySem.Spec PyProof.Rows L2
theorem EqH.of {X : Cx} {c : CT} {k cid : Nat} {C : Str} {f : Fn} (e : eqB C X.K = true) (hc : c.ca cid = He.ga X.K C) (F : FnH X c k 2 (He.ma X.K (He.ga X.K C) "__eq__") f) : EqH X c k cid f := by
  obtain ⟨e1, e⟩ := Bool.and_eq_true_iff.mp e
  obtain ⟨e2, e⟩ := Bool.and_eq_true_iff.mp e
  obtain ⟨e3, e⟩ := Bool.and_eq_true_iff.mp e
  obtain ⟨e4, e5⟩ := Bool.and_eq_true_iff.mp e
  refine ⟨⟨_, F, ?_, e5⟩, ?_, ?_, ?_⟩
  · rw [hc]; exact He.eqO_ok e4
  · rw [hc]; exact of_decide_eq_true e1
  · rw [hc]; exact He.eqO_ok e2
  · rw [hc]; exact of_decide_eq_true e3
theorem obsT_ok {K : PySem.W.Frag} {c : CT} {obs : List (Nat × Str)} (hc : ∀ o ∈ obs, c.ca o.1 = He.ga K o.2) (e : (obs.all fun o => instB o.2 K) = true) : ∀ k, (obs.map (·.1)).contains k = true → InsT K (c.ca k) := fun k h => by
  rw [List.contains_iff_mem] at h
  obtain ⟨o, ho, rfl⟩ := List.mem_map.mp h
  rw [hc o ho]
  exact instB_ok (List.all_eq_true.mp e _ ho)
end DI
set_option linter.all false
set_option Elab.async false
set_option maxRecDepth 100000
set_option maxHeartbeats 4000000
/-! DPeek: a name whose list is looked at while it still grows; the followed list. -/
namespace DI
open PySem PySem.Spec PyProof.Rows L2
theorem rep_prim {T : Tb} {H H' : Hp} {d : D} {v : V} (h : DI.prim d = true) (R : Rep T H d v) : Rep T H' d v := by
  cases d <;> first | exact R | cases h
/-- what a look sees -/
theorem SI.peek {T : Tb} {n : Ent} {e : Env} {t : D} {σ : L2.St} {H0 H : Hp} {p : Addr} {i : Nat} {d : D} (S : SI T n e t σ H0 H p) (h : DI.peek e t i = some d) :
    ∃ v G, σ[i]? = some (some v) ∧ Ext H0 G ∧ Ext G H ∧ Rep T G d v ∧ ∀ G' H', Grow G H G' H' → ∃ H0', Grow H0 H H0' H' := by
  have back : ∀ (a : Addr) (o : HO), H0 a = none → H a = some o → ∃ G : Hp, Ext H0 G ∧ Ext G H ∧ G a = some o ∧ ∀ G' H', Grow G H G' H' → ∃ H0', Grow H0 H H0' H' := fun a o h0 ha => by
    refine ⟨upd H0 a o, fun b u hb => ?_, fun b u hb => ?_, upd_same, fun G' H' g => ⟨fun b => if H b = none then G' b else H0 b, g.ext, fun b u hb => ?_, fun b u hb => ?_, fun b hb => if_neg hb⟩⟩
    · rw [upd_ne (by rintro rfl; rw [h0] at hb; cases hb)]; exact hb
    · by_cases z : b = a
      · subst z
        rw [upd_same] at hb
        cases hb
        exact ha
      · rw [upd_ne z] at hb; exact S.sub _ _ hb
    · show (if H b = none then G' b else H0 b) = some u
      rw [if_neg (by rw [S.sub _ _ hb]; exact fun z => nomatch z)]
      exact hb
    · have hb : (if H b = none then G' b else H0 b) = some u := hb
      by_cases z : H b = none
      · rw [if_pos z] at hb; exact g.sub _ _ hb
      · rw [if_neg z] at hb; exact g.ext _ _ (S.sub _ _ hb)
  unfold DI.peek at h
  split at h
  · rename_i xs hs
    cases h
    obtain ⟨a, h1, ⟨vs, h2, h3⟩, _, h5, _⟩ := S.slot i _ hs
    obtain ⟨G, g1, g2, g3, g4⟩ := back a _ h5 h2
    exact ⟨_, G, h1, g1, g2, ⟨a, vs, rfl, g3, h3.ext g1⟩, g4⟩
  · rename_i d' hs
    cases h
    obtain ⟨v, h1, h2⟩ := S.slot i _ hs
    exact ⟨v, H0, h1, Ext.rfl', S.sub, h2, fun G' H' g => ⟨G', g⟩⟩
  · rename_i hs
    cases t with
    | lst xs =>
      cases h
      obtain ⟨h1, ht⟩ := S.slot i _ hs
      obtain ⟨⟨vs, h2, h3⟩, h5, _⟩ := S.trk ht
      obtain ⟨G, g1, g2, g3, g4⟩ := back p _ h5 h2
      exact ⟨_, G, h1, g1, g2, ⟨p, vs, rfl, g3, h3.ext g1⟩, g4⟩
    | _ => cases h
  · cases h
section
variable {X : Cx} {c : CT} {n : Ent} {W : XW} {k : Nat} {b : Expr} {mb : ME} {x : Str} {px pos : Pos}
/-- an operation's reading -/
def rOp (T : Tb) (g : D → D → Option D) : R2 := fun x y H Q => ∃ H0 dx dy d, Ext H0 H ∧ Rep T H0 dx x ∧ Rep T H0 dy y ∧ g dx dy = some d ∧ ∀ z H0' H', Grow H0 H H0' H' → Rep T H0' d z → Q z H'
theorem Op2.opR {f : Value → Value → Sem Value} {g : D → D → Option D} (hf : Op2 X c f g) : OpR X f (rOp (tb X c) g) := fun pins s σ H x y v u Q I rx ry ⟨H0, dx, dy, d, x0, Rx, Ry, e, q⟩ => hf pins s σ H0 H x y v u dx dy d Q I x0 rx ry Rx Ry e q
/-- the reading of a look on the left -/
theorem pkL_read {g : D → D → Option D} {i : Nat} {σ : L2.St} {H : Hp} {Q : VK} (q : tE (tb X c) n W (mPkL g i mb) σ H Q) :
    ∃ v, σ[i]? = some (some v) ∧ tE (tb X c) n W mb σ H fun y H2 => ∃ H0 dx dy d, Ext H0 H2 ∧ Rep (tb X c) H0 dx v ∧ Rep (tb X c) H0 dy y ∧ g dx dy = some d ∧ ∀ z H0' H', Grow H0 H2 H0' H' → Rep (tb X c) H0' d z → Q z H' := by
  obtain ⟨e, t, H0, p, S, q⟩ := q
  have q : RE (tb X c) n σ H0 p Q W (mPkL g i mb e t) := q
  unfold mPkL at q
  cases hp : peek e t i with
  | none => rw [hp] at q; exact q.elim
  | some d0 =>
    rw [hp] at q
    obtain ⟨v, _, hv, _⟩ := S.peek hp
    refine ⟨v, hv, e, t, H0, p, S, ?_⟩
    have h1 := bindE (T := tb X c) (n := n) (σ := σ) (H0 := H0) (p := p) (W := W) (C := RE (tb X c) n σ H0 p Q W) RE.e RE.s q
    cases hx : mb e t with
    | err k fs => rw [hx] at h1; exact h1
    | stuck => rw [hx] at h1; exact h1
    | ok d1 e1 t1 =>
      rw [hx] at h1
      intro y G0 G S1 x1 R1
      obtain ⟨d1, e1, t1, G0, S1, x1, R1, q1⟩ := h1 y G0 G S1 x1 R1
      cases hp1 : peek e1 t1 i with
      | none => rw [hp1] at q1; exact q1.elim
      | some d2 =>
        rw [hp1] at q1
        obtain ⟨v', G1, hv', g1, g2, g3, g4⟩ := S1.peek hp1
        rw [hv] at hv'
        cases hv'
        have q1 : RE (tb X c) n σ H0 p Q W (R.prim (g d2 d1) e1 t1) := q1
        cases hg : g d2 d1 with
        | none => rw [hg] at q1; exact q1.elim
        | some d =>
          rw [hg] at q1
          have q1 : RE (tb X c) n σ H0 p Q W (if prim d then .ok d e1 t1 else .stuck) := q1
          by_cases hd : prim d = true
          · rw [if_pos hd] at q1
            refine ⟨G1, d2, d1, d, g2, g3, R1.ext g1, hg, fun z G' H' gr Rz => ?_⟩
            obtain ⟨H0', gr'⟩ := g4 G' H' gr
            exact q1 z H0' H' (S1.grow gr') (x1.trans gr'.ext0) (rep_prim hd Rz)
          · rw [if_neg hd] at q1; exact q1.elim
theorem pkR_read {g : D → D → Option D} {i : Nat} {σ : L2.St} {H : Hp} {Q : VK} (q : tE (tb X c) n W (mPkR g mb i) σ H Q) :
    tE (tb X c) n W mb σ H fun y H2 => ∃ v, σ[i]? = some (some v) ∧ ∃ H0 dx dy d, Ext H0 H2 ∧ Rep (tb X c) H0 dx y ∧ Rep (tb X c) H0 dy v ∧ g dx dy = some d ∧ ∀ z H0' H', Grow H0 H2 H0' H' → Rep (tb X c) H0' d z → Q z H' := by
  obtain ⟨e, t, H0, p, S, q⟩ := q
  have q : RE (tb X c) n σ H0 p Q W (mPkR g mb i e t) := q
  unfold mPkR at q
  refine ⟨e, t, H0, p, S, ?_⟩
  have h1 := bindE (T := tb X c) (n := n) (σ := σ) (H0 := H0) (p := p) (W := W) (C := RE (tb X c) n σ H0 p Q W) RE.e RE.s q
  cases hx : mb e t with
  | err k fs => rw [hx] at h1; exact h1
  | stuck => rw [hx] at h1; exact h1
  | ok d1 e1 t1 =>
    rw [hx] at h1
    intro y G0 G S1 x1 R1
    obtain ⟨d1, e1, t1, G0, S1, x1, R1, q1⟩ := h1 y G0 G S1 x1 R1
    cases hp1 : peek e1 t1 i with
    | none => rw [hp1] at q1; exact q1.elim
    | some d2 =>
      rw [hp1] at q1
      obtain ⟨v', G1, hv', g1, g2, g3, g4⟩ := S1.peek hp1
      have q1 : RE (tb X c) n σ H0 p Q W (R.prim (g d1 d2) e1 t1) := q1
      cases hg : g d1 d2 with
      | none => rw [hg] at q1; exact q1.elim
      | some d =>
        rw [hg] at q1
        have q1 : RE (tb X c) n σ H0 p Q W (if prim d then .ok d e1 t1 else .stuck) := q1
        by_cases hd : prim d = true
        · rw [if_pos hd] at q1
          refine ⟨v', hv', G1, d1, d2, d, g2, R1.ext g1, g3, hg, fun z G' H' gr Rz => ?_⟩
          obtain ⟨H0', gr'⟩ := g4 G' H' gr
          exact q1 z H0' H' (S1.grow gr') (x1.trans gr'.ext0) (rep_prim hd Rz)
        · rw [if_neg hd] at q1; exact q1.elim
theorem r_pkItem (i : Nat) (h : Ok X k W) (hb : PM X c n W b mb) (hN : X.N[i]? = some x := by rfl) (hv : Vis X.env.scope x := by first | exact Or.inl rfl | exact Or.inr (Or.inl rfl) | exact Or.inr (Or.inr rfl)) (hd : (x == ("__debug__" : Str)) = false := by decide) (hcd : (x == ("__classdict__" : Str)) = false := by decide) (hs : PlainIx b := by exact fun _ _ => rfl) :
    PM X c n W (.Subscript (.Name x px) b pos) (mPkL pItem i mb) :=
  ⟨fun pins s σ H Q I q => (pe_ix (ix_D (c := c) h.room.units) (pe_var hN hv hd hcd) hb hs).run pins s σ H Q I (pkL_read q)⟩
theorem r_pkCmp (i : Nat) {op : CmpOp} {g : D → D → Option D} {px : Pos} (hf : Op2 X c (compareOp op) g) (hb : PM X c n W b mb) (hN : X.N[i]? = some x := by rfl) (hv : Vis X.env.scope x := by first | exact Or.inl rfl | exact Or.inr (Or.inl rfl) | exact Or.inr (Or.inr rfl)) (hd : (x == ("__debug__" : Str)) = false := by decide) (hcd : (x == ("__classdict__" : Str)) = false := by decide)
    (hm : behindInMarks op (.Name x px) = false := by rfl) : PM X c n W (.Compare b [op] [.Name x px] pos) (mPkR g mb i) :=
  ⟨fun pins s σ H Q I q => (pe_cmpR hf.opR hb (pe_var hN hv hd hcd) hm).run pins s σ H Q I (pkR_read q)⟩
/-- the same as a test -/
theorem r_bpkCmp (i : Nat) {op : CmpOp} {g : D → D → Option D} {px : Pos} (hf : Op2 X c (compareOp op) g) (hb : PM X c n W b mb) (hN : X.N[i]? = some x := by rfl) (hv : Vis X.env.scope x := by first | exact Or.inl rfl | exact Or.inr (Or.inl rfl) | exact Or.inr (Or.inr rfl)) (hd : (x == ("__debug__" : Str)) = false := by decide) (hcd : (x == ("__classdict__" : Str)) = false := by decide)
    (hm : behindInMarks op (.Name x px) = false := by rfl) : PB X c n W (.Compare b [op] [.Name x px] pos) (mPkR g mb i) := by
  refine ⟨fun pins s σ H Q I ⟨e, t, H0, p, S, q⟩ => ?_⟩
  refine (pt_cmpR hf.opR hb (pe_var hN hv hd hcd) hm).run pins s σ H Q I (pkR_read (Q := fun x H' => ∃ k, x = .bl k ∧ Q k H') ⟨e, t, H0, p, S, ?_⟩)
  have q : RT (tb X c) n σ H0 p Q W (asB (mPkR g mb i e t)) := q
  cases hc : mPkR g mb i e t with
  | err kk fs => rw [hc] at q; exact q
  | stuck => rw [hc] at q; exact q
  | ok d e1 t1 =>
    rw [hc] at q
    intro v G0 G S1 x1 R1
    cases d with
    | bl b =>
      have R1 : v = .bl b := R1
      exact ⟨b, R1, q _ _ S1 x1⟩
    | _ => exact q.elim
theorem r_pkLen (i : Nat) {f : Str} {fp : Pos} {gg : List D → Option D} {id : String} (hc : Blt X c (.builtin id) gg) (hm : X.mg f = none) (hvf : bootBuiltins f = some (.builtin id)) (hN : X.N[i]? = some x := by rfl) (hv : Vis X.env.scope x := by first | exact Or.inl rfl | exact Or.inr (Or.inl rfl) | exact Or.inr (Or.inr rfl)) (hd : (x == ("__debug__" : Str)) = false := by decide) (hcd : (x == ("__classdict__" : Str)) = false := by decide)
    (hg : Gl X f := by rfl) (hn : f ≠ "__name__" := by decide) (hdb : (f == ("__debug__" : Str)) = false := by decide) (he : starEach [.Name x px] X.env = (false, eval (.Name x px) X.env) :: starEach [] X.env := by rfl) (hpl : (backTo pos (starEach [] X.env)).any (·.1) = false := by rfl) :
    PM X c n W (.Call (.Name f fp) [.Name x px] [] pos) (mPk1 (fun d => gg [d]) i) := by
  refine ⟨fun pins s σ H Q I ⟨e, t, H0, p, S, q⟩ => ?_⟩
  refine (pe_callB hc hg hm hvf (pa_cons (pe_var hN hv hd hcd) pa_nil he) hn hdb he hpl).run pins s σ H Q I ?_
  have q : RE (tb X c) n σ H0 p Q W (mPk1 (fun d => gg [d]) i e t) := q
  unfold mPk1 at q
  cases hp : peek e t i with
  | none => rw [hp] at q; exact q.elim
  | some d0 =>
    rw [hp] at q
    obtain ⟨v, G1, hv, g1, g2, g3, g4⟩ := S.peek hp
    have q : RE (tb X c) n σ H0 p Q W (R.prim (gg [d0]) e t) := q
    cases hg : gg [d0] with
    | none => rw [hg] at q; exact q.elim
    | some d =>
      rw [hg] at q
      have q : RE (tb X c) n σ H0 p Q W (if prim d then .ok d e t else .stuck) := q
      by_cases hd : prim d = true
      · rw [if_pos hd] at q
        refine ⟨v, hv, G1, [d0], d, g2, ⟨v, [], rfl, g3, rfl⟩, hg, fun z G' H' gr Rz => ?_⟩
        obtain ⟨H0', gr'⟩ := g4 G' H' gr
        exact q z H0' H' (S.grow gr') gr'.ext0 (rep_prim hd Rz)
      · rw [if_neg hd] at q; exact q.elim
end
end DI
set_option linter.all false
set_option Elab.async false
set_option maxRecDepth 100000
set_option maxHeartbeats 4000000
/-! DTrk: the followed list: stored into, popped from. -/
namespace DI
open PySem PySem.Spec PyProof.Rows L2
theorem SdR.prim {t : D} {e : Env} (x : Option D) : SdR t (R.prim x e t) := by
  unfold R.prim
  split
  · split
    · exact Iff.rfl
    · trivial
  · trivial
section
variable {a b : ME} [St1 a] [St1 b] {i : Nat}
instance {g : D → D → Option D} : St1 (mPkL g i a) := ⟨fun e t => by
  unfold mPkL
  split
  · exact (St1.st (m := a) e t).bind fun d e t => by
      split
      · exact .prim _
      · trivial
  · trivial⟩
instance {g : D → D → Option D} : St1 (mPkR g a i) := ⟨fun e t => (St1.st (m := a) e t).bind fun d e t => by
  try dsimp only
  split
  · exact .prim _
  · trivial⟩
instance {g : D → Option D} : St1 (mPk1 g i) := ⟨fun e t => by
  unfold mPk1
  split
  · exact .prim _
  · trivial⟩
instance : StM (sStoreT i a b) := ⟨fun e t => OKt.bind (St1.st (m := b) e t) fun d e t => by
  try dsimp only
  split
  · exact OKt.bind (St1.st (m := a) e t) fun d e t => by
      try dsimp only
      split
      · split
        · exact fun _ z => nomatch z
        · trivial
      · trivial
  · trivial⟩
instance : St1 (mPopT i a) := ⟨fun e t => by
  unfold mPopT
  split
  · exact (St1.st (m := a) e _).bind fun d e t => by
      try dsimp only
      split
      · split
        · split
          · exact (show Sd _ _ from ⟨fun z => (nomatch z), fun z => (nomatch z)⟩)
          · trivial
        · trivial
      · trivial
  · trivial⟩
end
theorem Reps.erase {T : Tb} {H : Hp} : ∀ {ds : List D} {vs : List V} (j : Nat), Reps T H ds vs → Reps T H (ds.eraseIdx j) (vs.eraseIdx j)
  | [], vs, j, h => by
    have h : vs = [] := h
    subst h
    exact rfl
  | d :: ds, vs, 0, h => by
    obtain ⟨v, r, rfl, _, h2⟩ := h
    exact h2
  | d :: ds, vs, j + 1, h => by
    obtain ⟨v, r, rfl, h1, h2⟩ := h
    exact ⟨v, _, rfl, h1, Reps.erase j h2⟩
section
variable {X : Cx} {c : CT} {n : Ent} {W : XW} {k : Nat}
theorem r_storeT (i : Nat) {x : Str} {px pos' pos : Pos} {value key : Expr} {mk mv : ME} (h : Ok X k W) (hk : PM X c n W key mk) (hv : PM X c n W value mv) (hN : X.N[i]? = some x := by rfl) (hvs : Vis X.env.scope x := by first | exact Or.inl rfl | exact Or.inr (Or.inl rfl) | exact Or.inr (Or.inr rfl)) (hd : (x == ("__debug__" : Str)) = false := by decide) (hcd : (x == ("__classdict__" : Str)) = false := by decide)
    (ha : ∀ v, assign (.Subscript (.Name x px) key pos') X.env v = (do
      let ov ← holding [v] (eval (.Name x px) X.env)
      let iv ← holding [v, ov] (eval key X.env)
      standAt pos'
      holding [v, ov, iv] (setItem ov iv v)
      release [v, ov, iv] []) := by intro _; rfl)
    (hs : swapsWithSole [.Subscript (.Name x px) key pos'] value pos.line X.env = pure false := by rfl) (hw : swappedStores [.Subscript (.Name x px) key pos'] value X.env = pure none := by rfl) (h1 : (assignEach [.Subscript (.Name x px) key pos'] X.env).map (·.2) = [assign (.Subscript (.Name x px) key pos') X.env] := by rfl) :
    PSt X c n W (.Assign [.Subscript (.Name x px) key pos'] value pos) (sStoreT i mk mv) := by
  refine ⟨fun pins s σ H D' I ⟨e, t, H0, p, S, q⟩ => ?_⟩
  refine (ps_asg hv (pg_sub (t := rSetL) (pe_var hN hvs hd hcd) hk set_list ha) hs hw h1).run pins s σ H D' I ⟨e, t, H0, p, S, ?_⟩
  have q : RS (tb X c) n H0 p t D' W ((mv e t).bind fun v e t => match e[i]? with
    | some .trk => (mk e t).bind fun k e t => match e[i]?, t, k with
      | some .trk, .lst xs, .int j => if 0 ≤ j ∧ j.toNat < xs.length then .ok .next e (.lst (xs.set j.toNat v)) else .stuck
      | _, _, _ => .stuck
    | _ => .stuck) := q
  cases hx : mv e t with
  | err k fs => rw [hx] at q; exact q
  | stuck => rw [hx] at q; exact q
  | ok dv e1 t1 =>
    rw [hx, R.bind_ok] at q
    intro v G0 G S1 x1 R1
    cases hi : e1[i]? with
    | none => rw [hi] at q; exact q.elim
    | some sl =>
      rw [hi] at q
      cases sl with
      | trk =>
        obtain ⟨y1, y2⟩ := S1.slot i _ hi
        refine ⟨.ref p, y1, e1, t1, G0, p, S1, ?_⟩
        have q : RS (tb X c) n H0 p t D' W ((mk e1 t1).bind fun k e t => match e[i]?, t, k with
          | some .trk, .lst xs, .int j => if 0 ≤ j ∧ j.toNat < xs.length then .ok .next e (.lst (xs.set j.toNat dv)) else .stuck
          | _, _, _ => .stuck) := q
        cases hy : mk e1 t1 with
        | err k fs => rw [hy] at q; exact q
        | stuck => rw [hy] at q; exact q
        | ok dk e2 t2 =>
          rw [hy, R.bind_ok] at q
          intro kv K0 K S2 x2 R2
          cases hi2 : e2[i]? with
          | none => rw [hi2] at q; exact q.elim
          | some sl2 =>
            rw [hi2] at q
            cases sl2 with
            | trk =>
              cases t2 with
              | lst xs =>
                cases dk with
                | int j =>
                  have q : RS (tb X c) n H0 p t D' W (if 0 ≤ j ∧ j.toNat < xs.length then .ok .next e2 (.lst (xs.set j.toNat dv)) else .stuck) := q
                  by_cases hj : 0 ≤ j ∧ j.toNat < xs.length
                  · rw [if_pos hj] at q
                    obtain ⟨⟨vs, z1, z2⟩, z3, _⟩ := S2.trk (fun z => nomatch z)
                    have R2 : kv = .int j := R2
                    subst R2
                    refine ⟨p, vs, j, j.toNat, rfl, rfl, z1, ?_, q _ _ _ _ (S2.trkMut (fun z => nomatch z) (fun z => nomatch z) (fun b hb => upd_ne hb) ⟨_, upd_same, Reps.set (R1.ext x2) _ z2⟩) (x1.trans x2) fun _ => rfl⟩
                    unfold ixN
                    rw [if_pos hj.1, if_pos (by rw [← z2.length]; omega)]
                  · rw [if_neg hj] at q; exact q.elim
                | _ => exact q.elim
              | _ => exact q.elim
            | _ => exact q.elim
      | _ => exact q.elim
theorem r_popT (i : Nat) {x : Str} {px apos cpos : Pos} {a : Expr} {ma : ME} (ha : PM X c n W a ma) (hN : X.N[i]? = some x := by rfl) (hvs : Vis X.env.scope x := by first | exact Or.inl rfl | exact Or.inr (Or.inl rfl) | exact Or.inr (Or.inr rfl)) (hd : (x == ("__debug__" : Str)) = false := by decide) (hcd : (x == ("__classdict__" : Str)) = false := by decide)
    (hst : starEach [a] X.env = (false, eval a X.env) :: starEach [] X.env := by rfl) (hbase : attributeBase (.Name x px) "pop" X.env (eval (.Name x px) X.env) = eval (.Name x px) X.env := by rfl)
    (hfew : ((backTo cpos (starEach [a] X.env)).all (fun x => !x.1) && (backToKw cpos (keywordEach [] X.env)).all (fun x => x.1.isSome) && decide (([a] : List Expr).length + ([] : List Keyword).length + (if ([] : List Keyword).isEmpty then 0 else 1) < 30)) = true := by rfl)
    (hline : (apos.endLine == cpos.line) = true := by rfl) (hplain : (backTo cpos (starEach [] X.env)).any (·.1) = false := by rfl) : PM X c n W (.Call (.Attribute (.Name x px) "pop" apos) [a] [] cpos) (mPopT i ma) := by
  refine ⟨fun pins s σ H Q I ⟨e, t, H0, p, S, q⟩ => ?_⟩
  refine (pe_bm PySem.F.plainAttrs_list PySem.F.slot_list_pop PySem.F.type_list_pop mt_popAt (pe_var hN hvs hd hcd) (pa_cons ha pa_nil hst) hbase hfew hline hst hplain).run pins s σ H Q I ?_
  have q : RE (tb X c) n σ H0 p Q W (mPopT i ma e t) := q
  unfold mPopT at q
  cases hi : e[i]? with
  | none => rw [hi] at q; exact q.elim
  | some sl =>
    rw [hi] at q
    cases sl with
    | trk =>
      cases t with
      | lst xs0 =>
        obtain ⟨h1, _⟩ := S.slot i _ hi
        obtain ⟨⟨vs0, z1, z2⟩, _, _⟩ := S.trk (fun z => nomatch z)
        refine ⟨.ref p, h1, .inl ⟨rfl, vs0, SqL.of z1⟩, e, _, H0, p, S, ?_⟩
        have q : RE (tb X c) n σ H0 p Q W ((ma e (.lst xs0)).bind fun k e t => match e[i]?, t, k with
          | some .trk, .lst xs, .int j => if 0 ≤ j ∧ j < 1000 then (match xs[j.toNat]? with
            | some d => .ok d e (.lst (xs.eraseIdx j.toNat))
            | none => .stuck) else .stuck
          | _, _, _ => .stuck) := q
        cases hx : ma e (.lst xs0) with
        | err k fs => rw [hx] at q; exact q
        | stuck => rw [hx] at q; exact q
        | ok dk e2 t2 =>
          rw [hx, R.bind_ok] at q
          intro kv K0 K S2 x2 R2
          cases hi2 : e2[i]? with
          | none => rw [hi2] at q; exact q.elim
          | some sl2 =>
            rw [hi2] at q
            cases sl2 with
            | trk =>
              cases t2 with
              | lst xs =>
                cases dk with
                | int j =>
                  have q : RE (tb X c) n σ H0 p Q W (if 0 ≤ j ∧ j < 1000 then (match xs[j.toNat]? with
                    | some d => .ok d e2 (.lst (xs.eraseIdx j.toNat))
                    | none => .stuck) else .stuck) := q
                  by_cases hj : 0 ≤ j ∧ j < 1000
                  · rw [if_pos hj] at q
                    cases hg : xs[j.toNat]? with
                    | none => rw [hg] at q; exact q.elim
                    | some d =>
                      rw [hg] at q
                      obtain ⟨⟨vs, y1, y2⟩, _, _⟩ := S2.trk (fun z => nomatch z)
                      obtain ⟨v, e3, Rv⟩ := y2.get hg
                      have R2 : kv = .int j := R2
                      subst R2
                      have hl : j.toNat < vs.length := (List.getElem?_eq_some_iff.mp e3).1
                      refine ⟨p, vs, j, j.toNat, v, rfl, rfl, y1, by omega, by omega, ?_, e3, q v _ _ (S2.trkMut (fun z => nomatch z) (fun z => nomatch z) (fun b hb => upd_ne hb) ⟨_, upd_same, Reps.erase _ y2⟩) x2 Rv⟩
                      unfold seqIndex?
                      have h0 : ¬ j < 0 := by omega
                      have h1 : j < (vs.length : Int) := by omega
                      simp only [h0, if_false, hj.1, h1, decide_true, Bool.and_self, if_true]
                  · rw [if_neg hj] at q; exact q.elim
                | _ => exact q.elim
              | _ => exact q.elim
            | _ => exact q.elim
      | _ => exact q.elim
    | _ => cases t <;> exact q.elim
end
end DI
set_option linter.all false
set_option Elab.async false
set_option maxRecDepth 100000
set_option maxHeartbeats 4000000
/-! DTry: several except clauses, with names or without. -/
namespace DI
open PySem PySem.Spec PyProof.Rows L2
abbrev TSx := Addr → Value → Option Addr → TS
def endN (D : Ends) : Option Nat → Ends
  | none => D
  | some i => { nx := fun τ G => D.nx (τ.set i none) G, rt := D.rt, bk := fun τ G => D.bk (τ.set i none) G, ct := fun τ G => D.ct (τ.set i none) G }
def atN (a : Addr) (σ : L2.St) : Option Nat → L2.St
  | none => σ
  | some i => σ.set i (some (.ref a))
/-- what the clauses wish, with names or without -/
def wN (K : PySem.W.Frag) (W0 : WX) (D : Ends) : List (Value × Option Nat × TSx) → WX
  | [] => W0
  | q :: r => fun cls d σ H => ∃ b, PySem.W.exmOne K cls q.1 = some b ∧ (b = true → ∀ a, H a = none → q.2.2 a cls d (endN D q.2.1) (atN a σ q.2.1) H) ∧ (b = false → wN K W0 D r cls d σ H)
inductive HdN (X : Cx) : List ExceptHandler → List (Value × Option Nat × TSx) → Prop
  | nil : HdN X [] []
  | plain {y : Str} {c : Value} {ts : TSx} {b1 : Stmt} {bs : List Stmt} {p1 p2 : Pos} {hs : List ExceptHandler} {l : List (Value × Option Nat × TSx)} (hc : Names X y c)
      (go : ∀ (a : Addr) (o : Obj) (cls : Value) (d : Option Addr) (pn : List (Addr × Obj)), Zc cls d o → (∃ vs, o.data = .fields vs) → PSs (X.suite a ((a, o) :: pn)) (b1 :: bs) (ts a cls d)) (r : HdN X hs l) :
      HdN X (.ExceptHandler (some (.Name y p1)) none (b1 :: bs) p2 :: hs) ((c, none, ts) :: l)
  | named {y z : Str} {i : Nat} {c : Value} {ts : TSx} {b1 : Stmt} {bs : List Stmt} {p1 p2 : Pos} {hs : List ExceptHandler} {l : List (Value × Option Nat × TSx)} (hi : X.N[i]? = some z) (hz : X.env.kindOf z = some .local) (hc : Names X y c)
      (go : ∀ (a : Addr) (o : Obj) (cls : Value) (d : Option Addr) (pn : List (Addr × Obj)), Zc cls d o → (∃ vs, o.data = .fields vs) → PSs (X.suite a ((a, o) :: pn)) (b1 :: bs) (ts a cls d)) (r : HdN X hs l) :
      HdN X (.ExceptHandler (some (.Name y p1)) (some z) (b1 :: bs) p2 :: hs) ((c, some i, ts) :: l)
section
variable {X : Cx} {body : List Stmt} {h1 : ExceptHandler} {hs : List ExceptHandler} {l : List (Value × Option Nat × TSx)} {pos : Pos} {tb : WX → TS} {W0 : WX}
theorem ps_tryN (hst : X.stack = X.env :: X.outer) (hfm : X.env.frame = some X.env.locals) (hN : X.N.Nodup) (tk : Takes X W0)
    (hb : ∀ (W : WX) (pn : List (Addr × Obj)) (xe : Value → Shared → Prop), Takes (X.tr pn xe) W → PassesOwn (model X.prog X.w) X.A X.env xe → PSs (X.tr pn xe) body (tb W))
    (hh : HdN X (h1 :: hs) l) : PS X (.Try body (h1 :: hs) [] [] pos) (fun D σ H => tb (wN X.K W0 D l) D σ H) := by
  refine ⟨fun pins s σ H D I h => ?_⟩
  have k := I.ok
  have kfr : X.A.frames = some (X.env :: X.outer) := by rw [k.frames, hst]
  have body_ := (hb (wN X.K W0 D l) (X.pn ++ pins) (fun e r1 => wpAny (model X.prog X.w) X.A (noteFrame e X.env) (fun _ r2 => wpAny (model X.prog X.w) X.A (setFlight e none) (fun _ r3 =>
    wpAny (model X.prog X.w) X.A (handleBy e X.env (h1 :: hs)) (SP X pins D) X.xe r3) X.xe r2) X.xe r1) ?tk PassesOwn.looking).run [] s σ H D (I.toTry _) h
  case tk =>
    intro u s2 xx
    obtain ⟨a, B, sI, pz, τ, G, cls, d, rfl, J0, nb, up, sky, na, os, ag, w⟩ := xx
    have J : Inv X pins τ G sI := J0.ofTry k
    have sky1 : Sky B (X.env :: X.outer) a (Zc cls d) X.env.locals s2.heap := by rw [← hst]; exact sky
    show wpAny (model X.prog X.w) X.A (noteFrame (.ref a) X.env) _ _ _
    refine Sky.land Zc.steady kfr hfm sky1 fun g3 fl up3 => ?_
    have J3 : Inv X pins τ G { s2 with heap := g3 } := J.landed nb fl.1 (up.trans up3) os ag
    obtain ⟨o3, vs3, e3, z3, d3⟩ := fl.there
    have off : ∀ {g : Heap} {o : Obj} {vs : Array Value}, g.FunFrames B (X.env :: X.outer) → g.get? a = some o → o.data = .fields vs → a ∉ frs (X.env :: X.outer) := fun {g o vs} ff e dd hm => by
      obtain ⟨_, o', e', no⟩ := ff.mem hm
      cases e.symm.trans e'
      exact no _ dd
    have nfr := off fl.2.2.1 e3 d3
    have nL : a ≠ X.env.locals := by
      intro z
      refine nfr (List.mem_filterMap.mpr ⟨X.env, List.mem_cons_self, ?_⟩)
      rw [hfm, z]
    have nF : a ∉ X.fs := by
      intro hm
      obtain ⟨ev, he, q⟩ := List.mem_filterMap.mp hm
      exact nfr (List.mem_filterMap.mpr ⟨ev, List.mem_cons_of_mem _ he, q⟩)
    have S3 := J3.suite e3 d3 na nL nF
    have go : ∀ {hs' : List ExceptHandler} {l' : List (Value × Option Nat × TSx)}, HdN X hs' l' → wN X.K W0 D l' cls d τ G → wpAny (model X.prog X.w) X.A (handleBy (.ref a) X.env hs') (SP X pins D) X.xe { s2 with heap := g3 } := by
      intro hs' l' hk
      have test : ∀ {y : Str} {c : Value} {p1 : Pos} {Q : Value → Shared → Prop} {E : Value → Shared → Prop}, Names X y c → Q c { s2 with heap := g3 } → wpAny (model X.prog X.w) (X.A.mark (some (.ref a))) (eval (.Name y p1) X.env) Q E { s2 with heap := g3 } := fun {y c p1 Q E} hc q => by
        obtain ⟨hg, hd, hm | ⟨hm, hv, hn⟩⟩ := hc
        · exact ld_glob (X := X.suite a ((a, o3) :: (X.pn ++ pins))) S3 hg hm q hd
        · exact ld_blt (X := X.suite a ((a, o3) :: (X.pn ++ pins))) S3 hg hm hv q hn hd
      have LT : PySem.W.Looks (model X.prog X.w) g3 (typeOf (.ref a)) cls := fun A Q E s kk q => wpAny_typeOf_ref (kk _ _ e3) (by rw [z3.1]; exact q)
      induction hk with
      | nil =>
        intro w
        refine wpAny_handleBy_nil ?_
        obtain ⟨y1, y2, y3, oe, vs, T, oT, ts', he, hz, hd, hv1, hr⟩ := id fl
        unfold PySem.passOn
        refine wpAny_bind (wpAny_field he hd hv1 ?_)
        have nn : ¬ ((Value.ref T == Value.none) = true) := by simp
        rw [if_neg nn]
        have last : wpAny (model X.prog X.w) X.A (setFlight (.ref a) X.env.frame) (fun _ r4 => wpAny (model X.prog X.w) X.A (throw (.ref a) : Sem PySem.Flow) (SP X pins D) X.xe r4) X.xe { s2 with heap := g3 } := by
          rw [hfm]
          refine HandSPX.setFlight_upZ fl fun g4 fl4 up4 => wpAny_throw (tk _ _ ?_)
          have sk4 : Sky B X.stack a (Zc cls d) X.env.locals g4 := .inr (.inr (by rw [hst]; exact fl4))
          exact ⟨a, B, sI, pins, τ, G, cls, d, rfl, J, nb, (up.trans up3).trans up4, sk4, na, os, ag, w⟩
        first
          | exact wpAny_bind (wpAny_pure (wpAny_bind last))
          | exact wpAny_bind last
      | @plain y c ts b1 bs p1 p2 hds2 l2 hc hgo r ih =>
        intro w
        obtain ⟨b, hb1, hyes, hno⟩ := w
        refine wpAny_handleBy_cons (codeAny_handlers_test ?_) (by intro q; cases q)
        have LM := PySem.W.exm_one (M := model X.prog X.w) (J3.kIn) LT hb1
        refine test hc (LM.here ?_)
        cases b with
        | false =>
          show wpAny _ X.A (handleBy (.ref a) X.env hds2) _ _ _
          exact ih (hno rfl)
        | true =>
          refine codeAny_handlers_suite ?_
          refine HandSPX.lands_againZ fl fun g4 fl4 up4 => ?_
          have J4 : Inv X pins τ G { s2 with heap := g4 } := J.landed nb fl4.1 ((up.trans up3).trans up4) os ag
          obtain ⟨o4, vs4, e4, z4, d4⟩ := fl4.there
          have S4 := J4.suite e4 d4 na nL nF
          refine wpAny_mono ((hgo a o4 cls d (X.pn ++ pins) z4 ⟨_, d4⟩).run [] _ _ G _ S4 (hyes rfl a na)) (fun f s6 hsp => ?_) (fun _ _ z => False.elim z)
          cases f with
          | ret u =>
            obtain ⟨v6, τ6, G6, S6, r6, q6⟩ := hsp
            exact ⟨_, _, _, S6.unsuite k, r6, q6⟩
          | _ =>
            obtain ⟨τ6, G6, S6, q6⟩ := hsp
            exact ⟨_, _, S6.unsuite k, q6⟩
      | @named y z i c ts b1 bs p1 p2 hds2 l2 hi hz hc hgo r ih =>
        intro w
        obtain ⟨b, hb1, hyes, hno⟩ := w
        refine wpAny_handleBy_cons (codeAny_handlers_test ?_) (by intro q; cases q)
        have LM := PySem.W.exm_one (M := model X.prog X.w) (J3.kIn) LT hb1
        refine test hc (LM.here ?_)
        cases b with
        | false =>
          show wpAny _ X.A (handleBy (.ref a) X.env hds2) _ _ _
          exact ih (hno rfl)
        | true =>
          refine codeAny_handlers_suite_as ?_
          refine HandSPX.lands_againZ fl fun g4 fl4 up4 => ?_
          have J4 : Inv X pins τ G { s2 with heap := g4 } := J.landed nb fl4.1 ((up.trans up3).trans up4) os ag
          obtain ⟨o4, vs4, e4, z4, d4⟩ := fl4.there
          have S4 := J4.suite e4 d4 na nL nF
          refine store_ok (X := X.suite a ((a, o4) :: (X.pn ++ pins))) (v := .ref a) S4 hN hi (.inl hz) rfl (fun s5 S5 => ?_) (.inr hz)
          refine wpAny_mono ((hgo a o4 cls d (X.pn ++ pins) z4 ⟨_, d4⟩).run [] s5 _ G _ S5 (hyes rfl a na)) (fun f s6 hsp => ?_) (fun _ _ z => False.elim z)
          have off_ : ∀ {τ6 : L2.St} {G6 : Hp} {Q : Shared → Prop}, Inv (X.suite a ((a, o4) :: (X.pn ++ pins))) [] τ6 G6 s6 → (∀ s7, Inv X pins (τ6.set i none) G6 s7 → Q s7) → wpAny (model X.prog X.w) X.A (do bindName X.env z .none; unbindBehindTheSuite X.env z p2) (fun _ s7 => Q s7) X.xe s6 :=
            fun {τ6 G6 Q} S6 hq => gone_ok (S6.unsuite k) hN hi hz hq
          cases f with
          | ret u =>
            obtain ⟨v6, τ6, G6, S6, r6, q6⟩ := hsp
            exact off_ S6 fun s7 J7 => ⟨_, _, _, J7, r6, q6⟩
          | _ =>
            obtain ⟨τ6, G6, S6, q6⟩ := hsp
            exact off_ S6 fun s7 J7 => ⟨_, _, J7, q6⟩
    exact go hh w
  refine wpAny_Try_except (wpAny_mono body_ (fun f s1 hsp => ?_) fun e s1 he => he)
  cases f with
  | next =>
    obtain ⟨τ, G, J, q⟩ := hsp
    exact wpAny_execs_nil ⟨τ, G, J.ofTry k, q⟩
  | ret u =>
    obtain ⟨v, τ, G, J, r, q⟩ := hsp
    exact ⟨v, τ, G, J.ofTry k, r, q⟩
  | _ =>
    obtain ⟨τ, G, J, q⟩ := hsp
    exact ⟨τ, G, J.ofTry k, q⟩
end
end DI
namespace DI
open PySem PySem.Spec PyProof.Rows L2
/-- from within, after an entry at S, to without -/
theorem SI.outer {T : Tb} {n : Ent} {e e' : Env} {t' : D} {σ σ' : L2.St} {H0 H K0 K : Hp} {p p' : Addr} (S : SI T n e .non σ H0 H p) (B : SI T ⟨H, H0, none⟩ e' t' σ' K0 K p') : SI T n e' t' σ' K0 K p' := by
  have ntp : n.tp = none := by
    cases q : n.tp with
    | none => rfl
    | some a => exact absurd rfl (S.tpq a q).2
  have up : ∀ a, H a = none → n.He a = none := fun a h => by
    cases q : n.He a with
    | none => rfl
    | some o =>
      have := S.low a o q (by rw [ntp]; exact fun z => nomatch z)
      rw [h] at this; cases this
  refine ⟨⟨B.sub, fun a o h1 h2 => B.low a o (S.low a o h1 h2) (fun z => nomatch z), fun a h => ?_, fun a o h => B.ext0 a o (S.ext0 a o h)⟩, fun i s h => ?_, B.sep, fun h => ?_, fun q hq => ?_, B.len⟩
  · have hH : H a ≠ none := fun z => h (up a z)
    have := B.low0 a hH
    rw [this]
    exact S.low0 a h
  · have q := B.slot i s h
    cases s with
    | own d =>
      obtain ⟨a, h1, h2, h3, h4⟩ := q
      exact ⟨a, h1, h2, up a h3, h4⟩
    | _ => exact q
  · obtain ⟨h1, h2, h3⟩ := B.trk h
    refine ⟨h1, h2, .inr ?_⟩
    rcases h3 with h3 | h3
    · cases h3
    · exact up _ h3
  · rw [ntp] at hq; cases hq
/-- nothing is known of the names -/
theorem SI.bare {T : Tb} {n : Ent} {σ : L2.St} {H0 H : Hp} {p : Addr} (s : Since n H0 H) (ht : n.tp = none) : SI T n (List.replicate σ.length .none) .non σ H0 H p := by
  have none_ : ∀ {i : Nat} {s : Slot}, (List.replicate σ.length Slot.none)[i]? = some s → s = .none := fun h => List.eq_of_mem_replicate (List.mem_of_getElem? h)
  refine ⟨s, fun i s h => ?_, fun i j di dj a h1 _ _ _ => ?_, fun h => absurd rfl h, fun q hq => ?_, List.length_replicate⟩
  · obtain rfl := none_ h
    trivial
  · cases none_ h1
  · rw [ht] at hq; cases hq
theorem SI.unset {T : Tb} {n : Ent} {e : Env} {t : D} {σ : L2.St} {H0 H : Hp} {p : Addr} {i : Nat} (S : SI T n e t σ H0 H p) : SI T n (e.set i .none) t (σ.set i none) H0 H p := by
  have got : ∀ {j : Nat} {s : Slot}, (e.set i .none)[j]? = some s → s = .none ∨ (e[j]? = some s ∧ (σ.set i none)[j]? = σ[j]?) := fun {j s} h => by
    by_cases hj : i = j
    · subst hj
      by_cases hl : i < e.length
      · rw [getElem?_set_self' hl] at h; cases h; exact .inl rfl
      · rw [List.getElem?_eq_none (by simpa using hl)] at h; cases h
    · rw [List.getElem?_set_ne hj] at h
      exact .inr ⟨h, List.getElem?_set_ne hj⟩
  refine ⟨S.toSince, fun j s h => ?_, fun j m dj dm a h1 h2 h3 h4 => ?_, S.trk, S.tpq, by rw [List.length_set, List.length_set]; exact S.len⟩
  · rcases got h with rfl | ⟨z, q⟩
    · trivial
    · rw [q]; exact S.slot j s z
  · rcases got h1 with z | ⟨z1, q1⟩
    · cases z
    rcases got h2 with z | ⟨z2, q2⟩
    · cases z
    rw [q1] at h3
    rw [q2] at h4
    exact S.sep j m dj dm a z1 z2 h3 h4
/-- what a clause's suite is asked -/
def tH (T : Tb) (n : Ent) (h : Hd) (a : Addr) (cls : Value) (d : Option Addr) : TS := fun D σ H => ∃ fs H0, ExcAt T H0 H h.cid fs cls d ∧ H a = none ∧ Since n H0 H ∧ (∀ i, h.slot = some i → σ[i]? = some (some (.ref a))) ∧
  RS T n H0 0 .non D (fun _ _ _ => False) (h.run fs (List.replicate σ.length .none) .non)
inductive HdD (X : Cx) (c : CT) (excs : List Nat) : List ExceptHandler → List Hd → Prop
  | nil : HdD X c excs [] []
  | plain {y : Str} {h : Hd} {b1 : Stmt} {bs : List Stmt} {p1 p2 : Pos} {hs : List ExceptHandler} {l : List Hd} (h0 : h.slot = none) (hc : Names X y (.ref (c.ca h.cid))) (ex : ∀ q ∈ excs, PySem.W.exmOne X.K (.ref (c.ca q)) (.ref (c.ca h.cid)) = some (q == h.cid))
      (go : ∀ (n : Ent), n.tp = none → ∀ (a : Addr) (o : Obj) (cls : Value) (d : Option Addr) (pn : List (Addr × Obj)), Zc cls d o → (∃ vs, o.data = .fields vs) → PSs (X.suite a ((a, o) :: pn)) (b1 :: bs) (tH (tb X c) n h a cls d)) (r : HdD X c excs hs l) :
      HdD X c excs (.ExceptHandler (some (.Name y p1)) none (b1 :: bs) p2 :: hs) (h :: l)
  | named {y z : Str} {i : Nat} {h : Hd} {b1 : Stmt} {bs : List Stmt} {p1 p2 : Pos} {hs : List ExceptHandler} {l : List Hd} (h0 : h.slot = some i) (hi : X.N[i]? = some z) (hz : X.env.kindOf z = some .local) (hc : Names X y (.ref (c.ca h.cid)))
      (ex : ∀ q ∈ excs, PySem.W.exmOne X.K (.ref (c.ca q)) (.ref (c.ca h.cid)) = some (q == h.cid))
      (go : ∀ (n : Ent), n.tp = none → ∀ (a : Addr) (o : Obj) (cls : Value) (d : Option Addr) (pn : List (Addr × Obj)), Zc cls d o → (∃ vs, o.data = .fields vs) → PSs (X.suite a ((a, o) :: pn)) (b1 :: bs) (tH (tb X c) n h a cls d)) (r : HdD X c excs hs l) :
      HdD X c excs (.ExceptHandler (some (.Name y p1)) (some z) (b1 :: bs) p2 :: hs) (h :: l)
def hdW (T : Tb) (n : Ent) (h : Hd) : Value × Option Nat × TSx := (.ref (T.ca h.cid), h.slot, tH T n h)
theorem HdD.toN {X : Cx} {c : CT} {excs : List Nat} {n : Ent} (hn : n.tp = none) : ∀ {hs : List ExceptHandler} {l : List Hd}, HdD X c excs hs l → HdN X hs (l.map (hdW (tb X c) n))
  | _, _, .nil => .nil
  | _, _, .plain (h := h) h0 hc ex go r => by
    rw [List.map_cons]
    unfold hdW
    rw [h0]
    exact .plain hc (fun a o cls d pn => go n hn a o cls d pn) (r.toN hn)
  | _, _, .named (h := h) h0 hi hz hc ex go r => by
    rw [List.map_cons]
    unfold hdW
    rw [h0]
    exact .named hi hz hc (fun a o cls d pn => go n hn a o cls d pn) (r.toN hn)
theorem HdD.ex {X : Cx} {c : CT} {excs : List Nat} : ∀ {hs : List ExceptHandler} {l : List Hd}, HdD X c excs hs l → ∀ h ∈ l, ∀ q ∈ excs, PySem.W.exmOne X.K (.ref (c.ca q)) (.ref (c.ca h.cid)) = some (q == h.cid)
  | _, _, .nil, h, hh => by cases hh
  | _, _, .plain _ _ ex _ r, h, hh => by
    rcases List.mem_cons.mp hh with rfl | hh
    · exact ex
    · exact r.ex h hh
  | _, _, .named _ _ _ _ ex _ r, h, hh => by
    rcases List.mem_cons.mp hh with rfl | hh
    · exact ex
    · exact r.ex h hh
theorem HdD.lt {X : Cx} {c : CT} {excs : List Nat} : ∀ {hs : List ExceptHandler} {l : List Hd}, HdD X c excs hs l → ∀ h ∈ l, ∀ i, h.slot = some i → i < X.N.length
  | _, _, .nil, h, hh => by cases hh
  | _, _, .plain h0 _ _ _ r, h, hh => by
    rcases List.mem_cons.mp hh with rfl | hh
    · intro i hi
      rw [h0] at hi; cases hi
    · exact r.lt h hh
  | _, _, .named h0 hi _ _ _ _ r, h, hh => by
    rcases List.mem_cons.mp hh with rfl | hh
    · intro i hj
      rw [h0] at hj
      cases hj
      exact (List.getElem?_eq_some_iff.mp hi).1
    · exact r.lt h hh
/-- an error goes through the clauses -/
theorem hds_run {T : Tb} {n : Ent} {e : Env} {σ τ : L2.St} {H0 H G0 G : Hp} {p : Addr} {W : XW} {D' : Ends} {cid : Nat} {fs : List D} {cls : Value} {dx : Option Addr} {excs : List Nat} (S : SI T n e .non σ H0 H p) (sn : Since ⟨H, H0, none⟩ G0 G) (ea : ExcAt T G0 G cid fs cls dx)
    {Wx : Value → Option Addr → Hp → Prop} (hW : W cls dx G → Wx cls dx G) (hc : cid ∈ excs) (hτ : τ.length = e.length) : ∀ {l : List Hd}, (∀ h ∈ l, (∀ q ∈ excs, PySem.W.exmOne T.K (.ref (T.ca q)) (.ref (T.ca h.cid)) = some (q == h.cid)) ∧ ∀ i, h.slot = some i → i < τ.length) →
    RS T n H0 p .non D' W (match hdOf cid l with
      | some h => (match h.run fs (List.replicate e.length .none) .non with
        | .ok f e2 t2 => .ok f (offE h.slot e2) t2
        | .err _ _ => .stuck
        | .stuck => .stuck)
      | none => .err cid fs) → wN T.K (fun cls d _ H => Wx cls d H) D' (l.map (hdW T ⟨H, H0, none⟩)) cls dx τ G
  | [], _, q => by
    have q : ErrW T n W cid fs := q
    exact hW (q cls dx G0 G (S.outer (SI.bare (T := T) (p := p) (σ := τ) sn rfl)).toSince ea)
  | hd :: r, ex, q => by
    have q : RS T n H0 p .non D' W (match (if cid = hd.cid then some hd else hdOf cid r) with
      | some h => (match h.run fs (List.replicate e.length .none) .non with
        | .ok f e2 t2 => .ok f (offE h.slot e2) t2
        | .err _ _ => .stuck
        | .stuck => .stuck)
      | none => .err cid fs) := q
    refine ⟨cid == hd.cid, ?_, fun hy a ha => ?_, fun hn => ?_⟩
    · rw [ea.1]; exact (ex hd List.mem_cons_self).1 cid hc
    · have e1 : cid = hd.cid := eq_of_beq hy
      rw [if_pos e1] at q
      have y : RS T n H0 p .non D' W (match hd.run fs (List.replicate e.length .none) .non with
        | .ok f e2 t2 => .ok f (offE hd.slot e2) t2
        | .err _ _ => .stuck
        | .stuck => .stuck) := q
      clear q
      have hle : (atN a τ hd.slot).length = e.length := by
        have : (atN a τ hd.slot).length = τ.length := by
          cases hd.slot with
          | none => rfl
          | some i => exact List.length_set
        rw [this, hτ]
      subst e1
      show tH T ⟨H, H0, none⟩ hd a cls dx (endN D' hd.slot) (atN a τ hd.slot) G
      refine ⟨fs, G0, ea, ha, sn, fun i hi => ?_, ?_⟩
      · rw [hi]
        exact getElem?_set_self' ((ex hd List.mem_cons_self).2 i hi)
      · rw [hle]
        cases hr : hd.run fs (List.replicate e.length .none) .non with
        | stuck => rw [hr] at y; exact y.elim
        | err _ _ => rw [hr] at y; exact y.elim
        | ok f e2 t2 =>
          rw [hr] at y
          cases f with
          | next =>
            intro σ' K0 K p' B x0 _
            have B := S.outer B
            have q : RS T n H0 p .non D' W (.ok .next (offE hd.slot e2) t2) := y
            cases hs : hd.slot with
            | none =>
              rw [hs] at q
              exact q σ' K0 K p' B (sn.ext0.trans x0) (fun z => absurd rfl z)
            | some i =>
              rw [hs] at q
              exact q (σ'.set i none) K0 K p' B.unset (sn.ext0.trans x0) (fun z => absurd rfl z)
          | ret d =>
            intro v σ' K0 K p' B x0 _ R
            have B := S.outer B
            have q : RS T n H0 p .non D' W (.ok (.ret d) (offE hd.slot e2) t2) := y
            cases hs : hd.slot with
            | none =>
              rw [hs] at q
              exact q v σ' K0 K p' B (sn.ext0.trans x0) (fun z => absurd rfl z) R
            | some i =>
              rw [hs] at q
              exact q v (σ'.set i none) K0 K p' B.unset (sn.ext0.trans x0) (fun z => absurd rfl z) R
    · have e1 : ¬ cid = hd.cid := fun z => by rw [z, beq_self_eq_true] at hn; cases hn
      rw [if_neg e1] at q
      exact hds_run S sn ea hW hc hτ (fun h2 hh2 => ex h2 (List.mem_cons_of_mem _ hh2)) q
section
variable {X : Cx} {c : CT} {n : Ent} {W : XW} {k : Nat}
theorem s_try {body : List Stmt} {h1 : ExceptHandler} {hs : List ExceptHandler} {pos : Pos} {mb : MS} {excs : List Nat} {l : List Hd} (h : Ok X k W) (hst : X.stack = X.env :: X.outer) (hfm : X.env.frame = some X.env.locals)
    (hb : ∀ (n : Ent) (W1 : XW) (pn : List (Addr × Obj)) (xe : Value → Shared → Prop), PassesOwn (model X.prog X.w) X.A X.env xe → Ok (X.tr pn xe) k W1 → PSts (X.tr pn xe) c n W1 body mb) (hh : HdD X c excs (h1 :: hs) l) : PSt X c n W (.Try body (h1 :: hs) [] [] pos) (sTry mb excs l) := by
  refine ⟨fun pins s σ H D' I ⟨e, t, H0, p, S, q⟩ => ?_⟩
  have q : RS (tb X c) n H0 p t D' W (sTry mb excs l e t) := q
  cases t with
  | non =>
    have hsl : σ.length = X.N.length := I.len
    have q : RS (tb X c) n H0 p .non D' W (match mb (hideE e) .non with
      | .err c fs => if excs.contains c then (match hdOf c l with
        | some h => (match h.run fs (List.replicate e.length .none) .non with
          | .ok f e2 t2 => .ok f (offE h.slot e2) t2
          | .err _ _ => .stuck
          | .stuck => .stuck)
        | none => .err c fs) else .stuck
      | x => x) := q
    refine (ps_tryN (X := X) (W0 := fun cls d _ H => W cls d H) (tb := fun Wx => fun D σ H => ∃ W1 : XW, (∀ cls d G τ, τ.length = X.N.length → W1 cls d G → Wx cls d τ G) ∧ ∃ m : Ent, tS (tb X c) m W1 mb D σ H) hst hfm h.nd h.tk (fun Wx pn xe tk po => ⟨fun pins s σ H D I ⟨W1, hw, m, g⟩ => ?_⟩) (hh.toN (n := ⟨H, H0, none⟩) rfl)).run pins s σ H D' I ?_
    · refine (hb m W1 pn xe po ⟨h.calm, h.room, h.nd, fun u s' ⟨a, B, sI, pz, τ, G, cls, d, y1, J, y2, y3, y4, y5, y6, y7, y8⟩ => ?_⟩).run pins s σ H D I g
      exact tk u s' ⟨a, B, sI, pz, τ, G, cls, d, y1, J, y2, y3, y4, y5, y6, y7, hw _ _ _ _ J.len y8⟩
    · refine ⟨fun cls d G => ∀ τ : L2.St, τ.length = X.N.length → wN X.K (fun cls d _ H => W cls d H) D' (l.map (hdW (tb X c) ⟨H, H0, none⟩)) cls d τ G, fun cls d G τ hl g => g τ hl, ⟨H, H0, none⟩, hideE e, .non, H0, p, S.block (vs := []), ?_⟩
      cases hx : mb (hideE e) .non with
      | stuck => rw [hx] at q; exact q.elim
      | ok f e1 t1 =>
        rw [hx] at q
        cases f with
        | next => exact fun σ' G0 G p' B x0 _ => q σ' G0 G p' (S.outer B) x0 (fun z => absurd rfl z)
        | ret d => exact fun v σ' G0 G p' B x0 _ R => q v σ' G0 G p' (S.outer B) x0 (fun z => absurd rfl z) R
      | err cid fs =>
        rw [hx] at q
        intro cls dx G0 G sn ea τ hτ
        have q : RS (tb X c) n H0 p .non D' W (if excs.contains cid then (match hdOf cid l with
          | some h => (match h.run fs (List.replicate e.length .none) .non with
            | .ok f e2 t2 => .ok f (offE h.slot e2) t2
            | .err _ _ => .stuck
            | .stuck => .stuck)
          | none => .err cid fs) else .stuck) := q
        by_cases hc : excs.contains cid = true
        · rw [if_pos hc] at q
          rw [List.contains_iff_mem] at hc
          have ex := hh.ex
          have lt := hh.lt
          exact hds_run S sn ea (fun w => w) hc (by rw [hτ, ← hsl]; exact S.len.symm) (fun h hm => ⟨ex h hm, fun i hi => by rw [hτ]; exact lt h hm i hi⟩) q
        · rw [if_neg hc] at q; exact q.elim
  | _ => exact q.elim
end
end DI
set_option linter.all false
set_option Elab.async false
set_option maxRecDepth 100000
set_option maxHeartbeats 4000000
/-! DTry2: the suites of the clauses. -/
namespace DI
open PySem PySem.Spec PyProof.Rows L2
/-- like tH, the name kept -/
def tHk (T : Tb) (n : Ent) (cid : Nat) (run : List D → MS) (i : Nat) (a : Addr) (cls : Value) (d : Option Addr) : TS := fun D σ H => ∃ fs H0, ExcAt T H0 H cid fs cls d ∧ H a = none ∧ Since n H0 H ∧ σ[i]? = some (some (.ref a)) ∧
  RS T n H0 0 .non { D with nx := fun σ' H' => σ'[i]? = some (some (.ref a)) → D.nx σ' H' } (fun _ _ _ => False) (run fs (List.replicate σ.length .none) .non)
theorem RS.imp {T : Tb} {n : Ent} {H0 : Hp} {p : Addr} {t : D} {D1 D2 : Ends} {W : XW} {x : R Flow} (h : RS T n H0 p t D1 W x) (hn : ∀ σ H, D1.nx σ H → D2.nx σ H) (hr : ∀ v H, D1.rt v H → D2.rt v H) : RS T n H0 p t D2 W x := by
  cases x with
  | ok f e t =>
    cases f with
    | next => exact fun σ' G0 G p' S x0 hp => hn _ _ (h σ' G0 G p' S x0 hp)
    | ret d => exact fun v σ' G0 G p' S x0 hp R => hr _ _ (h v σ' G0 G p' S x0 hp R)
  | err _ _ => exact h
  | stuck => exact h
section
variable {X : Cx} {c : CT} {n : Ent} {cid i j : Nat} {a : Addr} {o : Obj} {cls : Value} {d : Option Addr} {pn : List (Addr × Obj)}
/-- a suite that does not ask the error -/
theorem h_plain {h : Hd} {m : MS} {ss : List Stmt} (hn : n.tp = none) (hr : ∀ fs, h.run fs = m) (g : PSts (X.suite a ((a, o) :: pn)) c n (fun _ _ _ => False) ss m) : PSs (X.suite a ((a, o) :: pn)) ss (tH (tb X c) n h a cls d) :=
  ⟨fun pins s σ H D I ⟨fs, H0, ea, ha, sn, hs, q⟩ => g.run pins s σ H D I ⟨_, .non, H0, 0, SI.bare sn hn, by rw [hr] at q; exact q⟩⟩
theorem h_one {h : Hd} {st : Stmt} (hs : h.slot = some i) (g : PS (X.suite a ((a, o) :: pn)) st (tHk (tb X c) n h.cid h.run i a cls d)) : PSs (X.suite a ((a, o) :: pn)) [st] (tH (tb X c) n h a cls d) :=
  ⟨fun pins s σ H D I ⟨fs, H0, ea, ha, sn, hh, q⟩ => (pss_one g).run pins s σ H D I ⟨fs, H0, ea, ha, sn, hh i hs, q.imp (fun _ _ z _ => z) fun _ _ z => z⟩⟩
/-- x = e.f -/
theorem k_fld {x e f : Str} {pe pa px pos : Pos} (T : XfC X.K (c.ca cid)) (hno : PySem.W.findIn X.K (.ref (c.ca cid)) f = some none) (hcf : c.cf cid = [f]) (hn : n.tp = none) (hz : Zc cls d o) (hf : ∃ vs, o.data = .fields vs) (hN : X.N.Nodup) (hij : j ≠ i)
    (hi : X.N[i]? = some e := by rfl) (hj : X.N[j]? = some x := by rfl) (hve : Vis X.env.scope e := by first | exact Or.inl rfl | exact Or.inr (Or.inl rfl) | exact Or.inr (Or.inr rfl)) (hlx : Loc X.env.scope x := by first | exact Or.inl rfl | exact Or.inr rfl) (hfx : X.fn x = true ∨ X.env.scope.names.lookup x = some .local := by first | exact Or.inr rfl | exact Or.inl rfl)
    (hd : (e == ("__debug__" : Str)) = false := by decide) (hcd : (e == ("__classdict__" : Str)) = false := by decide) (hb : attributeBase (.Name e pe) f X.env (eval (.Name e pe) X.env) = eval (.Name e pe) X.env := by rfl)
    (hs : swapsWith (.Attribute (.Name e pe) f pa) (some (.Name x px)) pos.line X.env = pure false := by rfl) :
    PS (X.suite a ((a, o) :: pn)) (.Assign [.Name x px] (.Attribute (.Name e pe) f pa) pos) (tHk (tb X c) n cid (one1 fun v => sSet j (mConst v)) i a cls d) := by
  refine ⟨fun pins s σ H D I ⟨fs, H0, ea, ha, sn, hh, q⟩ => ?_⟩
  refine (ps_set (X := X.suite a ((a, o) :: pn)) hN hj hlx (pe_xf T hno hz hf (pe_var hi hve hd hcd) hb) hs hfx).run pins s σ H D I ?_
  obtain ⟨e1, e2⟩ := ea
  rcases e2 with ⟨rfl, _⟩ | ⟨dd, vs, rfl, h1, h2, h3⟩
  · exact q.elim
  · have h1 : H dd = some (.xd ((c.cf cid).zip vs)) := h1
    have h3 : fs.length = (c.cf cid).length := h3
    rw [hcf] at h1 h3
    match fs, vs, h2, h3 with
    | [d0], vs, h2, _ =>
      obtain ⟨v, r, rfl, R, rfl⟩ := h2
      refine ⟨.ref a, hh, rfl, e1, dd, _, v, rfl, h1, ?_, ?_⟩
      · show ([(f, v)] : List (Str × V)).lookup f = some v
        rw [List.lookup_cons, beq_self_eq_true]
      · refine q _ H0 H 0 ((SI.bare sn hn).put R) Ext.rfl' (fun _ => rfl) ?_
        rw [List.getElem?_set_ne hij]
        exact hh
/-- x = [text, e.f] -/
theorem k_lst {x e f z : Str} {kk : Nat} {pe pa pc pl px pos : Pos} (T : XfC X.K (c.ca cid)) (hno : PySem.W.findIn X.K (.ref (c.ca cid)) f = some none) (hcf : c.cf cid = [f]) (hn : n.tp = none) (hz : Zc cls d o) (hf : ∃ vs, o.data = .fields vs) (hN : X.N.Nodup) (hij : j ≠ i)
    (hi : X.N[i]? = some e := by rfl) (hj : X.N[j]? = some x := by rfl) (hve : Vis X.env.scope e := by first | exact Or.inl rfl | exact Or.inr (Or.inl rfl) | exact Or.inr (Or.inr rfl)) (hlx : Loc X.env.scope x := by first | exact Or.inl rfl | exact Or.inr rfl) (hfx : X.fn x = true ∨ X.env.scope.names.lookup x = some .local := by first | exact Or.inr rfl | exact Or.inl rfl)
    (hd : (e == ("__debug__" : Str)) = false := by decide) (hcd : (e == ("__classdict__" : Str)) = false := by decide) (hb : attributeBase (.Name e pe) f X.env (eval (.Name e pe) X.env) = eval (.Name e pe) X.env := by rfl)
    (s1 : starEach [.Constant (.str z) kk pc, .Attribute (.Name e pe) f pa] X.env = (false, eval (.Constant (.str z) kk pc) X.env) :: starEach [.Attribute (.Name e pe) f pa] X.env := by rfl) (s2 : starEach [.Attribute (.Name e pe) f pa] X.env = (false, eval (.Attribute (.Name e pe) f pa) X.env) :: starEach [] X.env := by rfl)
    (hs : swapsWith (.List [.Constant (.str z) kk pc, .Attribute (.Name e pe) f pa] pl) (some (.Name x px)) pos.line X.env = pure false := by rfl) :
    PS (X.suite a ((a, o) :: pn)) (.Assign [.Name x px] (.List [.Constant (.str z) kk pc, .Attribute (.Name e pe) f pa] pl) pos) (tHk (tb X c) n cid (one1 fun v => sOwn j (mLst [mConst (.str z), mConst v])) i a cls d) := by
  refine ⟨fun pins s σ H D I ⟨fs, H0, ea, ha, sn, hh, q⟩ => ?_⟩
  refine (ps_set (X := X.suite a ((a, o) :: pn)) hN hj hlx (pe_lst (pa_cons pe_str (pa_cons (pe_xf T hno hz hf (pe_var hi hve hd hcd) hb) pa_nil s2) s1)) hs hfx).run pins s σ H D I ?_
  obtain ⟨e1, e2⟩ := ea
  rcases e2 with ⟨rfl, _⟩ | ⟨dd, vs, rfl, h1, h2, h3⟩
  · exact q.elim
  · have h1 : H dd = some (.xd ((c.cf cid).zip vs)) := h1
    have h3 : fs.length = (c.cf cid).length := h3
    rw [hcf] at h1 h3
    match fs, vs, h2, h3 with
    | [d0], vs, h2, _ =>
      obtain ⟨v, r, rfl, R, rfl⟩ := h2
      refine ⟨.ref a, hh, rfl, e1, dd, _, v, rfl, h1, ?_, ?_, fun b hb => ?_⟩
      · show ([(f, v)] : List (Str × V)).lookup f = some v
        rw [List.lookup_cons, beq_self_eq_true]
      · show 2 ≤ sizeLine
        decide
      · obtain ⟨S2, F2⟩ := (SI.bare (T := tb X c) (p := 0) (σ := σ) sn hn).lay (o := .lst [.str z, v]) hb
        refine q _ H0 _ 0 (S2.putOwn (d := .lst [.str z, d0]) ⟨_, upd_same, ⟨_, _, rfl, rfl, _, _, rfl, R, rfl⟩⟩ F2) Ext.rfl' (fun _ => rfl) ?_
        rw [List.getElem?_set_ne hij]
        exact hh
end
end DI
set_option linter.all false
set_option Elab.async false
set_option maxRecDepth 100000
set_option maxHeartbeats 4000000
/-! DTry3: isinstance, answered yes by the class alone. -/
namespace PySem.W
open PySem PySem.Spec PySem.Calls PyProof.Rows
section
variable {K : Frag} {x t c : Value} {G : Heap → Prop}
theorem yes_ans (ty : ∀ (M : Model) (h : Heap), K.In h → G h → Looks M h (typeOf x) t) (e : kitOne K t c = some true) : Answers (fun s => K.In s.heap ∧ G s.heap) x c true := by
  intro dep tk prog w A R s hs
  obtain ⟨g0, g, d, tt, os⟩ := s
  obtain ⟨⟨X, p⟩, hq⟩ := hs
  have LT := ty (model prog w) g0 X p
  unfold kitOne at e
  unfold Builtin.«isinstance.nested»
  refine wpAny_bind (LT.at ?_)
  by_cases q : (t == c) = true
  · rw [if_pos q]
    first
      | exact wpAny_bind (wpAny_rule (hq tt))
      | exact wpAny_bind (wpAny_rule (wpAny_pure (hq tt)))
      | ((repeat lk); exact hq tt)
  · rw [if_neg q] at e
    rw [if_neg q]
    obtain ⟨k1, k2, k3⟩ := kit_cls (M := model prog w) X e
    have LI : Looks (model prog w) g0 (isInstance x c) true := LT.andThen k3
    refine wpAny_bind (k1.at ?_)
    rw [if_pos (by decide)]
    k_delta "plainIsInstance"
    refine wpAny_bind (wpAny_bind (k2.at ?_))
    simp only [Bool.not_true, Bool.false_eq_true, if_false]
    refine wpAny_bind (LI.at ?_)
    first
      | exact wpAny_pure (wpAny_pure (hq tt))
      | (simp only [if_true]; first | exact wpAny_pure (wpAny_pure (hq tt)) | exact wpAny_pure (hq tt) | exact wpAny_bind (wpAny_pure (wpAny_pure (hq tt))))
theorem yes_call {prog : Program} {w : World} {A : Around} {E : Value → Shared → Prop} {s : Shared} {Q : Value → Shared → Prop} (ty : ∀ (M : Model) (h : Heap), K.In h → G h → Looks M h (typeOf x) t) (X : K.In s.heap) (p : G s.heap) (e : kitOne K t c = some true) (hx : x ≠ .builtin "__main__.__loader__#opaque")
    (h : ∀ tk, Q (.bool true) { s with toks := tk }) : wpAny (model prog w) A (call (.builtin "isinstance") [x, c]) Q E s :=
  call_isinstance (S := fun _ R s => (K.In s.heap ∧ G s.heap) ∧ ∀ tk, R (.ok (.ret (.bool true))) { s with toks := tk }) (fun prog w A R s hs => isinstance_outer (yes_ans ty e 0 _ prog w A R s hs) hx) ⟨⟨X, p⟩, h⟩
end
end PySem.W
namespace DI
open PySem PySem.Spec PyProof.Rows L2
def rYes (K : PySem.W.Frag) (cls : Value) (a : Addr) : List V → Hp → VK → Prop := fun xs H Q => ∃ (v : V) (cv : Value), xs = [.ref a, v] ∧ (∀ u, RelV v u → u = cv) ∧ PySem.W.kitOne K cls cv = some true ∧ Q (.bl true) H
section
variable {X : Cx} {c : CT} {n : Ent} {cid i : Nat} {a : Addr} {o : Obj} {cls : Value} {d : Option Addr} {pn : List (Addr × Obj)}
theorem call_yes (hz : Zc cls d o) : CallR (X.suite a ((a, o) :: pn)) (.builtin "isinstance") (rYes X.K cls a) := by
  intro pins s σ H xs us Q I r h
  obtain ⟨v, cv, rfl, hcv, e, q⟩ := h
  cases r with
  | cons rx rr =>
    cases rr with
    | cons rt rr =>
      cases rr
      cases rx
      have ec := hcv _ rt
      subst ec
      obtain ⟨hget, _⟩ := I.pin (a, o) (List.mem_append.mpr (.inl List.mem_cons_self))
      exact PySem.W.yes_call (G := fun h => h.get? a = some o) (t := cls) (fun M h _ hg => fun A Q E s kk z => wpAny_typeOf_ref (kk _ _ hg) (by rw [hz.1]; exact z)) I.kIn hget e (fun z => nomatch z) fun tk => ⟨.bl true, H, I.kept (t' := tk) fun _ _ z => z, rfl, q⟩
/-- st, and if not isinstance(e, y): .. that never comes -/
theorem h_two {h : Hd} {st : Stmt} {y e : Str} {bd : List Stmt} {D0 : Addr} {p1 p2 pe p3 p4 p5 : Pos} {m0 : MS} (hsl : h.slot = some i) (g : PS (X.suite a ((a, o) :: pn)) st (tHk (tb X c) n h.cid h.run i a cls d))
    (hz : Zc cls d o) (hk : PySem.W.kitOne X.K (.ref (c.ca h.cid)) (.ref D0) = some true) (hm : X.mg "isinstance" = none) (hy : X.mg y = some (.ref D0)) (gb : PSts (X.suite a ((a, o) :: pn)) c n (fun _ _ _ => False) bd m0)
    (hi : X.N[i]? = some e := by rfl) (hve : Vis X.env.scope e := by first | exact Or.inl rfl | exact Or.inr (Or.inl rfl) | exact Or.inr (Or.inr rfl)) (hd : (e == ("__debug__" : Str)) = false := by decide) (hcd : (e == ("__classdict__" : Str)) = false := by decide)
    (hgi : Gl X "isinstance" := by rfl) (hgy : Gl X y := by rfl) (hdy : (y == ("__debug__" : Str)) = false := by decide)
    (s1 : starEach [.Name e pe, .Name y p3] X.env = (false, eval (.Name e pe) X.env) :: starEach [.Name y p3] X.env := by rfl) (s2 : starEach [.Name y p3] X.env = (false, eval (.Name y p3) X.env) :: starEach [] X.env := by rfl) (s3 : (backTo p2 (starEach [.Name y p3] X.env)).any (·.1) = false := by rfl) :
    PSs (X.suite a ((a, o) :: pn)) [st, .If (.UnaryOp .Not (.Call (.Name "isinstance" p1) [.Name e pe, .Name y p3] [] p2) p4) bd [] p5] (tH (tb X c) n h a cls d) := by
  have cl := pe_callB (X := X.suite a ((a, o) :: pn)) (x := "isinstance") (p := p1) (pos := p2) (call_yes hz) hgi hm boot_isinstance (pa_cons (pe_var hi hve hd hcd) (pa_cons (pe_glob (v := .ref D0) hgy hy rfl hdy) pa_nil s2) s1) (by decide) rfl s1 s3
  have ps2 := ps_if (pos := p5) (pt_not (pos := p4) (pt_val cl (by intro _; rfl))) gb (pss_nil (X := X.suite a ((a, o) :: pn)))
  refine ⟨fun pins s σ H D I ⟨fs, H0, ea, ha, sn, hh, q⟩ => ?_⟩
  refine (pss_cons g (pss_one ps2)).run pins s σ H D I ⟨fs, H0, ea, ha, sn, hh i hsl, q.imp (fun τ G z hτ => ?_) fun _ _ z => z⟩
  refine ⟨.ref a, hτ, .ref D0, _, rfl, (fun u hu => hu), ?_, true, rfl, z⟩
  rw [ea.1]
  exact hk
end
end DI
set_option linter.all false
set_option Elab.async false
set_option maxRecDepth 100000
set_option maxHeartbeats 4000000
/-! DTry4: try in short. -/
namespace DI
open PySem PySem.Spec PyProof.Rows L2
theorem okt_non (x : R Flow) : OKt .non x := by
  cases x with
  | ok f e t => exact fun z => absurd rfl z
  | err _ _ => trivial
  | stuck => trivial
instance {mb : MS} {excs : List Nat} {hs : List Hd} : StM (sTry mb excs hs) := ⟨fun e t => by
  unfold sTry
  cases t with
  | non => exact okt_non _
  | _ => trivial⟩
def exmB (excs : List (Nat × Str)) (C : Str) (cid : Nat) (K : PySem.W.Frag) : Bool := excs.all fun o => decide (PySem.W.exmOne K (.ref (He.ga K o.2)) (.ref (He.ga K C)) = some (o.1 == cid))
theorem exmB_ok {K : PySem.W.Frag} {c : CT} {excs : List (Nat × Str)} {C : Str} {cid : Nat} (e : exmB excs C cid K = true) (hc : ∀ o ∈ excs, c.ca o.1 = He.ga K o.2) (hC : c.ca cid = He.ga K C) : ∀ q ∈ excs.map (·.1), PySem.W.exmOne K (.ref (c.ca q)) (.ref (c.ca cid)) = some (q == cid) := fun q hq => by
  obtain ⟨o, ho, rfl⟩ := List.mem_map.mp hq
  rw [hc o ho, hC]
  exact of_decide_eq_true (List.all_eq_true.mp e o ho)
def kitYB (x y : Str) (K : PySem.W.Frag) : Bool := decide (PySem.W.kitOne K (.ref (He.ga K x)) (.ref (He.ga K y)) = some true)
def xffB (C f : Str) (K : PySem.W.Frag) : Bool := xfB K (He.ga K C) && He.eqO (PySem.W.findIn K (.ref (He.ga K C)) f) (some none)
structure XfH (K : PySem.W.Frag) (c : CT) (cid : Nat) (f : Str) : Prop where
  x : XfC K (c.ca cid)
  no : PySem.W.findIn K (.ref (c.ca cid)) f = some none
  cf : c.cf cid = [f]
theorem XfH.of {K : PySem.W.Frag} {c : CT} {cid : Nat} {C f : Str} (e : xffB C f K = true) (hC : c.ca cid = He.ga K C) (hf : c.cf cid = [f]) : XfH K c cid f := by
  obtain ⟨e1, e2⟩ := Bool.and_eq_true_iff.mp e
  exact ⟨by rw [hC]; exact xfB_ok e1, by rw [hC]; exact He.eqO_ok e2, hf⟩
section
variable {X : Cx} {c : CT} {n : Ent} {W : XW} {k : Nat}
theorem r_try {body : List Stmt} {h1 : ExceptHandler} {hs : List ExceptHandler} {pos : Pos} {mb : MS} {excs : List Nat} {l : List Hd} (h : Ok X k W)
    (hb : ∀ (n : Ent) (W1 : XW) (pn : List (Addr × Obj)) (xe : Value → Shared → Prop), PassesOwn (model X.prog X.w) X.A X.env xe → Ok (X.tr pn xe) k W1 → PSts (X.tr pn xe) c n W1 body mb) (hh : HdD X c excs (h1 :: hs) l)
    (hst : X.stack = X.env :: X.outer := by rfl) (hfm : X.env.frame = some X.env.locals := by rfl) : PSt X c n W (.Try body (h1 :: hs) [] [] pos) (sTry mb excs l) := s_try h hst hfm hb hh
theorem u_set (i : Nat) {a : Expr} {ma : ME} {x : Str} {pos' pos : Pos} (nd : X.N.Nodup) (h : PM X c n W a ma) (hi : X.N[i]? = some x := by rfl) (hx : Loc X.env.scope x := by first | exact Or.inl rfl | exact Or.inr rfl) (hf : X.fn x = true ∨ X.env.scope.names.lookup x = some .local := by first | exact Or.inr rfl | exact Or.inl rfl)
    (hs : swapsWith a (some (.Name x pos')) pos.line X.env = pure false := by rfl) : PSt X c n W (.Assign [.Name x pos'] a pos) (sSet i ma) := s_set nd hi hx hf h hs
theorem u_own (i : Nat) {a : Expr} {ma : ME} {x : Str} {pos' pos : Pos} (nd : X.N.Nodup) (h : PNw X c n W a ma) (hi : X.N[i]? = some x := by rfl) (hx : Loc X.env.scope x := by first | exact Or.inl rfl | exact Or.inr rfl) (hf : X.fn x = true ∨ X.env.scope.names.lookup x = some .local := by first | exact Or.inr rfl | exact Or.inl rfl)
    (hs : swapsWith a (some (.Name x pos')) pos.line X.env = pure false := by rfl) : PSt X c n W (.Assign [.Name x pos'] a pos) (sOwn i ma) := s_own nd hi hx hf h hs
variable {excs : List Nat} {hs : List ExceptHandler} {l : List Hd}
/-- except y: ss -/
theorem d_plain {y : Str} {cid : Nat} {m : MS} {b1 : Stmt} {bs : List Stmt} {p1 p2 : Pos} (hm : X.mg y = some (.ref (c.ca cid))) (ex : ∀ q ∈ excs, PySem.W.exmOne X.K (.ref (c.ca q)) (.ref (c.ca cid)) = some (q == cid))
    (go : ∀ (n : Ent) (a : Addr) (o : Obj) (pn : List (Addr × Obj)), PSts (X.suite a ((a, o) :: pn)) c n (fun _ _ _ => False) (b1 :: bs) m) (r : HdD X c excs hs l) (hg : Gl X y := by rfl) (hd : (y == ("__debug__" : Str)) = false := by decide) :
    HdD X c excs (.ExceptHandler (some (.Name y p1)) none (b1 :: bs) p2 :: hs) (⟨cid, none, fun _ => m⟩ :: l) :=
  .plain rfl ⟨hg, hd, .inl hm⟩ ex (fun n hn a o cls d pn _ _ => h_plain hn (fun _ => rfl) (go n a o pn)) r
/-- except y as z: ss -/
theorem d_named {y z : Str} (i : Nat) {cid : Nat} {run : List D → MS} {b1 : Stmt} {bs : List Stmt} {p1 p2 : Pos} (hm : X.mg y = some (.ref (c.ca cid))) (ex : ∀ q ∈ excs, PySem.W.exmOne X.K (.ref (c.ca q)) (.ref (c.ca cid)) = some (q == cid))
    (go : ∀ (n : Ent), n.tp = none → ∀ (a : Addr) (o : Obj) (cls : Value) (d : Option Addr) (pn : List (Addr × Obj)), Zc cls d o → (∃ vs, o.data = .fields vs) → PSs (X.suite a ((a, o) :: pn)) (b1 :: bs) (tH (tb X c) n ⟨cid, some i, run⟩ a cls d)) (r : HdD X c excs hs l)
    (hi : X.N[i]? = some z := by rfl) (hz : X.env.kindOf z = some .local := by rfl) (hg : Gl X y := by rfl) (hd : (y == ("__debug__" : Str)) = false := by decide) :
    HdD X c excs (.ExceptHandler (some (.Name y p1)) (some z) (b1 :: bs) p2 :: hs) (⟨cid, some i, run⟩ :: l) := .named rfl hi hz ⟨hg, hd, .inl hm⟩ ex go r
end
end DI
set_option linter.all false
set_option Elab.async false
set_option maxRecDepth 100000
set_option maxHeartbeats 4000000
/-! DRand: the laws' first call: the script's numbers make the list that is followed. -/
namespace DI
open PySem PySem.Spec PyProof.Rows L2
theorem stepM_eq (s c : Int) (a b : Slot) : stepM [a, b, .val (.int s), .val (.int c)] .non = .ok (.int (stepI s c)) [a, b, .val (.int s), .val (.int c)] .non := by
  simp [stepM, m2, mN, mArgs, mVar, mConst, R.bind, R.of, g1, pMul, pAbs, pAdd, pInt, pMod, stepI]
theorem testM_eq (c : Int) (a b d : Slot) : testM [a, b, d, .val (.int c)] .non = .ok (.bl (bigI c)) [a, b, d, .val (.int c)] .non := by
  simp [testM, m2, mVar, mConst, R.bind, R.of, pGe, pPow, bigI]
def exEW (T : Tb) (W : XW) (m : ME) : TE := fun σ H Q => ∃ n, tE T n W m σ H Q
theorem pe_exW {X : Cx} {c : CT} {W : XW} {ex : Expr} {m : ME} (h : ∀ n, PM X c n W ex m) : PE X ex (exEW (tb X c) W m) := ⟨fun pins s σ H Q I ⟨n, q⟩ => (h n).run pins s σ H Q I q⟩
def tRand (T : Tb) (W : XW) : TS := tSeq (tAsg (tVar 1) (gName 2)) (tSeq (tFor (iList T.K (tVar 0)) (gName 3) (tAsg (exEW T W stepM) (gName 2)))
  (tRet (tOp rCat (tLst (tCons (tVar 2) (tCons (tC (.int 0)) tNil))) (tLc (iList T.K (tVar 0)) (gName 3) (exT T (some testM)) (exE T (mVar 3)) [3]))))
theorem since_now {H : Hp} : Since ⟨H, H, none⟩ H H := ⟨Ext.rfl', fun _ _ h _ => h, fun _ _ => rfl, Ext.rfl'⟩
theorem si4 {T : Tb} {H : Hp} (x0 x1 : Option V) (s c : Int) : SI T ⟨H, H, none⟩ [.none, .none, .val (.int s), .val (.int c)] .non [x0, x1, some (.int s), some (.int c)] H H 0 :=
  ((SI.bare (T := T) (σ := [x0, x1, some (.int s), some (.int c)]) since_now rfl).put (i := 2) (d := .int s) (v := .int s) rfl).put (i := 3) (d := .int c) (v := .int c) rfl
theorem take_get {ns : List Int} {i : Nat} {c : Int} (h : ns[i]? = some c) : ns.take (i + 1) = ns.take i ++ [c] := by
  rw [List.take_add_one, h]; rfl
theorem rand_pure {T : Tb} {W : XW} {D : Ends} {H : Hp} {a : Addr} {ns : List Int} {salt : Int} (hs : SqL T.K H a (ns.map V.int)) (hl : ns.length ≤ 900)
    (q : ∀ d H', H d = none → Ext H H' → H' d = some (.lst ((randI ns salt).map V.int)) → D.rt (.ref d) H') : tRand T W D [some (.ref a), some (.int salt), none, none] H := by
  refine ⟨.int salt, rfl, ?_⟩
  refine ⟨.ref a, rfl, a, rfl, ⟨_, hs⟩, fun i m σ G => m + i = ns.length ∧ Ext H G ∧ ∃ x3, σ = [some (.ref a), some (.int salt), some (.int (seedI salt (ns.take i))), x3], ⟨ns.length, rfl, Ext.rfl', none, rfl⟩, ?_⟩
  rintro i m σ G ⟨hm, x0, x3, rfl⟩
  have hsG := hs.ext x0
  by_cases hi : i < ns.length
  · have hg : ns[i]? = some ns[i] := List.getElem?_eq_getElem hi
    have hg2 : (ns.map V.int)[i]? = some (.int ns[i]) := by rw [List.getElem?_map, hg]; rfl
    refine .inr ⟨⟨_, _, hsG, hg2⟩, fun σ' G' => ∃ m', m' < m ∧ m' + (i + 1) = ns.length ∧ Ext H G' ∧ ∃ x3, σ' = [some (.ref a), some (.int salt), some (.int (seedI salt (ns.take (i + 1)))), x3], fun σ' G' z => z, ?_⟩
    rintro x G' ⟨rfl, hx⟩
    have ex : x = .int ns[i] := Option.some.inj ((hx _ hsG).symm.trans hg2)
    subst ex
    refine ⟨⟨G', G', none⟩, _, .non, G', 0, si4 (T := T) (some (.ref a)) (some (.int salt)) (seedI salt (ns.take i)) ns[i], ?_⟩
    rw [stepM_eq]
    intro v K0 K S1 _ R1
    have R1 : v = .int _ := R1
    subst R1
    refine ⟨m - 1, by omega, by omega, x0.trans fun b o hb => S1.low b o hb (fun z => nomatch z), some (.int ns[i]), ?_⟩
    rw [take_get hg]
    unfold seedI
    rw [List.foldl_append]
    rfl
  · have hi' : i = ns.length := by omega
    subst hi'
    refine .inl ⟨⟨_, hsG, by rw [List.length_map]; omega⟩, ?_⟩
    rw [List.take_length]
    refine ⟨.int (seedI salt ns), rfl, (by show 2 ≤ sizeLine; decide), fun p hp => ?_⟩
    have x1 : Ext G (upd G p (.lst [.int (seedI salt ns), .int 0])) := Ext.upd hp
    refine ⟨.ref a, rfl, a, rfl, ⟨_, hsG.ext x1⟩, fun b hb => ⟨fun i m G2 => m + i = ns.length ∧ G2 b = some (.lst (((ns.take i).filter bigI).map V.int)) ∧ Ext (upd G p (.lst [.int (seedI salt ns), .int 0])) G2, ⟨ns.length, rfl, upd_same, Ext.upd hb⟩, ?_⟩⟩
    rintro i m G2 ⟨hm, h2, x2⟩
    have hs2 := (hsG.ext x1).ext x2
    by_cases hi : i < ns.length
    · have hg : ns[i]? = some ns[i] := List.getElem?_eq_getElem hi
      have hg2 : (ns.map V.int)[i]? = some (.int ns[i]) := by rw [List.getElem?_map, hg]; rfl
      refine .inr ⟨⟨_, _, hs2, hg2⟩, fun G' => ∃ m', m' < m ∧ m' + (i + 1) = ns.length ∧ G' b = some (.lst (((ns.take (i + 1)).filter bigI).map V.int)) ∧ Ext (upd G p (.lst [.int (seedI salt ns), .int 0])) G', fun G' z => z, ?_⟩
      rintro x G3 ⟨rfl, hx⟩
      have ex : x = .int ns[i] := Option.some.inj ((hx _ hs2).symm.trans hg2)
      subst ex
      refine ⟨rfl, ⟨G3, G3, none⟩, _, .non, G3, 0, si4 (T := T) (some (.ref a)) (some (.int salt)) (seedI salt ns) ns[i], ?_⟩
      show RT T _ _ _ _ _ _ (asB (testM _ _))
      rw [testM_eq]
      intro K0 K S1 _
      have k1 : Ext G3 K := fun b o hb => S1.low b o hb (fun z => nomatch z)
      have last : (((ns.take (i + 1)).filter bigI).map V.int) = if bigI ns[i] then ((ns.take i).filter bigI).map V.int ++ [.int ns[i]] else ((ns.take i).filter bigI).map V.int := by
        rw [take_get hg, List.filter_append, List.map_append]
        by_cases hb : bigI ns[i] = true
        · rw [if_pos hb, List.filter_cons_of_pos hb]; rfl
        · rw [if_neg hb, List.filter_cons_of_neg hb]; simp
      by_cases hb : bigI ns[i] = true
      · rw [if_pos hb]
        refine ⟨⟨K, K, none⟩, _, .non, K, 0, si4 (T := T) (some (.ref a)) (some (.int salt)) (seedI salt ns) ns[i], ?_⟩
        intro v L0 L S3 _ R3
        have R3 : v = .int ns[i] := R3
        subst R3
        have k2 : Ext K L := fun b o hb => S3.low b o hb (fun z => nomatch z)
        refine ⟨_, k2 _ _ (k1 _ _ h2), ?_, m - 1, by omega, by omega, ?_, ?_⟩
        · rw [List.length_map]
          have h4 : ((ns.take i).filter bigI).length ≤ ns.length := Nat.le_trans (List.length_filter_le _ _) (by rw [List.length_take]; omega)
          have : 900 < sizeLine := by rw [← lim_eq]; decide
          omega
        · rw [upd_same, last, if_pos hb]
        · intro b' o hb'
          have : b' ≠ b := by rintro rfl; rw [hb] at hb'; cases hb'
          rw [upd_ne this]
          exact k2 _ _ (k1 _ _ (x2 _ _ hb'))
      · rw [if_neg hb]
        exact ⟨m - 1, by omega, by omega, by rw [last, if_neg hb]; exact k1 _ _ h2, x2.trans k1⟩
    · have hi' : i = ns.length := by omega
      subst hi'
      refine .inl ⟨⟨_, hs2, by rw [List.length_map]; omega⟩, ?_⟩
      rw [List.take_length] at h2
      refine ⟨p, b, _, _, rfl, rfl, x2 _ _ upd_same, h2, ?_, fun d hd => q d _ ?_ ?_ ?_⟩
      · have h4 : (ns.filter bigI).length ≤ ns.length := List.length_filter_le _ _
        rw [List.length_map]
        have : 1000 < sizeLine := by rw [← lim_eq]; decide
        show 2 + _ ≤ _
        omega
      · cases z : H d with
        | none => rfl
        | some o => rw [x2 _ _ (x1 _ _ (x0 _ _ z))] at hd; cases hd
      · exact ((x0.trans x1).trans x2).trans (Ext.upd hd)
      · rw [upd_same]
        unfold randI
        rw [List.map_append]
        rfl
end DI
set_option linter.all false
set_option Elab.async false
set_option maxRecDepth 100000
set_option maxHeartbeats 4000000
/-! DLaw: a law's def. -/
namespace DI
open PySem PySem.Spec PyProof.Rows L2
/-- the promise of _law_random -/
def spRand (K : PySem.W.Frag) : Sp := fun vs H Q _ => ∃ (a : Addr) (ns : List Int) (salt : Int), vs = [.ref a, .int salt] ∧ SqL K H a (ns.map V.int) ∧ ns.length ≤ 900 ∧ ∀ d H', H d = none → Ext H H' → H' d = some (.lst ((randI ns salt).map V.int)) → Q (.ref d) H'
/-- a law's promise -/
def spLaw (K : PySem.W.Frag) : Sp := fun vs H Q _ => ∃ (a : Addr) (ns : List Int), vs = [.ref a] ∧ SqL K H a (ns.map V.int) ∧ ns.length ≤ 900 ∧ ∀ H', Q (.bl true) H'
structure RandA (P : Program) (w : World) (K : PySem.W.Frag) (mg : Str → Option Value) (base : Heap) (k : Nat) (a : Addr) : Prop where
  ex : ∃ fd ps, Binds K fd ps [] ∧ FnOk P w K mg base (L2.CX P w) k a fd ps (spRand K)
  kp : PySem.W.keepIn K (.ref a) = true
theorem ints_reps {T : Tb} {H : Hp} : ∀ ns : List Int, Reps T H (ns.map D.int) (ns.map V.int)
  | [] => rfl
  | n :: r => ⟨_, _, rfl, rfl, ints_reps r⟩
def exS (T : Tb) (W : XW) (m : MS) : TS := fun D σ H => ∃ n, tS T n W m D σ H
theorem pss_exS {X : Cx} {c : CT} {W : XW} {ss : List Stmt} {m : MS} (h : ∀ n, PSts X c n W ss m) : PSs X ss (exS (tb X c) W m) := ⟨fun pins s σ H D I ⟨n, q⟩ => (h n).run pins s σ H D I q⟩
section
variable {P : Program} {w : World} {K : PySem.W.Frag} {mg : Str → Option Value} {base : Heap} {c : CT} {k : Nat}
theorem RandA.of {N ps : List Str} {d : DA} (F : FnX K d) (S : FnScope N ps d.scope) (hp : ps.length = 2) (hN : N.length = 4)
    (hbi : ∀ (kV doc pm : Value) (an : Option Addr) (cdv ct : Value) (us : List Value), us.length = ps.length → bindArgs (PySem.W.fnOf d.name d.qual d.params d.body d.scope .none kV doc pm an cdv ct) ⟨us, []⟩ = pure (ps.zip us))
    (hb : ∀ (cdv : Value) (A : Around) (outer : List PySem.Env) (s : Shared) (H : Hp) (E : XK), Ok (cxOf (L2.CX P w) P w K mg base N d.qual d.scope (d.at_ K) cdv A outer s H E) k E → PSs (cxOf (L2.CX P w) P w K mg base N d.qual d.scope (d.at_ K) cdv A outer s H E) d.body (tRand ⟨K, w, c.ca, c.cf⟩ E)) : RandA P w K mg base (k + 1) (d.at_ K) := by
  obtain ⟨fd, F⟩ := F.ex
  refine ⟨⟨fd, ps, F.bindsN hbi, F.ok S (fun vs H Q E h => ?_) fun cdv A outer s H vs Q E hr h => ⟨_, hb cdv A outer s H E ⟨rfl, hr, S.nd, takes_of rfl rfl rfl rfl⟩, ?_⟩⟩, F.kp⟩
  · obtain ⟨a, ns, salt, rfl, _⟩ := h
    exact hp.symm
  · obtain ⟨a, ns, salt, rfl, hs, hl, q⟩ := h
    have e : L2.start N [.ref a, .int salt] = [some (.ref a), some (.int salt), none, none] := by
      unfold L2.start
      rw [hN]; rfl
    rw [e]
    exact rand_pure (T := ⟨K, w, c.ca, c.cf⟩) hs hl q
theorem law_run {N ps : List Str} {d : DA} {salt : Int} {st0 : Stmt} {rest : List Stmt} {m : MS} {te : XK → TE} (F : FnX K d) (S : FnScope N ps d.scope) (hp : ps.length = 1) (hN : 2 ≤ N.length) (hbody : d.body = st0 :: rest)
    (h0 : ∀ (cdv : Value) (A : Around) (outer : List PySem.Env) (s : Shared) (H : Hp) (E : XK), Ok (cxOf (L2.CX P w) P w K mg base N d.qual d.scope (d.at_ K) cdv A outer s H E) k E → PS (cxOf (L2.CX P w) P w K mg base N d.qual d.scope (d.at_ K) cdv A outer s H E) st0 (tAsg (te E) (gName 1)))
    (hte : ∀ (E : XK) (σ : L2.St) (H : Hp) (Q : VK) (a : Addr) (ns : List Int), σ[0]? = some (some (.ref a)) → SqL K H a (ns.map V.int) → ns.length ≤ 900 → (∀ d H', H d = none → Ext H H' → H' d = some (.lst ((randI ns salt).map V.int)) → Q (.ref d) H') → te E σ H Q)
    (hb : BodyOk P w K mg base c N d.qual d.scope (d.at_ K) k rest m)
    (hm : ∀ ns : List Int, ns.length ≤ 900 → ∃ e t, m (lawE N) (.lst ((randI ns salt).map D.int)) = .ok (.ret (.bl true)) e t) :
    ∃ fd, FunD K d.name d.qual d.params d.body d.scope [] [] (d.at_ K) fd ∧ FnOk P w K mg base (L2.CX P w) (k + 1) (d.at_ K) fd ps (spLaw K) := by
  obtain ⟨fd, F⟩ := F.ex
  refine ⟨fd, F, F.ok S (fun vs H Q E h => ?_) fun cdv A outer s H vs Q E hr h => ?_⟩
  · obtain ⟨a, ns, rfl, _⟩ := h
    exact hp.symm
  · obtain ⟨a, ns, rfl, hs, hl, q⟩ := h
    have ok : Ok (cxOf (L2.CX P w) P w K mg base N d.qual d.scope (d.at_ K) cdv A outer s H E) k E := ⟨rfl, hr, S.nd, takes_of rfl rfl rfl rfl⟩
    refine ⟨tSeq (tAsg (te E) (gName 1)) (exS ⟨K, w, c.ca, c.cf⟩ E m), ?_, ?_⟩
    · rw [hbody]
      exact pss_cons (h0 cdv A outer s H E ok) (pss_exS (c := c) fun n => hb cdv A outer s H E n ok)
    · refine hte E _ H _ a ns (start_get rfl) hs hl fun dd H' hd x0 hv => ?_
      obtain ⟨e1, t1, hm⟩ := hm ns hl
      have hlen : (L2.start N [V.ref a]).length = N.length := by
        unfold L2.start
        rw [List.length_append, List.length_map, List.length_replicate]
        show 1 + (N.length - 1) = N.length
        omega
      refine ⟨⟨H', H, some dd⟩, lawE N, .lst ((randI ns salt).map D.int), H, dd, ⟨⟨x0, fun b o h _ => h, fun _ _ => rfl, Ext.rfl'⟩, fun i sl hsl => ?_, fun i j di dj b h1 _ _ _ => ?_, fun _ => ⟨⟨_, hv, ints_reps _⟩, hd, .inl rfl⟩, fun b hb => ⟨(Option.some.inj hb).symm, fun z => nomatch z⟩, ?_⟩, ?_⟩
      · unfold lawE at hsl
        by_cases hi : 1 = i
        · subst hi
          rw [getElem?_set_self' (by rw [List.length_replicate]; omega)] at hsl
          cases hsl
          exact ⟨getElem?_set_self' (by rw [hlen]; omega), fun z => nomatch z⟩
        · rw [List.getElem?_set_ne hi] at hsl
          rw [List.eq_of_mem_replicate (List.mem_of_getElem? hsl)]
          trivial
      · unfold lawE at h1
        by_cases hi : 1 = i
        · subst hi
          rw [getElem?_set_self' (by rw [List.length_replicate]; omega)] at h1
          cases h1
        · rw [List.getElem?_set_ne hi] at h1
          cases List.eq_of_mem_replicate (List.mem_of_getElem? h1)
      · unfold lawE
        rw [List.length_set, List.length_set, List.length_replicate, hlen]
      · rw [hm]
        intro v σ' G0 G p' _ _ _ R
        have R : v = .bl true := R
        subst R
        exact q G
end
section
variable {X : Cx} {c : CT} {n : Ent} {W : XW} {k : Nat}
def tLaw0 (K : PySem.W.Frag) (salt : Int) : TE := tCall (spRand K) [] (fun _ _ _ => False) (tCons (tVar 0) (tCons (tC (.int salt)) tNil))
theorem law0_read {K : PySem.W.Frag} {salt : Int} {σ : L2.St} {H : Hp} {Q : VK} {a : Addr} {ns : List Int} (h : σ[0]? = some (some (.ref a))) (hs : SqL K H a (ns.map V.int)) (hl : ns.length ≤ 900) (q : ∀ d H', H d = none → Ext H H' → H' d = some (.lst ((randI ns salt).map V.int)) → Q (.ref d) H') : tLaw0 K salt σ H Q :=
  ⟨.ref a, h, a, ns, salt, rfl, hs, hl, q⟩
theorem r_law0 {f x y : Str} {a : Addr} {j : Nat} {salt : Int} {kk : Nat} {p px py pc pos spos : Pos} (h : Ok X k W) (C : RandA X.prog X.w X.K X.mg X.base j a) (hm : X.mg f = some (.ref a)) (hj : j ≤ k := by first | decide | omega) (h0 : X.N[0]? = some x := by rfl) (h1 : X.N[1]? = some y := by rfl)
    (hv : Vis X.env.scope x := by first | exact Or.inl rfl | exact Or.inr (Or.inl rfl) | exact Or.inr (Or.inr rfl)) (hd : (x == ("__debug__" : Str)) = false := by decide) (hcd : (x == ("__classdict__" : Str)) = false := by decide) (hg : Gl X f := by rfl) (hdb : (f == ("__debug__" : Str)) = false := by decide)
    (hx : Loc X.env.scope y := by first | exact Or.inl rfl | exact Or.inr rfl) (hf : X.fn y = true ∨ X.env.scope.names.lookup y = some .local := by first | exact Or.inr rfl | exact Or.inl rfl)
    (s1 : starEach [.Name x px, .Constant (.int salt) kk pc] X.env = (false, eval (.Name x px) X.env) :: starEach [.Constant (.int salt) kk pc] X.env := by rfl) (s2 : starEach [.Constant (.int salt) kk pc] X.env = (false, eval (.Constant (.int salt) kk pc) X.env) :: starEach [] X.env := by rfl)
    (hpl : (backTo pos (starEach [.Constant (.int salt) kk pc] X.env)).any (·.1) = false := by rfl) (hs : swapsWith (.Call (.Name f p) [.Name x px, .Constant (.int salt) kk pc] [] pos) (some (.Name y py)) spos.line X.env = pure false := by rfl) :
    PS X (.Assign [.Name y py] (.Call (.Name f p) [.Name x px, .Constant (.int salt) kk pc] [] pos) spos) (tAsg (tLaw0 X.K salt) (gName 1)) := by
  obtain ⟨fd, ps, hb, F⟩ := C.ex
  have px' : Passes (L2.CX X.prog X.w) X (fun _ _ _ => False) := passL
  exact ps_set h.nd h1 hx (pe_call (F.mono hj) h.room hg hm C.kp hb .nil px' (pa_cons (pe_var h0 hv hd hcd) (pa_cons pe_int pa_nil s2) s1) hdb s1 hpl) hs hf
/-- _law_random's body -/
theorem r_rand {s1 s2 s3 : Stmt} (h1 : PS X s1 (tAsg (tVar 1) (gName 2))) (h2 : PS X s2 (tFor (iList X.K (tVar 0)) (gName 3) (tAsg (exEW (tb X c) W stepM) (gName 2))))
    (h3 : PS X s3 (tRet (tOp rCat (tLst (tCons (tVar 2) (tCons (tC (.int 0)) tNil))) (tLc (iList X.K (tVar 0)) (gName 3) (exT (tb X c) (some testM)) (exE (tb X c) (mVar 3)) [3])))) : PSs X [s1, s2, s3] (tRand (tb X c) W) :=
  pss_cons h1 (pss_cons h2 (pss_one h3))
end
/-- one def at one address -/
theorem funD_one {K : PySem.W.Frag} {x qual : Str} {params : Arguments} {body : List Stmt} {scope : Scope} {f : Addr} {fd fd2 : FuncData} (h : FunD K x qual params body scope [] [] f fd) (h2 : FunD K x qual params body scope [] [] f fd2) : fd = fd2 := by
  obtain ⟨_, _, _, _, _, _, _, _, _, _, _, q, _⟩ := h.ex
  obtain ⟨_, _, _, _, _, _, _, _, _, _, _, q2, _⟩ := h2.ex
  have e := q.symm.trans q2
  simp only [Option.some.injEq, Obj.mk.injEq, Data.func.injEq] at e
  exact e.2.2.1
end DI
set_option linter.all false
set_option Elab.async false
set_option maxRecDepth 100000
set_option maxHeartbeats 4000000
namespace Gk01
open DI PySem
/-! the plain defs of law_k01 -/
@[simp] abbrev c_PutError : Nat := 0
@[simp] abbrev c_BadPrices : Nat := 1
@[simp] abbrev c_BadRule : Nat := 2
@[simp] abbrev c_BadPart : Nat := 3
@[simp] abbrev c_UnknownPart : Nat := 4
@[simp] abbrev c_UnknownRule : Nat := 5
@[simp] abbrev c_Book : Nat := 6
def bd_is_integer : MS :=
  sRet (mAnd (m1 (pIsF (fun d => [fun d => isTy d .int].any fun f => f d) []) (mVar 0)) (mNot (m1 (pIsF (fun d => [fun d => isTy d .bool].any fun f => f d) []) (mVar 0))))
def fn_is_integer : Fn := run 1 bd_is_integer
def bd_is_between : MS :=
  sRet (mAnd (mCall fn_is_integer [mVar 0]) (mChain pLe pLe (mVar 1) (mVar 0) (mVar 2)))
def fn_is_between : Fn := run 3 bd_is_between
def con_MOST_LETTERS : D := .int 6
def con_LETTERS : D := .str "abcdefghijklmnopqrstuvwxyz"
def bd_is_good : MS :=
  sSeq (sIf (mOr (mNot (m1 (pIsF (fun d => [fun d => isTy d .str].any fun f => f d) []) (mVar 0))) (mNot (mChain pLe pLe (mConst (.int 1)) (mN (g1 pLen) [mVar 0]) (mConst con_MOST_LETTERS)))) (sRet (mConst (.bl false))) (sPass)) (sRet (mN (g1 pAll) [mComp [1] (iSeq (mVar 0)) (.one 1) none (m2 pIn (mVar 1) (mConst con_LETTERS))]))
def fn_is_good : Fn := run 2 bd_is_good
def con_MOST_PRICE : D := .int 99
def bd_are_prices : MS :=
  sSeq (sIf (mOr (mNot (m1 (pIsF (fun d => [fun d => isTy d .dict].any fun f => f d) []) (mVar 0))) (mNot (mChain pLe pLe (mConst (.int 2)) (mN (g1 pLen) [mVar 0]) (mConst (.int 3))))) (sRet (mConst (.bl false))) (sPass)) (sRet (mN (g1 pAll) [mComp [1] (iSeq (mVar 0)) (.one 1) none (mAnd (mCall fn_is_good [mVar 1]) (mCall fn_is_between [m2 pItem (mVar 0) (mVar 1), mConst (.int 0), mConst con_MOST_PRICE]))]))
def fn_are_prices : Fn := run 2 bd_are_prices
def bd_is_rule : MS :=
  sSeq (sIf (mOr (mNot (m1 (pIsF (fun d => [fun d => isTy d .tuple].any fun f => f d) []) (mVar 0))) (mOr (mNe [] (mN (g1 pLen) [mVar 0]) (mConst (.int 3))) (mNot (mCall fn_is_between [m2 pItem (mVar 0) (mConst (.int 2)), mConst (.int 1), mConst (.int 2)])))) (sRet (mConst (.bl false))) (sPass)) (sSeq (sIf (mOr (mNot (m1 (pIsF (fun d => [fun d => isTy d .str].any fun f => f d) []) (m2 pItem (mVar 0) (mConst (.int 0))))) (mOr (mNot (m1 (pIsF (fun d => [fun d => isTy d .str].any fun f => f d) []) (m2 pItem (mVar 0) (mConst (.int 1))))) (mEq [] (m2 pItem (mVar 0) (mConst (.int 0))) (m2 pItem (mVar 0) (mConst (.int 1)))))) (sRet (mConst (.bl false))) (sPass)) (sRet (mAnd (m2 pIn (m2 pItem (mVar 0) (mConst (.int 0))) (mVar 1)) (m2 pIn (m2 pItem (mVar 0) (mConst (.int 1))) (mVar 1)))))
def fn_is_rule : Fn := run 2 bd_is_rule
def con_MOST_RULES : D := .int 6
def bd_need_rules : MS :=
  sSeq (sIf (mOr (mNot (m1 (pIsF (fun d => [fun d => isTy d .tuple].any fun f => f d) []) (mVar 0))) (m2 pGt (mN (g1 pLen) [mVar 0]) (mConst con_MOST_RULES))) (sRaise 2 [m1 pNeg (mConst (.int 1))]) (sPass)) (sFor (.many [2, 3]) (iEnum (mVar 0)) (sIf (mOr (mNot (mCall fn_is_rule [mVar 3, mVar 1])) (m2 pIn (mVar 3) (mSlice (mVar 0) none (some (mVar 2))))) (sRaise 2 [mVar 2]) (sPass)))
def fn_need_rules : Fn := run 4 bd_need_rules
def bd_is_value : MS :=
  sSeq (sIf (mOr (m1 (pIsF (fun d => [fun d => isTy d .bool].any fun f => f d) []) (mVar 0)) (mNot (m1 (pIsF (fun d => [fun d => isTy d .int, fun d => isTy d .str].any fun f => f d) []) (mVar 0)))) (sRet (mConst (.bl false))) (sPass)) (sRet (m2 pIn (mVar 0) (mVar 1)))
def fn_is_value : Fn := run 2 bd_is_value
def fl_Book_price_table : List (Nat × Nat) := [(6, 0)]
def fl_Book_rule_tuple : List (Nat × Nat) := [(6, 1)]
def fl_Book_values_kept : List (Nat × Nat) := [(6, 2)]
def kv_PARTS : List (Str × D) := [("chain", .tup [.int 0, .int 1, .int 2, .int 3]), ("rings", .tup [.str "let", .str "barred"]), ("asks", .tup [.str "first", .str "each", .str "none"]), ("pays", .tup [.str "told", .str "given", .str "lesser"]), ("pieces", .tup [.str "split", .str "alike"])]
def con_PARTS : D := kdD kv_PARTS
def bd_Book___init__ : MS :=
  sSeq (sIf (mNot (mCall fn_are_prices [mVar 1])) (sRaise 1 []) (sPass)) (sSeq (sExpr (mCall fn_need_rules [mVar 2, mVar 1])) (sSeq (sSet 8 (mTup [mVar 3, mVar 4, mVar 5, mVar 6, mVar 7])) (sSeq (sFor (.many [9, 10]) (iZip (mConst con_PARTS) (mVar 8)) (sIf (mNot (mCall fn_is_value [mVar 10, m2 pItem (mConst con_PARTS) (mVar 9)])) (sRaise 3 [mVar 9]) (sPass))) (sSeq (sFld 0 fl_Book_price_table (mDComp [11] (iSeq (mN (g1 pSorted) [mN (g1 pList) [mVar 1]])) (.one 11) none (mVar 11) (m2 pItem (mVar 1) (mVar 11)))) (sSeq (sFld 0 fl_Book_rule_tuple (mVar 2)) (sFld 0 fl_Book_values_kept (m2 pDictZip (mConst con_PARTS) (mVar 8))))))))
def fn_Book___init__ : Fn := run 12 bd_Book___init__
def at_price_table : List (Nat × AttrK) := [(6, .fld 0)]
def bd_Book_prices : MS :=
  sRet (mN (g1 pDict) [mAttr at_price_table (mVar 0)])
def fn_Book_prices : Fn := run 1 bd_Book_prices
def at_rule_tuple : List (Nat × AttrK) := [(6, .fld 1)]
def bd_Book_rules : MS :=
  sRet (mAttr at_rule_tuple (mVar 0))
def fn_Book_rules : Fn := run 1 bd_Book_rules
def at_values_kept : List (Nat × AttrK) := [(6, .fld 2)]
def bd_Book_chain : MS :=
  sRet (m2 pItem (mAttr at_values_kept (mVar 0)) (mConst (.str "chain")))
def fn_Book_chain : Fn := run 1 bd_Book_chain
def bd_Book_rings : MS :=
  sRet (m2 pItem (mAttr at_values_kept (mVar 0)) (mConst (.str "rings")))
def fn_Book_rings : Fn := run 1 bd_Book_rings
def bd_Book_asks : MS :=
  sRet (m2 pItem (mAttr at_values_kept (mVar 0)) (mConst (.str "asks")))
def fn_Book_asks : Fn := run 1 bd_Book_asks
def bd_Book_pays : MS :=
  sRet (m2 pItem (mAttr at_values_kept (mVar 0)) (mConst (.str "pays")))
def fn_Book_pays : Fn := run 1 bd_Book_pays
def bd_Book_pieces : MS :=
  sRet (m2 pItem (mAttr at_values_kept (mVar 0)) (mConst (.str "pieces")))
def fn_Book_pieces : Fn := run 1 bd_Book_pieces
def bd_Book_goods : MS :=
  sRet (mN (g1 pList) [mAttr at_price_table (mVar 0)])
def fn_Book_goods : Fn := run 1 bd_Book_goods
def bd_Book_with_values : MS :=
  sRet (mNew 6 fn_Book___init__ [mAttr at_price_table (mVar 0), mVar 1, m2 pItem (mVar 2) (mConst (.str "chain")), m2 pItem (mVar 2) (mConst (.str "rings")), m2 pItem (mVar 2) (mConst (.str "asks")), m2 pItem (mVar 2) (mConst (.str "pays")), m2 pItem (mVar 2) (mConst (.str "pieces"))])
def fn_Book_with_values : Fn := run 3 bd_Book_with_values
def me_with_values : List (Nat × Fn) := [(6, fn_Book_with_values)]
def bd_Book_changed : MS :=
  sSeq (sIf (mOr (mNot (m1 (pIsF (fun d => [fun d => isTy d .str].any fun f => f d) []) (mVar 1))) (m2 pNotIn (mVar 1) (mConst con_PARTS))) (sRaise 4 [mVar 1]) (sPass)) (sSeq (sOwn 3 (mN (g1 pDict) [mAttr at_values_kept (mVar 0)])) (sSeq (sStore 3 (mVar 1) (mVar 2)) (sRet (mMeth me_with_values (mVar 0) [mAttr at_rule_tuple (mVar 0), mVar 3]))))
def fn_Book_changed : Fn := run 4 bd_Book_changed
def bd_Book_need_index : MS :=
  sIf (mNot (mCall fn_is_between [mVar 1, mConst (.int 0), m2 pSub (mVar 2) (mConst (.int 1))])) (sRaise 5 [mVar 1]) (sPass)
def fn_Book_need_index : Fn := run 3 bd_Book_need_index
def me_need_index : List (Nat × Fn) := [(6, fn_Book_need_index)]
def bd_Book_without : MS :=
  sSeq (sExpr (mMeth me_need_index (mVar 0) [mVar 1, mN (g1 pLen) [mAttr at_rule_tuple (mVar 0)]])) (sRet (mMeth me_with_values (mVar 0) [m2 pAdd (mSlice (mAttr at_rule_tuple (mVar 0)) none (some (mVar 1))) (mSlice (mAttr at_rule_tuple (mVar 0)) (some (m2 pAdd (mVar 1) (mConst (.int 1)))) none), mAttr at_values_kept (mVar 0)]))
def fn_Book_without : Fn := run 2 bd_Book_without
def bd_Book_exchanged : MS :=
  sSeq (sExpr (mMeth me_need_index (mVar 0) [mVar 1, m2 pSub (mN (g1 pLen) [mAttr at_rule_tuple (mVar 0)]) (mConst (.int 1))])) (sSeq (sSet 2 (mAttr at_rule_tuple (mVar 0))) (sSeq (sSet 3 (mTup [m2 pItem (mVar 2) (m2 pAdd (mVar 1) (mConst (.int 1))), m2 pItem (mVar 2) (mVar 1)])) (sRet (mMeth me_with_values (mVar 0) [m2 pAdd (m2 pAdd (mSlice (mVar 2) none (some (mVar 1))) (mVar 3)) (mSlice (mVar 2) (some (m2 pAdd (mVar 1) (mConst (.int 2)))) none), mAttr at_values_kept (mVar 0)]))))
def fn_Book_exchanged : Fn := run 4 bd_Book_exchanged
def obsL : List (Nat × Str) := [(6, "Book")]
abbrev obs : List Nat := obsL.map (·.1)
def bd_Book___eq__ : MS :=
  sSeq (sIf (mOr (mNot (m1 (pIsF (fun d => [isCls 6].any fun f => f d) obs) (mVar 1))) (mNe [] (mAttr at_price_table (mVar 0)) (mAttr at_price_table (mVar 1)))) (sRet (mConst (.bl false))) (sPass)) (sRet (mAnd (mEq [] (mAttr at_rule_tuple (mVar 0)) (mAttr at_rule_tuple (mVar 1))) (mEq [] (mAttr at_values_kept (mVar 0)) (mAttr at_values_kept (mVar 1)))))
def fn_Book___eq__ : Fn := run 2 bd_Book___eq__
def bd__law_below : MS :=
  sSeq (sIf (mAnd (mEq [] (mPkL pItem 0 (mConst (.int 1))) (mConst (.int 0))) (m2 pGt (mPk1 (fun d => (g1 pLen) [d]) 0) (mConst (.int 2)))) (sStoreT 0 (mConst (.int 1)) (mPopT 0 (mConst (.int 2)))) (sPass)) (sSeq (sIf (m2 pGt (mPkL pItem 0 (mConst (.int 1))) (mConst (.int 0))) (sSeq (sSet 2 (m2 pMod (mN (g1 pInt) [mPkL pItem 0 (mConst (.int 1))]) (mVar 1))) (sSeq (sStoreT 0 (mConst (.int 1)) (m2 pFdiv (mPkL pItem 0 (mConst (.int 1))) (mVar 1))) (sRet (mVar 2)))) (sPass)) (sSeq (sStoreT 0 (mConst (.int 0)) (m2 pMod (mN (g1 pInt) [m2 pAdd (m2 pMul (mPkL pItem 0 (mConst (.int 0))) (mConst (.int 48271))) (mConst (.int 11))]) (mConst (.int 2147483647)))) (sRet (m2 pMod (mN (g1 pInt) [m2 pFdiv (mPkL pItem 0 (mConst (.int 0))) (mConst (.int 64))]) (mVar 1)))))
def fn__law_below : Fn := run 3 bd__law_below
def bd__law_pick : MS :=
  sRet (m2 pItem (mVar 1) (mCallT fn__law_below [.t 0, .v (mN (g1 pLen) [mVar 1])]))
def fn__law_pick : Fn := run 2 bd__law_pick
def bd__law_equal (f0 : Fn) : MS :=
  sSeq (sIf (m1 pIsN (mVar 1)) (sRet (m1 pIsN (mVar 0))) (sPass)) (sSeq (sIf (m1 (pIsF (fun d => [fun d => isTy d .bool].any fun f => f d) []) (mVar 1)) (sRet (mAnd (m1 (pIsF (fun d => [fun d => isTy d .bool].any fun f => f d) []) (mVar 0)) (mEq [] (mVar 0) (mVar 1)))) (sPass)) (sSeq (sIf (m1 (pIsF (fun d => [fun d => isTy d .int].any fun f => f d) []) (mVar 1)) (sRet (mAnd (m1 (pIsF (fun d => [fun d => isTy d .int].any fun f => f d) []) (mVar 0)) (mAnd (mNot (m1 (pIsF (fun d => [fun d => isTy d .bool].any fun f => f d) []) (mVar 0))) (mEq [] (mVar 0) (mVar 1))))) (sPass)) (sSeq (sIf (m1 (pIsF (fun d => [fun d => isTy d .str].any fun f => f d) []) (mVar 1)) (sRet (mAnd (m1 (pIsF (fun d => [fun d => isTy d .str].any fun f => f d) []) (mVar 0)) (mEq [] (mVar 0) (mVar 1)))) (sPass)) (sSeq (sIf (m1 (pIsF (fun d => [fun d => isTy d .dict].any fun f => f d) []) (mVar 1)) (sSeq (sIf (mOr (mNot (m1 (pIsF (fun d => [fun d => isTy d .dict].any fun f => f d) []) (mVar 0))) (mNe [] (mN (g1 pList) [mVar 0]) (mN (g1 pSorted) [mN (g1 pList) [mVar 1]]))) (sRet (mConst (.bl false))) (sPass)) (sRet (mN (g1 pAll) [mComp [3] (iSeq (mN (g1 pList) [mVar 0])) (.one 3) none (mCall f0 [m2 pItem (mVar 0) (mVar 3), m2 pItem (mVar 1) (mVar 3)])]))) (sPass)) (sSeq (sIf (mNe [] (m1 (pIsF (fun d => [fun d => isTy d .tuple].any fun f => f d) []) (mVar 1)) (m1 (pIsF (fun d => [fun d => isTy d .tuple].any fun f => f d) []) (mVar 0))) (sRet (mConst (.bl false))) (sPass)) (sSeq (sIf (mNe [] (m1 (pIsF (fun d => [fun d => isTy d .list].any fun f => f d) []) (mVar 1)) (m1 (pIsF (fun d => [fun d => isTy d .list].any fun f => f d) []) (mVar 0))) (sRet (mConst (.bl false))) (sPass)) (sSeq (sIf (mNe [] (mN (g1 pLen) [mVar 0]) (mN (g1 pLen) [mVar 1])) (sRet (mConst (.bl false))) (sPass)) (sRet (mN (g1 pAll) [mComp [2] (iRange (mN (g1 pLen) [mVar 1])) (.one 2) none (mCall f0 [m2 pItem (mVar 0) (mVar 2), m2 pItem (mVar 1) (mVar 2)])])))))))))
def fn__law_equal : Nat → Fn
  | 0 => run 4 fun _ _ => .stuck
  | d + 1 => run 4 (bd__law_equal (fn__law_equal d))
def bd__law_parts : MS :=
  sSeq (sSet 0 (mLst [mTup [mConst (.str "chain"), mLst [mConst (.int 0), mConst (.int 1), mConst (.int 2), mConst (.int 3)]], mTup [mConst (.str "rings"), mLst [mConst (.str "let"), mConst (.str "barred")]], mTup [mConst (.str "asks"), mLst [mConst (.str "first"), mConst (.str "each"), mConst (.str "none")]]])) (sRet (m2 pAdd (mVar 0) (mLst [mTup [mConst (.str "pays"), mLst [mConst (.str "told"), mConst (.str "given"), mConst (.str "lesser")]], mTup [mConst (.str "pieces"), mLst [mConst (.str "split"), mConst (.str "alike")]]])))
def fn__law_parts : Fn := run 1 bd__law_parts
def bd__law_names : MS :=
  sSeq (sIf (mEq [] (mCallT fn__law_below [.t 0, .v (mConst (.int 3))]) (mConst (.int 0))) (sRet (mLst [mConst (.str "apple"), mConst (.str "bread"), mConst (.str "corn")])) (sPass)) (sRet (mCallT fn__law_pick [.t 0, .v (mLst [mLst [mConst (.str "a"), mConst (.str "b")], mLst [mConst (.str "beer"), mConst (.str "wine")]])]))
def fn__law_names : Fn := run 1 bd__law_names
def bd__law_swap : MS :=
  sSeq (sSet 2 (mCallT fn__law_below [.t 0, .v (mN (g1 pLen) [mVar 1])])) (sSeq (sSet 3 (m2 pMod (m2 pAdd (m2 pAdd (mVar 2) (mConst (.int 1))) (mCallT fn__law_below [.t 0, .v (m2 pSub (mN (g1 pLen) [mVar 1]) (mConst (.int 1)))])) (mN (g1 pLen) [mVar 1]))) (sRet (mTup [m2 pItem (mVar 1) (mVar 2), m2 pItem (mVar 1) (mVar 3), m2 pAdd (mConst (.int 1)) (mCallT fn__law_below [.t 0, .v (mConst (.int 2))])])))
def fn__law_swap : Fn := run 4 bd__law_swap
def bd__law_drawn : MS :=
  sSeq (sSet 1 (mCallT fn__law_names [.t 0])) (sSeq (sOwn 2 (mLst [])) (sSeq (sFor (.one 3) (iRange (m2 pAdd (mConst (.int 1)) (mCallT fn__law_below [.t 0, .v (mConst (.int 5))]))) (sSeq (sSet 7 (mCallT fn__law_swap [.t 0, .v (mVar 1)])) (sIf (mPkR pNotIn (mVar 7) 2) (sApp 2 (mVar 7)) (sPass)))) (sSeq (sOwn 4 (mDic [])) (sSeq (sFor (.one 5) (iSeq (mVar 1)) (sStore 4 (mVar 5) (mCallT fn__law_pick [.t 0, .v (mLst [mConst (.int 0), mConst (.int 1), mConst (.int 2), mConst (.int 3), mConst (.int 5), mConst (.int 99)])]))) (sSeq (sOwn 6 (mComp [8, 9] (iSeq (mCall fn__law_parts [])) (.many [8, 9]) none (mCallT fn__law_pick [.t 0, .v (mVar 9)]))) (sSeq (sStore 6 (mConst (.int 0)) (mN (g1 pMax) [mLst [mPkL pItem 6 (mConst (.int 0)), mCallT fn__law_below [.t 0, .v (mConst (.int 4))]]])) (sRet (mLst [mVar 4, mN (g1 pTuple) [mVar 2], mVar 6]))))))))
def fn__law_drawn : Fn := run 10 bd__law_drawn
def bd__law_book : MS :=
  sSeq (sSet 1 (m2 pItem (mVar 0) (mConst (.int 2)))) (sRet (mNew 6 fn_Book___init__ [m2 pItem (mVar 0) (mConst (.int 0)), m2 pItem (mVar 0) (mConst (.int 1)), m2 pItem (mVar 1) (mConst (.int 0)), m2 pItem (mVar 1) (mConst (.int 1)), m2 pItem (mVar 1) (mConst (.int 2)), m2 pItem (mVar 1) (mConst (.int 3)), m2 pItem (mVar 1) (mConst (.int 4))]))
def fn__law_book : Fn := run 2 bd__law_book
def excL : List (Nat × Str) := [(0, "PutError"), (1, "BadPrices"), (2, "BadRule"), (3, "BadPart"), (4, "UnknownPart"), (5, "UnknownRule")]
abbrev excs : List Nat := excL.map (·.1)
def bd__law_made : MS :=
  sSeq (sSet 1 (mConst .non)) (sSeq (sTry (sSet 1 (mCall fn__law_book [mVar 0])) excs [⟨1, none, fun _ => sOwn 1 (mLst [mConst (.str "prices")])⟩, ⟨2, some 2, one1 fun v => sOwn 1 (mLst [mConst (.str "rule"), mConst v])⟩, ⟨3, some 2, one1 fun v => sOwn 1 (mLst [mConst (.str "part"), mConst v])⟩]) (sRet (mVar 1)))
def fn__law_made : Fn := run 3 bd__law_made
def me_changed : List (Nat × Fn) := [(6, fn_Book_changed)]
def me_without : List (Nat × Fn) := [(6, fn_Book_without)]
def me_exchanged : List (Nat × Fn) := [(6, fn_Book_exchanged)]
def bd__law_later : MS :=
  sSeq (sSet 4 (mConst .non)) (sSeq (sTry (sIf (mEq [] (mVar 1) (mConst (.str "changed"))) (sSet 4 (mMeth me_changed (mVar 0) [mVar 2, mVar 3])) (sIf (mEq [] (mVar 1) (mConst (.str "without"))) (sSet 4 (mMeth me_without (mVar 0) [mVar 2])) (sSet 4 (mMeth me_exchanged (mVar 0) [mVar 2])))) excs [⟨4, some 5, one1 fun v => sOwn 4 (mLst [mConst (.str "part"), mConst v])⟩, ⟨5, some 5, one1 fun v => sOwn 4 (mLst [mConst (.str "rule"), mConst v])⟩, ⟨3, some 5, one1 fun v => sOwn 4 (mLst [mConst (.str "bad"), mConst v])⟩]) (sRet (mVar 4)))
def fn__law_later : Fn := run 6 bd__law_later
def eqs : List (Nat × Fn) := [(6, fn_Book___eq__)]
def bd__law_is_swap : MS :=
  sSeq (sIf (mOr (mNot (m1 (pIsF (fun d => [fun d => isTy d .tuple].any fun f => f d) []) (mVar 0))) (mOr (mNe [] (mN (g1 pLen) [mVar 0]) (mConst (.int 3))) (mOr (m2 pNotIn (m2 pItem (mVar 0) (mConst (.int 0))) (mVar 1)) (m2 pNotIn (m2 pItem (mVar 0) (mConst (.int 1))) (mVar 1))))) (sRet (mConst (.bl false))) (sPass)) (sRet (mAnd (mNe eqs (m2 pItem (mVar 0) (mConst (.int 0))) (m2 pItem (mVar 0) (mConst (.int 1)))) (mAnd (m1 (pIsF (fun d => [fun d => isTy d .int].any fun f => f d) []) (m2 pItem (mVar 0) (mConst (.int 2)))) (mAnd (mNot (m1 (pIsF (fun d => [fun d => isTy d .bool].any fun f => f d) []) (m2 pItem (mVar 0) (mConst (.int 2))))) (m2 pIn (m2 pItem (mVar 0) (mConst (.int 2))) (mLst [mConst (.int 1), mConst (.int 2)]))))))
def fn__law_is_swap : Fn := run 2 bd__law_is_swap
def bd__law_wrong : MS :=
  sSeq (sIf (m1 pIsN (m2 pItem (mVar 0) (mConst (.int 0)))) (sRet (mLst [mConst (.str "prices")])) (sPass)) (sSeq (sIf (mOr (mNot (m1 (pIsF (fun d => [fun d => isTy d .tuple].any fun f => f d) []) (m2 pItem (mVar 0) (mConst (.int 1))))) (m2 pGt (mN (g1 pLen) [m2 pItem (mVar 0) (mConst (.int 1))]) (mConst (.int 6)))) (sRet (mLst [mConst (.str "rule"), m1 pNeg (mConst (.int 1))])) (sPass)) (sSeq (sFor (.one 1) (iRange (mN (g1 pLen) [m2 pItem (mVar 0) (mConst (.int 1))])) (sIf (mOr (m2 pIn (m2 pItem (m2 pItem (mVar 0) (mConst (.int 1))) (mVar 1)) (mSlice (m2 pItem (mVar 0) (mConst (.int 1))) none (some (mVar 1)))) (mNot (mCall fn__law_is_swap [m2 pItem (m2 pItem (mVar 0) (mConst (.int 1))) (mVar 1), mN (g1 pList) [m2 pItem (mVar 0) (mConst (.int 0))]]))) (sRet (mLst [mConst (.str "rule"), mVar 1])) (sPass))) (sSeq (sFor (.one 1) (iRange (mConst (.int 5))) (sSeq (sPut (.many [2, 3]) (m2 pItem (mCall fn__law_parts []) (mVar 1))) (sIf (mOr (m1 (pIsF (fun d => [fun d => isTy d .bool].any fun f => f d) []) (m2 pItem (m2 pItem (mVar 0) (mConst (.int 2))) (mVar 1))) (m2 pNotIn (m2 pItem (m2 pItem (mVar 0) (mConst (.int 2))) (mVar 1)) (mVar 3))) (sRet (mLst [mConst (.str "part"), mVar 2])) (sPass)))) (sRet (mConst .non)))))
def fn__law_wrong : Fn := run 4 bd__law_wrong
def bd__law_spoiled : MS :=
  sSeq (sSet 2 (mCallT fn__law_below [.t 0, .v (mConst (.int 4))])) (sSeq (sSet 3 (mN (g1 pList) [m2 pItem (mVar 1) (mConst (.int 0))])) (sSeq (sIf (mEq [] (mVar 2) (mConst (.int 0))) (sSeq (sSet 5 (mLst [mTup [m2 pItem (mVar 3) (mConst (.int 0)), m2 pItem (mVar 3) (mConst (.int 0)), mConst (.int 1)], mTup [m2 pItem (mVar 3) (mConst (.int 0)), mConst (.str "zz"), mConst (.int 1)], mTup [m2 pItem (mVar 3) (mConst (.int 0)), m2 pItem (mVar 3) (mConst (.int 1)), mConst (.int 3)], mTup [m2 pItem (mVar 3) (mConst (.int 1)), m2 pItem (mVar 3) (mConst (.int 0)), mConst (.bl true)]])) (sSeq (sSet 6 (mCallT fn__law_below [.t 0, .v (m2 pAdd (mN (g1 pLen) [m2 pItem (mVar 1) (mConst (.int 1))]) (mConst (.int 1)))])) (sSeq (sSet 7 (mCallT fn__law_pick [.t 0, .v (m2 pAdd (mVar 5) (mLst [mConst .non, mTup [m2 pItem (mVar 3) (mConst (.int 0)), m2 pItem (mVar 3) (mConst (.int 1))], mLst [m2 pItem (mVar 3) (mConst (.int 0)), m2 pItem (mVar 3) (mConst (.int 1)), mConst (.int 1)], m2 pItem (m2 pItem (mVar 1) (mConst (.int 1))) (mConst (.int 0)), mTup [mConst (.int 5), m2 pItem (mVar 3) (mConst (.int 0)), mConst (.int 1)]]))])) (sRet (mLst [m2 pItem (mVar 1) (mConst (.int 0)), m2 pAdd (m2 pAdd (mSlice (m2 pItem (mVar 1) (mConst (.int 1))) none (some (mVar 6))) (mTup [mVar 7])) (mSlice (m2 pItem (mVar 1) (mConst (.int 1))) (some (mVar 6)) none), m2 pItem (mVar 1) (mConst (.int 2))]))))) (sPass)) (sSeq (sIf (mEq [] (mVar 2) (mConst (.int 1))) (sRet (mLst [m2 pItem (mVar 1) (mConst (.int 0)), mCallT fn__law_pick [.t 0, .v (mLst [mN (g1 pList) [m2 pItem (mVar 1) (mConst (.int 1))], mConst .non, m2 pAdd (m2 pAdd (m2 pAdd (m2 pAdd (m2 pAdd (m2 pAdd (m2 pItem (mVar 1) (mConst (.int 1))) (m2 pItem (mVar 1) (mConst (.int 1)))) (m2 pItem (mVar 1) (mConst (.int 1)))) (m2 pItem (mVar 1) (mConst (.int 1)))) (m2 pItem (mVar 1) (mConst (.int 1)))) (m2 pItem (mVar 1) (mConst (.int 1)))) (m2 pItem (mVar 1) (mConst (.int 1))), mConst (.str "rules")])], m2 pItem (mVar 1) (mConst (.int 2))])) (sPass)) (sSeq (sOwn 4 (mN (g1 pList) [m2 pItem (mVar 1) (mConst (.int 2))])) (sSeq (sStore 4 (mCallT fn__law_below [.t 0, .v (mConst (.int 5))]) (mCallT fn__law_pick [.t 0, .v (mLst [mConst .non, mConst (.str "let"), mConst (.int 4), m1 pNeg (mConst (.int 1)), mConst (.bl true), mConst (.str "none"), mConst (.str "split"), mConst (.str ""), mConst (.int 1), mTup [mConst (.str "let")]])])) (sRet (mLst [m2 pItem (mVar 1) (mConst (.int 0)), m2 pItem (mVar 1) (mConst (.int 1)), mVar 4])))))))
def fn__law_spoiled : Fn := run 8 bd__law_spoiled
def bd__law_placed : MS :=
  sSeq (sSet 3 (mN (g1 pLen) [m2 pItem (mVar 1) (mConst (.int 1))])) (sSeq (sPar [4, 5] [mLst [mConst (.str "rule"), mVar 2], mLst [mConst (.str "rule"), mVar 2]]) (sSeq (sIf (mAnd (m1 (pIsF (fun d => [fun d => isTy d .int].any fun f => f d) []) (mVar 2)) (mAnd (mNot (m1 (pIsF (fun d => [fun d => isTy d .bool].any fun f => f d) []) (mVar 2))) (mChain pLe pLt (mConst (.int 0)) (mVar 2) (mVar 3)))) (sSeq (sSet 4 (mCall fn__law_book [mLst [m2 pItem (mVar 1) (mConst (.int 0)), m2 pAdd (mSlice (m2 pItem (mVar 1) (mConst (.int 1))) none (some (mVar 2))) (mSlice (m2 pItem (mVar 1) (mConst (.int 1))) (some (m2 pAdd (mVar 2) (mConst (.int 1)))) none), m2 pItem (mVar 1) (mConst (.int 2))]])) (sIf (m2 pLt (mVar 2) (m2 pSub (mVar 3) (mConst (.int 1)))) (sSet 5 (mCall fn__law_book [mLst [m2 pItem (mVar 1) (mConst (.int 0)), m2 pAdd (m2 pAdd (mSlice (m2 pItem (mVar 1) (mConst (.int 1))) none (some (mVar 2))) (mTup [m2 pItem (m2 pItem (mVar 1) (mConst (.int 1))) (m2 pAdd (mVar 2) (mConst (.int 1))), m2 pItem (m2 pItem (mVar 1) (mConst (.int 1))) (mVar 2)])) (mSlice (m2 pItem (mVar 1) (mConst (.int 1))) (some (m2 pAdd (mVar 2) (mConst (.int 2)))) none), m2 pItem (mVar 1) (mConst (.int 2))]])) (sPass))) (sPass)) (sRet (mAnd (mEq eqs (mCall fn__law_later [mVar 0, mConst (.str "without"), mVar 2, mConst .non]) (mVar 4)) (mEq eqs (mCall fn__law_later [mVar 0, mConst (.str "exchanged"), mVar 2, mConst .non]) (mVar 5))))))
def fn__law_placed : Fn := run 6 bd__law_placed
def at_prices : List (Nat × AttrK) := [(6, .prop fn_Book_prices)]
def at_rules : List (Nat × AttrK) := [(6, .prop fn_Book_rules)]
def at_chain : List (Nat × AttrK) := [(6, .prop fn_Book_chain)]
def at_rings : List (Nat × AttrK) := [(6, .prop fn_Book_rings)]
def at_asks : List (Nat × AttrK) := [(6, .prop fn_Book_asks)]
def at_pays : List (Nat × AttrK) := [(6, .prop fn_Book_pays)]
def at_pieces : List (Nat × AttrK) := [(6, .prop fn_Book_pieces)]
def me_goods : List (Nat × Fn) := [(6, fn_Book_goods)]
def bd_law : MS :=
  sSeq (sFor (.one 2) (iRange (mConst (.int 4))) (sSeq (sSet 3 (mCallT fn__law_drawn [.t 1])) (sSeq (sIf (mEq [] (mCallT fn__law_below [.t 1, .v (mConst (.int 2))]) (mConst (.int 0))) (sSet 3 (mCallT fn__law_spoiled [.t 1, .v (mVar 3)])) (sPass)) (sSeq (sSet 4 (mCall fn__law_made [mVar 3])) (sSeq (sIf (m1 pNotN (mCall fn__law_wrong [mVar 3])) (sIf (mNot (mCall (fn__law_equal 12) [mVar 4, mCall fn__law_wrong [mVar 3]])) (sRet (mConst (.bl false))) (sPass)) (sSeq (sSet 6 (mLst [mAttr at_prices (mVar 4), mAttr at_rules (mVar 4), mAttr at_chain (mVar 4), mAttr at_rings (mVar 4), mAttr at_asks (mVar 4)])) (sSeq (sSet 6 (m2 pAdd (mVar 6) (mLst [mAttr at_pays (mVar 4), mAttr at_pieces (mVar 4), mMeth me_goods (mVar 4) []]))) (sSeq (sIf (mNot (mCall (fn__law_equal 12) [mVar 6, m2 pAdd (m2 pAdd (mSlice (mVar 3) none (some (mConst (.int 2)))) (m2 pItem (mVar 3) (mConst (.int 2)))) (mLst [mN (g1 pSorted) [mN (g1 pList) [m2 pItem (mVar 3) (mConst (.int 0))]]])])) (sRet (mConst (.bl false))) (sPass)) (sSeq (sSet 7 (mCallT fn__law_drawn [.t 1])) (sSeq (sIf (mOr (mNe eqs (mEq eqs (mVar 4) (mCall fn__law_book [mVar 7])) (mEq eqs (mVar 3) (mVar 7))) (mEq eqs (mVar 4) (mVar 3))) (sRet (mConst (.bl false))) (sPass)) (sSeq (sSet 8 (mCallT fn__law_below [.t 1, .v (mConst (.int 5))])) (sSeq (sPut (.many [12, 13]) (m2 pItem (mCall fn__law_parts []) (mVar 8))) (sSeq (sSet 9 (mCallT fn__law_pick [.t 1, .v (m2 pAdd (mVar 13) (mLst [mConst (.str "zz"), mConst .non, mConst (.int 9)]))])) (sSeq (sSet 10 (mLst [mConst (.str "bad"), mVar 12])) (sSeq (sIf (m2 pIn (mVar 9) (mVar 13)) (sSet 10 (mCall fn__law_book [mLst [m2 pItem (mVar 3) (mConst (.int 0)), m2 pItem (mVar 3) (mConst (.int 1)), m2 pAdd (m2 pAdd (mSlice (m2 pItem (mVar 3) (mConst (.int 2))) none (some (mVar 8))) (mLst [mVar 9])) (mSlice (m2 pItem (mVar 3) (mConst (.int 2))) (some (m2 pAdd (mVar 8) (mConst (.int 1)))) none)]])) (sPass)) (sSeq (sIf (mNe eqs (mCall fn__law_later [mVar 4, mConst (.str "changed"), mVar 12, mVar 9]) (mVar 10)) (sRet (mConst (.bl false))) (sPass)) (sSeq (sIf (mNe eqs (mCall fn__law_later [mVar 4, mConst (.str "changed"), mConst (.str "prices"), mVar 9]) (mLst [mConst (.str "part"), mConst (.str "prices")])) (sRet (mConst (.bl false))) (sPass)) (sSeq (sSet 11 (mCallT fn__law_pick [.t 1, .v (mLst [mCallT fn__law_below [.t 1, .v (mN (g1 pLen) [m2 pItem (mVar 3) (mConst (.int 1))])], m1 pNeg (mConst (.int 1)), mN (g1 pLen) [m2 pItem (mVar 3) (mConst (.int 1))], mConst .non, mConst (.bl true)])])) (sIf (mNot (mCall fn__law_placed [mVar 4, mVar 3, mVar 11])) (sRet (mConst (.bl false))) (sPass)))))))))))))))) (sSeq (sSet 5 (mCallT fn__law_pick [.t 1, .v (mLst [mDic [(mConst (.str "a"), mConst (.int 1))], mDic [(mConst (.str "a"), mConst (.int 1)), (mConst (.str "B"), mConst (.int 2))], mDic [(mConst (.str "a"), mConst (.int 1)), (mConst (.str "b"), mConst (.int 100))], mDic [(mConst (.str "a"), mConst (.int 1)), (mConst (.str "b"), mConst (.bl true))], mConst .non, mLst [mTup [mConst (.str "a"), mConst (.int 1)]]])])) (sIf (mNe eqs (mCall fn__law_made [mLst [mVar 5, mTup [], mLst [mConst (.int 0), mConst (.str "let"), mConst (.str "first"), mConst (.str "told"), mConst (.str "split")]]]) (mLst [mConst (.str "prices")])) (sRet (mConst (.bl false))) (sPass)))))))) (sRet (mConst (.bl true)))
end Gk01
set_option linter.all false
set_option Elab.async false
set_option maxRecDepth 100000
set_option maxHeartbeats 4000000
set_option synthInstance.maxHeartbeats 4000000
set_option synthInstance.maxSize 100000
namespace Gk01
open DI PySem PySem.Spec PyProof.Rows L2
/-! the defs of law_k01 -/
def top (i : Nat) : Stmt := PySem.Challenge.pw_insteads_k01_books_kept_and_refused.main.body.getD i (.Pass ⟨0, 0, 0, 0⟩)
def cnames : List Str := ["PutError", "BadPrices", "BadRule", "BadPart", "UnknownPart", "UnknownRule", "Book"]
def cflds : List (List Str) := [[], [], ["index"], ["part"], ["part"], ["index"], ["price_table", "rule_tuple", "values_kept"]]
def ct (K : PySem.W.Frag) : CT := ⟨fun i => He.ga K (cnames.getD i ""), fun i => cflds.getD i []⟩
def sc_is_integer : Stmt := top 13
def da_is_integer : DA := ⟨fun K => He.ga K "is_integer", "is_integer", "is_integer", defArgs sc_is_integer, defBody sc_is_integer, defScope sc_is_integer⟩
def sc_is_between : Stmt := top 14
def da_is_between : DA := ⟨fun K => He.ga K "is_between", "is_between", "is_between", defArgs sc_is_between, defBody sc_is_between, defScope sc_is_between⟩
def sc_is_good : Stmt := top 15
def da_is_good : DA := ⟨fun K => He.ga K "is_good", "is_good", "is_good", defArgs sc_is_good, defBody sc_is_good, defScope sc_is_good⟩
def sc_are_prices : Stmt := top 16
def da_are_prices : DA := ⟨fun K => He.ga K "are_prices", "are_prices", "are_prices", defArgs sc_are_prices, defBody sc_are_prices, defScope sc_are_prices⟩
def sc_is_rule : Stmt := top 17
def da_is_rule : DA := ⟨fun K => He.ga K "is_rule", "is_rule", "is_rule", defArgs sc_is_rule, defBody sc_is_rule, defScope sc_is_rule⟩
def sc_BadRule___init__ : Stmt := subAt (top 3) 0
def da_BadRule___init__ : DA := ⟨fun K => He.ma K (He.ga K "BadRule") "__init__", "__init__", "BadRule.__init__", defArgs sc_BadRule___init__, defBody sc_BadRule___init__, defScope sc_BadRule___init__⟩
def sc_need_rules : Stmt := top 18
def da_need_rules : DA := ⟨fun K => He.ga K "need_rules", "need_rules", "need_rules", defArgs sc_need_rules, defBody sc_need_rules, defScope sc_need_rules⟩
def sc_is_value : Stmt := top 19
def da_is_value : DA := ⟨fun K => He.ga K "is_value", "is_value", "is_value", defArgs sc_is_value, defBody sc_is_value, defScope sc_is_value⟩
def sc_BadPart___init__ : Stmt := subAt (top 4) 0
def da_BadPart___init__ : DA := ⟨fun K => He.ma K (He.ga K "BadPart") "__init__", "__init__", "BadPart.__init__", defArgs sc_BadPart___init__, defBody sc_BadPart___init__, defScope sc_BadPart___init__⟩
def sc_Book___init__ : Stmt := subAt (top 20) 0
def da_Book___init__ : DA := ⟨fun K => He.ma K (He.ga K "Book") "__init__", "__init__", "Book.__init__", defArgs sc_Book___init__, defBody sc_Book___init__, defScope sc_Book___init__⟩
def sc_Book_prices : Stmt := subAt (top 20) 1
def da_Book_prices : DA := ⟨fun K => gAd "Book" "prices" K, "prices", "Book.prices", defArgs sc_Book_prices, defBody sc_Book_prices, defScope sc_Book_prices⟩
def sc_Book_rules : Stmt := subAt (top 20) 2
def da_Book_rules : DA := ⟨fun K => gAd "Book" "rules" K, "rules", "Book.rules", defArgs sc_Book_rules, defBody sc_Book_rules, defScope sc_Book_rules⟩
def sc_Book_chain : Stmt := subAt (top 20) 3
def da_Book_chain : DA := ⟨fun K => gAd "Book" "chain" K, "chain", "Book.chain", defArgs sc_Book_chain, defBody sc_Book_chain, defScope sc_Book_chain⟩
def sc_Book_rings : Stmt := subAt (top 20) 4
def da_Book_rings : DA := ⟨fun K => gAd "Book" "rings" K, "rings", "Book.rings", defArgs sc_Book_rings, defBody sc_Book_rings, defScope sc_Book_rings⟩
def sc_Book_asks : Stmt := subAt (top 20) 5
def da_Book_asks : DA := ⟨fun K => gAd "Book" "asks" K, "asks", "Book.asks", defArgs sc_Book_asks, defBody sc_Book_asks, defScope sc_Book_asks⟩
def sc_Book_pays : Stmt := subAt (top 20) 6
def da_Book_pays : DA := ⟨fun K => gAd "Book" "pays" K, "pays", "Book.pays", defArgs sc_Book_pays, defBody sc_Book_pays, defScope sc_Book_pays⟩
def sc_Book_pieces : Stmt := subAt (top 20) 7
def da_Book_pieces : DA := ⟨fun K => gAd "Book" "pieces" K, "pieces", "Book.pieces", defArgs sc_Book_pieces, defBody sc_Book_pieces, defScope sc_Book_pieces⟩
def sc_Book_goods : Stmt := subAt (top 20) 8
def da_Book_goods : DA := ⟨fun K => He.ma K (He.ga K "Book") "goods", "goods", "Book.goods", defArgs sc_Book_goods, defBody sc_Book_goods, defScope sc_Book_goods⟩
def sc_Book_with_values : Stmt := subAt (top 20) 9
def da_Book_with_values : DA := ⟨fun K => He.ma K (He.ga K "Book") "with_values", "with_values", "Book.with_values", defArgs sc_Book_with_values, defBody sc_Book_with_values, defScope sc_Book_with_values⟩
def sc_UnknownPart___init__ : Stmt := subAt (top 5) 0
def da_UnknownPart___init__ : DA := ⟨fun K => He.ma K (He.ga K "UnknownPart") "__init__", "__init__", "UnknownPart.__init__", defArgs sc_UnknownPart___init__, defBody sc_UnknownPart___init__, defScope sc_UnknownPart___init__⟩
def sc_Book_changed : Stmt := subAt (top 20) 10
def da_Book_changed : DA := ⟨fun K => He.ma K (He.ga K "Book") "changed", "changed", "Book.changed", defArgs sc_Book_changed, defBody sc_Book_changed, defScope sc_Book_changed⟩
def sc_UnknownRule___init__ : Stmt := subAt (top 6) 0
def da_UnknownRule___init__ : DA := ⟨fun K => He.ma K (He.ga K "UnknownRule") "__init__", "__init__", "UnknownRule.__init__", defArgs sc_UnknownRule___init__, defBody sc_UnknownRule___init__, defScope sc_UnknownRule___init__⟩
def sc_Book_need_index : Stmt := subAt (top 20) 11
def da_Book_need_index : DA := ⟨fun K => He.ma K (He.ga K "Book") "need_index", "need_index", "Book.need_index", defArgs sc_Book_need_index, defBody sc_Book_need_index, defScope sc_Book_need_index⟩
def sc_Book_without : Stmt := subAt (top 20) 12
def da_Book_without : DA := ⟨fun K => He.ma K (He.ga K "Book") "without", "without", "Book.without", defArgs sc_Book_without, defBody sc_Book_without, defScope sc_Book_without⟩
def sc_Book_exchanged : Stmt := subAt (top 20) 13
def da_Book_exchanged : DA := ⟨fun K => He.ma K (He.ga K "Book") "exchanged", "exchanged", "Book.exchanged", defArgs sc_Book_exchanged, defBody sc_Book_exchanged, defScope sc_Book_exchanged⟩
def sc_Book___eq__ : Stmt := subAt (top 20) 14
def da_Book___eq__ : DA := ⟨fun K => He.ma K (He.ga K "Book") "__eq__", "__eq__", "Book.__eq__", defArgs sc_Book___eq__, defBody sc_Book___eq__, defScope sc_Book___eq__⟩
def sc__law_random : Stmt := top 22
def da__law_random : DA := ⟨fun K => He.ga K "_law_random", "_law_random", "_law_random", defArgs sc__law_random, defBody sc__law_random, defScope sc__law_random⟩
def sc__law_below : Stmt := top 23
def da__law_below : DA := ⟨fun K => He.ga K "_law_below", "_law_below", "_law_below", defArgs sc__law_below, defBody sc__law_below, defScope sc__law_below⟩
def sc__law_pick : Stmt := top 24
def da__law_pick : DA := ⟨fun K => He.ga K "_law_pick", "_law_pick", "_law_pick", defArgs sc__law_pick, defBody sc__law_pick, defScope sc__law_pick⟩
def sc__law_equal : Stmt := top 25
def da__law_equal : DA := ⟨fun K => He.ga K "_law_equal", "_law_equal", "_law_equal", defArgs sc__law_equal, defBody sc__law_equal, defScope sc__law_equal⟩
def sc__law_parts : Stmt := top 26
def da__law_parts : DA := ⟨fun K => He.ga K "_law_parts", "_law_parts", "_law_parts", defArgs sc__law_parts, defBody sc__law_parts, defScope sc__law_parts⟩
def sc__law_names : Stmt := top 27
def da__law_names : DA := ⟨fun K => He.ga K "_law_names", "_law_names", "_law_names", defArgs sc__law_names, defBody sc__law_names, defScope sc__law_names⟩
def sc__law_swap : Stmt := top 28
def da__law_swap : DA := ⟨fun K => He.ga K "_law_swap", "_law_swap", "_law_swap", defArgs sc__law_swap, defBody sc__law_swap, defScope sc__law_swap⟩
def sc__law_drawn : Stmt := top 29
def da__law_drawn : DA := ⟨fun K => He.ga K "_law_drawn", "_law_drawn", "_law_drawn", defArgs sc__law_drawn, defBody sc__law_drawn, defScope sc__law_drawn⟩
def sc__law_book : Stmt := top 30
def da__law_book : DA := ⟨fun K => He.ga K "_law_book", "_law_book", "_law_book", defArgs sc__law_book, defBody sc__law_book, defScope sc__law_book⟩
def sc__law_made : Stmt := top 31
def da__law_made : DA := ⟨fun K => He.ga K "_law_made", "_law_made", "_law_made", defArgs sc__law_made, defBody sc__law_made, defScope sc__law_made⟩
def sc__law_later : Stmt := top 32
def da__law_later : DA := ⟨fun K => He.ga K "_law_later", "_law_later", "_law_later", defArgs sc__law_later, defBody sc__law_later, defScope sc__law_later⟩
def sc__law_is_swap : Stmt := top 34
def da__law_is_swap : DA := ⟨fun K => He.ga K "_law_is_swap", "_law_is_swap", "_law_is_swap", defArgs sc__law_is_swap, defBody sc__law_is_swap, defScope sc__law_is_swap⟩
def sc__law_wrong : Stmt := top 33
def da__law_wrong : DA := ⟨fun K => He.ga K "_law_wrong", "_law_wrong", "_law_wrong", defArgs sc__law_wrong, defBody sc__law_wrong, defScope sc__law_wrong⟩
def sc__law_spoiled : Stmt := top 35
def da__law_spoiled : DA := ⟨fun K => He.ga K "_law_spoiled", "_law_spoiled", "_law_spoiled", defArgs sc__law_spoiled, defBody sc__law_spoiled, defScope sc__law_spoiled⟩
def sc__law_placed : Stmt := top 36
def da__law_placed : DA := ⟨fun K => He.ga K "_law_placed", "_law_placed", "_law_placed", defArgs sc__law_placed, defBody sc__law_placed, defScope sc__law_placed⟩
def sc_law : Stmt := top 37
def da_law : DA := ⟨fun K => He.ga K "law", "law", "law", defArgs sc_law, defBody sc_law, defScope sc_law⟩
def psF : List (PySem.W.Frag → Bool) := [(He.Fa.free "bool").ok, (He.Fa.free "int").ok, (He.Fa.free "isinstance").ok, (He.Fa.glo "is_integer").ok, (He.Fa.glo "is_between").ok, conB "MOST_LETTERS" con_MOST_LETTERS, conB "LETTERS" con_LETTERS, (He.Fa.free "all").ok, (He.Fa.free "len").ok, (He.Fa.free "str").ok, (He.Fa.glo "is_good").ok, conB "MOST_PRICE" con_MOST_PRICE, (He.Fa.free "dict").ok, (He.Fa.glo "are_prices").ok, (He.Fa.free "tuple").ok, (He.Fa.glo "is_rule").ok, (He.Fa.glo "BadRule").ok, exiB "BadRule" "index", conB "MOST_RULES" con_MOST_RULES, (He.Fa.free "enumerate").ok, (He.Fa.glo "need_rules").ok, (He.Fa.glo "is_value").ok, (He.Fa.cls "Book").ok, (He.Fa.noat "Book" "price_table").ok, (He.Fa.noat "Book" "rule_tuple").ok, (He.Fa.noat "Book" "values_kept").ok, (He.Fa.glo "BadPrices").ok, (He.Fa.exc "BadPrices").ok, kdB "PARTS" kv_PARTS, (He.Fa.glo "BadPart").ok, exiB "BadPart" "part", (He.Fa.free "list").ok, (He.Fa.free "sorted").ok, (He.Fa.free "zip").ok, (He.Fa.glo "Book").ok, (He.Fa.mkr "Book").ok, (He.Fa.glo "UnknownPart").ok, exiB "UnknownPart" "part", (He.Fa.meth "Book" "with_values").ok, (He.Fa.glo "UnknownRule").ok, exiB "UnknownRule" "index", (He.Fa.meth "Book" "need_index").ok, fun K => obsL.all fun o => instB o.2 K, isaB "Book" 6 obsL, (He.Fa.free "abs").ok, (He.Fa.glo "_law_random").ok, (He.Fa.glo "_law_below").ok, (He.Fa.glo "_law_pick").ok, (He.Fa.free "range").ok, (He.Fa.glo "_law_equal").ok, (He.Fa.glo "_law_parts").ok, (He.Fa.glo "_law_names").ok, (He.Fa.glo "_law_swap").ok, (He.Fa.free "max").ok, (He.Fa.glo "_law_drawn").ok, (He.Fa.glo "_law_book").ok, exmB excL "BadPrices" 1, exmB excL "BadRule" 2, xffB "BadRule" "index", exmB excL "BadPart" 3, xffB "BadPart" "part", (He.Fa.glo "PutError").ok, kitYB "BadPart" "PutError", (He.Fa.glo "_law_made").ok, exmB excL "UnknownPart" 4, xffB "UnknownPart" "part", exmB excL "UnknownRule" 5, xffB "UnknownRule" "index", (He.Fa.meth "Book" "changed").ok, (He.Fa.meth "Book" "without").ok, (He.Fa.meth "Book" "exchanged").ok, (He.Fa.glo "_law_later").ok, eqB "Book", (He.Fa.glo "_law_is_swap").ok, (He.Fa.glo "_law_wrong").ok, (He.Fa.glo "_law_spoiled").ok, (He.Fa.glo "_law_placed").ok, propB "Book" "prices", propB "Book" "rules", propB "Book" "chain", propB "Book" "rings", propB "Book" "asks", propB "Book" "pays", propB "Book" "pieces", (He.Fa.meth "Book" "goods").ok, (He.Fa.glo "law").ok]
def dsF : List DA := [da_is_integer, da_is_between, da_is_good, da_are_prices, da_is_rule, da_BadRule___init__, da_need_rules, da_is_value, da_BadPart___init__, da_Book___init__, da_Book_prices, da_Book_rules, da_Book_chain, da_Book_rings, da_Book_asks, da_Book_pays, da_Book_pieces, da_Book_goods, da_Book_with_values, da_UnknownPart___init__, da_Book_changed, da_UnknownRule___init__, da_Book_need_index, da_Book_without, da_Book_exchanged, da_Book___eq__, da__law_random, da__law_below, da__law_pick, da__law_equal, da__law_parts, da__law_names, da__law_swap, da__law_drawn, da__law_book, da__law_made, da__law_later, da__law_is_swap, da__law_wrong, da__law_spoiled, da__law_placed, da_law]
def tsF : List He.Tab := [(fun K => He.ga K "PARTS", ["chain", "rings", "asks", "pays", "pieces"])]
abbrev Zs (mg : Str → Option Value) (w : World) (K : PySem.W.Frag) : Prop := Zh psF dsF tsF mg w K
section
variable {P : Program} {w : World} {K : PySem.W.Frag} {mg : Str → Option Value} {base : Heap}
theorem b_bool (Z : Zs mg w K) : mg "bool" = none := Zh.free Z 0
theorem b_int (Z : Zs mg w K) : mg "int" = none := Zh.free Z 1
theorem b_isinstance (Z : Zs mg w K) : mg "isinstance" = none := Zh.free Z 2
theorem F_is_integer (Z : Zs mg w K) : FnA P w K mg base (ct K) 3 (He.ga K "is_integer") 1 fn_is_integer := FnA.of (N := ["value"]) (ps := ["value"]) (d := da_is_integer) (m := bd_is_integer) (k := 2) (Zh.s Z |>.def_ 0) ⟨rfl, rfl, rfl, by decide +kernel, rfl, by decide +kernel, by decide +kernel⟩ (by decide) (fun _ _ _ _ _ _ us hl => match us, hl with | [_], _ => rfl) fun cdv A outer s H E n h =>
    s_one (r_ret (m_and (r_isa isa_int (b_isinstance Z) (b_int Z) PyProof.Rows.boot_int (r_v 0)) (m_one (m_not (r_isa isa_bool (b_isinstance Z) (b_bool Z) PyProof.Rows.boot_bool (r_v 0))))))
theorem g_is_integer (Z : Zs mg w K) : mg "is_integer" = some (.ref (He.ga K "is_integer")) := Zh.glo Z 3
theorem C_is_integer (Z : Zs mg w K) : Cal P w K mg base (ct K) 3 "is_integer" 1 fn_is_integer := (F_is_integer Z).cal (g_is_integer Z)
theorem F_is_between (Z : Zs mg w K) : FnA P w K mg base (ct K) 5 (He.ga K "is_between") 3 fn_is_between := FnA.of (N := ["value", "low", "high"]) (ps := ["value", "low", "high"]) (d := da_is_between) (m := bd_is_between) (k := 4) (Zh.s Z |>.def_ 1) ⟨rfl, rfl, rfl, by decide +kernel, rfl, by decide +kernel, by decide +kernel⟩ (by decide) (fun _ _ _ _ _ _ us hl => match us, hl with | [_, _, _], _ => rfl) fun cdv A outer s H E n h =>
    s_one (r_ret (m_and (r_call h (C_is_integer Z) (r_cons (r_v 0) r_nil)) (m_one (r_chain op2_le op2_le (r_v 1) (r_v 0) (r_v 2)))))
theorem g_is_between (Z : Zs mg w K) : mg "is_between" = some (.ref (He.ga K "is_between")) := Zh.glo Z 4
theorem C_is_between (Z : Zs mg w K) : Cal P w K mg base (ct K) 5 "is_between" 3 fn_is_between := (F_is_between Z).cal (g_is_between Z)
theorem con_MOST_LETTERS_ok (Z : Zs mg w K) : ConH mg ⟨K, w, (ct K).ca, (ct K).cf⟩ "MOST_LETTERS" con_MOST_LETTERS := Zh.con Z 5
theorem con_LETTERS_ok (Z : Zs mg w K) : ConH mg ⟨K, w, (ct K).ca, (ct K).cf⟩ "LETTERS" con_LETTERS := Zh.con Z 6
theorem b_all (Z : Zs mg w K) : mg "all" = none := Zh.free Z 7
theorem b_len (Z : Zs mg w K) : mg "len" = none := Zh.free Z 8
theorem b_str (Z : Zs mg w K) : mg "str" = none := Zh.free Z 9
theorem F_is_good (Z : Zs mg w K) : FnA P w K mg base (ct K) 3 (He.ga K "is_good") 1 fn_is_good := FnA.of (N := ["value", "sign"]) (ps := ["value"]) (d := da_is_good) (m := bd_is_good) (k := 2) (Zh.s Z |>.def_ 2) ⟨rfl, rfl, rfl, by decide +kernel, rfl, by decide +kernel, by decide +kernel⟩ (by decide) (fun _ _ _ _ _ _ us hl => match us, hl with | [_], _ => rfl) fun cdv A outer s H E n h =>
    t_seq (t_if (PW.pt (w_or (b_not (r_b (r_isa isa_str (b_isinstance Z) (b_str Z) PyProof.Rows.boot_str (r_v 0)))) (b_or1 (b_not (b_chain op2_le op2_le (m_int) (r_blt blt_len (b_len Z) boot_len (r_cons (r_v 0) r_nil)) (r_c (con_MOST_LETTERS_ok Z))))))) (s_one (r_ret (m_bl))) (s_nil))
    (s_one (r_ret (r_blt (blt_all h.calm) (b_all Z) PyProof.Rows.boot_all (r_cons (PM.of_new (r_comp h [("sign", 1)] (it_seq (r_v 0)) (fun n s H C cl fp h => r_g1 1 h) (k_none) (fun n s H C cl fp h => r_cmp (op2_in h.room.units) (r_v 1) (r_c (con_LETTERS_ok Z))))) r_nil))))
theorem g_is_good (Z : Zs mg w K) : mg "is_good" = some (.ref (He.ga K "is_good")) := Zh.glo Z 10
theorem C_is_good (Z : Zs mg w K) : Cal P w K mg base (ct K) 3 "is_good" 1 fn_is_good := (F_is_good Z).cal (g_is_good Z)
theorem con_MOST_PRICE_ok (Z : Zs mg w K) : ConH mg ⟨K, w, (ct K).ca, (ct K).cf⟩ "MOST_PRICE" con_MOST_PRICE := Zh.con Z 11
theorem b_dict (Z : Zs mg w K) : mg "dict" = none := Zh.free Z 12
theorem F_are_prices (Z : Zs mg w K) : FnA P w K mg base (ct K) 7 (He.ga K "are_prices") 1 fn_are_prices := FnA.of (N := ["value", "good"]) (ps := ["value"]) (d := da_are_prices) (m := bd_are_prices) (k := 6) (Zh.s Z |>.def_ 3) ⟨rfl, rfl, rfl, by decide +kernel, rfl, by decide +kernel, by decide +kernel⟩ (by decide) (fun _ _ _ _ _ _ us hl => match us, hl with | [_], _ => rfl) fun cdv A outer s H E n h =>
    t_seq (t_if (PW.pt (w_or (b_not (r_b (r_isa isa_dict (b_isinstance Z) (b_dict Z) PyProof.Rows.boot_dict (r_v 0)))) (b_or1 (b_not (b_chain op2_le op2_le (m_int) (r_blt blt_len (b_len Z) boot_len (r_cons (r_v 0) r_nil)) (m_int)))))) (s_one (r_ret (m_bl))) (s_nil))
    (s_one (r_ret (r_blt (blt_all h.calm) (b_all Z) PyProof.Rows.boot_all (r_cons (PM.of_new (r_comp h [("good", 1)] (it_seq (r_v 0)) (fun n s H C cl fp h => r_g1 1 h) (k_none) (fun n s H C cl fp h => m_and (r_call h (C_is_good Z) (r_cons (r_v 1) r_nil)) (m_one (r_call h (C_is_between Z) (r_cons (r_item h (r_v 0) (r_v 1)) (r_cons (m_int) (r_cons (r_c (con_MOST_PRICE_ok Z)) r_nil)))))))) r_nil))))
theorem g_are_prices (Z : Zs mg w K) : mg "are_prices" = some (.ref (He.ga K "are_prices")) := Zh.glo Z 13
theorem C_are_prices (Z : Zs mg w K) : Cal P w K mg base (ct K) 7 "are_prices" 1 fn_are_prices := (F_are_prices Z).cal (g_are_prices Z)
theorem b_tuple (Z : Zs mg w K) : mg "tuple" = none := Zh.free Z 14
theorem F_is_rule (Z : Zs mg w K) : FnA P w K mg base (ct K) 7 (He.ga K "is_rule") 2 fn_is_rule := FnA.of (N := ["value", "prices"]) (ps := ["value", "prices"]) (d := da_is_rule) (m := bd_is_rule) (k := 6) (Zh.s Z |>.def_ 4) ⟨rfl, rfl, rfl, by decide +kernel, rfl, by decide +kernel, by decide +kernel⟩ (by decide) (fun _ _ _ _ _ _ us hl => match us, hl with | [_, _], _ => rfl) fun cdv A outer s H E n h =>
    t_seq (t_if (PW.pt (w_or (b_not (r_b (r_isa isa_tuple (b_isinstance Z) (b_tuple Z) PyProof.Rows.boot_tuple (r_v 0)))) (w_or (r_bne h no_eq (r_blt blt_len (b_len Z) boot_len (r_cons (r_v 0) r_nil)) (m_int)) (b_or1 (b_not (r_b (r_call h (C_is_between Z) (r_cons (r_item h (r_v 0) (m_int)) (r_cons (m_int) (r_cons (m_int) r_nil)))))))))) (s_one (r_ret (m_bl))) (s_nil))
    (t_seq (t_if (PW.pt (w_or (b_not (r_b (r_isa isa_str (b_isinstance Z) (b_str Z) PyProof.Rows.boot_str (r_item h (r_v 0) (m_int))))) (w_or (b_not (r_b (r_isa isa_str (b_isinstance Z) (b_str Z) PyProof.Rows.boot_str (r_item h (r_v 0) (m_int))))) (b_or1 (r_beq h no_eq (r_item h (r_v 0) (m_int)) (r_item h (r_v 0) (m_int))))))) (s_one (r_ret (m_bl))) (s_nil))
    (s_one (r_ret (m_and (r_cmp (op2_in h.room.units) (r_item h (r_v 0) (m_int)) (r_v 1)) (m_one (r_cmp (op2_in h.room.units) (r_item h (r_v 0) (m_int)) (r_v 1)))))))
theorem g_is_rule (Z : Zs mg w K) : mg "is_rule" = some (.ref (He.ga K "is_rule")) := Zh.glo Z 15
theorem C_is_rule (Z : Zs mg w K) : Cal P w K mg base (ct K) 7 "is_rule" 2 fn_is_rule := (F_is_rule Z).cal (g_is_rule Z)
theorem g_BadRule (Z : Zs mg w K) : mg "BadRule" = some (.ref ((ct K).ca 2)) := Zh.glo Z 16
theorem ex1_BadRule {X : Cx} (Z : Zs X.mg X.w X.K) : ExH X (ct X.K) 1 2 "index" := ExH.of (Zh.s Z |>.fact 17 (p := exiB "BadRule" "index")) rfl rfl (FnA.exc (N := ["self", "index"]) (ps := ["self", "index"]) (Zh.s Z |>.def_ 5 (d := da_BadRule___init__)) ⟨rfl, rfl, rfl, by decide +kernel, rfl, by decide +kernel, by decide +kernel⟩ rfl rfl (fun _ _ _ _ _ _ us hl => match us, hl with | [_, _], _ => rfl) fun cdv A outer s H E => pss_one (ps_ost (pv 0) (pv 1)))
theorem con_MOST_RULES_ok (Z : Zs mg w K) : ConH mg ⟨K, w, (ct K).ca, (ct K).cf⟩ "MOST_RULES" con_MOST_RULES := Zh.con Z 18
theorem b_enumerate (Z : Zs mg w K) : mg "enumerate" = none := Zh.free Z 19
theorem F_need_rules (Z : Zs mg w K) : FnA P w K mg base (ct K) 9 (He.ga K "need_rules") 2 fn_need_rules := FnA.of (N := ["rules", "prices", "index", "rule"]) (ps := ["rules", "prices"]) (d := da_need_rules) (m := bd_need_rules) (k := 8) (Zh.s Z |>.def_ 6) ⟨rfl, rfl, rfl, by decide +kernel, rfl, by decide +kernel, by decide +kernel⟩ (by decide) (fun _ _ _ _ _ _ us hl => match us, hl with | [_, _], _ => rfl) fun cdv A outer s H E n h =>
    t_seq (t_if (PW.pt (w_or (b_not (r_b (r_isa isa_tuple (b_isinstance Z) (b_tuple Z) PyProof.Rows.boot_tuple (r_v 0)))) (b_or1 (r_bcmp op2_gt (r_blt blt_len (b_len Z) boot_len (r_cons (r_v 0) r_nil)) (r_c (con_MOST_RULES_ok Z)))))) (s_one (r_raise1 h (ex1_BadRule Z) (g_BadRule Z) (m_neg (m_int)))) (s_nil))
    (s_one (r_for h (r_enum (b_enumerate Z) (r_v 0)) (r_g2 2 3 h) (s_one (t_if (PW.pt (w_or (b_not (r_b (r_call h (C_is_rule Z) (r_cons (r_v 3) (r_cons (r_v 1) r_nil))))) (b_or1 (r_bcmp (op2_in h.room.units) (r_v 3) (m_slice (r_v 0) o_none (o_some (r_v 2))))))) (s_one (r_raise1 h (ex1_BadRule Z) (g_BadRule Z) (r_v 2))) (s_nil)))))
theorem g_need_rules (Z : Zs mg w K) : mg "need_rules" = some (.ref (He.ga K "need_rules")) := Zh.glo Z 20
theorem C_need_rules (Z : Zs mg w K) : Cal P w K mg base (ct K) 9 "need_rules" 2 fn_need_rules := (F_need_rules Z).cal (g_need_rules Z)
theorem F_is_value (Z : Zs mg w K) : FnA P w K mg base (ct K) 3 (He.ga K "is_value") 2 fn_is_value := FnA.of (N := ["value", "values"]) (ps := ["value", "values"]) (d := da_is_value) (m := bd_is_value) (k := 2) (Zh.s Z |>.def_ 7) ⟨rfl, rfl, rfl, by decide +kernel, rfl, by decide +kernel, by decide +kernel⟩ (by decide) (fun _ _ _ _ _ _ us hl => match us, hl with | [_, _], _ => rfl) fun cdv A outer s H E n h =>
    t_seq (t_if (PW.pt (w_or (r_b (r_isa isa_bool (b_isinstance Z) (b_bool Z) PyProof.Rows.boot_bool (r_v 0))) (b_or1 (b_not (r_b (r_isa2 isa_int isa_str (b_isinstance Z) (b_int Z) PyProof.Rows.boot_int (b_str Z) PyProof.Rows.boot_str (r_v 0))))))) (s_one (r_ret (m_bl))) (s_nil))
    (s_one (r_ret (r_cmp (op2_in h.room.units) (r_v 0) (r_v 1))))
theorem g_is_value (Z : Zs mg w K) : mg "is_value" = some (.ref (He.ga K "is_value")) := Zh.glo Z 21
theorem C_is_value (Z : Zs mg w K) : Cal P w K mg base (ct K) 3 "is_value" 2 fn_is_value := (F_is_value Z).cal (g_is_value Z)
theorem cls_Book (Z : Zs mg w K) : Cls K ((ct K).ca 6) := He.cls_ok (Zh.s Z |>.fact 22 (p := (He.Fa.cls "Book").ok))
theorem no_Book_price_table (Z : Zs mg w K) : NoAttr K ((ct K).ca 6) "price_table" := He.noat_ok (Zh.s Z |>.fact 23 (p := (He.Fa.noat "Book" "price_table").ok))
theorem fl_Book_price_table_ok {X : Cx} (Z : Zs X.mg X.w X.K) : ∀ cid j, tab cid fl_Book_price_table = some j → FldH X (ct X.K) "price_table" cid j := tab_cons ⟨cls_Book Z, no_Book_price_table Z, rfl, by show (cflds.getD 6 []).Nodup; decide, by show (cflds.getD 6 []).length < 1000; decide⟩ tab_nil
theorem no_Book_rule_tuple (Z : Zs mg w K) : NoAttr K ((ct K).ca 6) "rule_tuple" := He.noat_ok (Zh.s Z |>.fact 24 (p := (He.Fa.noat "Book" "rule_tuple").ok))
theorem fl_Book_rule_tuple_ok {X : Cx} (Z : Zs X.mg X.w X.K) : ∀ cid j, tab cid fl_Book_rule_tuple = some j → FldH X (ct X.K) "rule_tuple" cid j := tab_cons ⟨cls_Book Z, no_Book_rule_tuple Z, rfl, by show (cflds.getD 6 []).Nodup; decide, by show (cflds.getD 6 []).length < 1000; decide⟩ tab_nil
theorem no_Book_values_kept (Z : Zs mg w K) : NoAttr K ((ct K).ca 6) "values_kept" := He.noat_ok (Zh.s Z |>.fact 25 (p := (He.Fa.noat "Book" "values_kept").ok))
theorem fl_Book_values_kept_ok {X : Cx} (Z : Zs X.mg X.w X.K) : ∀ cid j, tab cid fl_Book_values_kept = some j → FldH X (ct X.K) "values_kept" cid j := tab_cons ⟨cls_Book Z, no_Book_values_kept Z, rfl, by show (cflds.getD 6 []).Nodup; decide, by show (cflds.getD 6 []).length < 1000; decide⟩ tab_nil
theorem g_BadPrices (Z : Zs mg w K) : mg "BadPrices" = some (.ref ((ct K).ca 1)) := Zh.glo Z 26
theorem exc_BadPrices (Z : Zs mg w K) : (He.Fa.exc "BadPrices").ok K = true := Zh.s Z |>.fact 27 (p := (He.Fa.exc "BadPrices").ok)
theorem con_PARTS_ok (Z : Zs mg w K) : ConH mg ⟨K, w, (ct K).ca, (ct K).cf⟩ "PARTS" con_PARTS := Zh.kd Z 28 (Zh.s Z |>.tab 0)
theorem g_BadPart (Z : Zs mg w K) : mg "BadPart" = some (.ref ((ct K).ca 3)) := Zh.glo Z 29
theorem ex1_BadPart {X : Cx} (Z : Zs X.mg X.w X.K) : ExH X (ct X.K) 1 3 "part" := ExH.of (Zh.s Z |>.fact 30 (p := exiB "BadPart" "part")) rfl rfl (FnA.exc (N := ["self", "part"]) (ps := ["self", "part"]) (Zh.s Z |>.def_ 8 (d := da_BadPart___init__)) ⟨rfl, rfl, rfl, by decide +kernel, rfl, by decide +kernel, by decide +kernel⟩ rfl rfl (fun _ _ _ _ _ _ us hl => match us, hl with | [_, _], _ => rfl) fun cdv A outer s H E => pss_one (ps_ost (pv 0) (pv 1)))
theorem b_list (Z : Zs mg w K) : mg "list" = none := Zh.free Z 31
theorem b_sorted (Z : Zs mg w K) : mg "sorted" = none := Zh.free Z 32
theorem b_zip (Z : Zs mg w K) : mg "zip" = none := Zh.free Z 33
theorem F_Book___init__ (Z : Zs mg w K) : FnA P w K mg base (ct K) 11 (He.ma K (He.ga K "Book") "__init__") 8 fn_Book___init__ := FnA.of (N := ["self", "prices", "rules", "chain", "rings", "asks", "pays", "pieces", "given", "part", "value", "good"]) (ps := ["self", "prices", "rules", "chain", "rings", "asks", "pays", "pieces"]) (d := da_Book___init__) (m := bd_Book___init__) (k := 10) (Zh.s Z |>.def_ 9) ⟨rfl, rfl, rfl, by decide +kernel, rfl, by decide +kernel, by decide +kernel⟩ (by decide) (fun _ _ _ _ _ _ us hl => match us, hl with | [_, _, _, _, _, _, _, _], _ => rfl) fun cdv A outer s H E n h =>
    t_seq (t_if (b_not (r_b (r_call h (C_are_prices Z) (r_cons (r_v 1) r_nil)))) (s_one (r_raise0 h (exc_BadPrices Z) (g_BadPrices Z))) (s_nil))
    (t_seq (r_expr (r_call h (C_need_rules Z) (r_cons (r_v 2) (r_cons (r_v 1) r_nil))))
    (t_seq (r_set 8 h (r_tup (r_cons (r_v 3) (r_cons (r_v 4) (r_cons (r_v 5) (r_cons (r_v 6) (r_cons (r_v 7) r_nil)))))))
    (t_seq (r_for h (r_zip (b_zip Z) (r_c (con_PARTS_ok Z)) (r_v 8)) (r_g2 9 10 h) (s_one (t_if (b_not (r_b (r_call h (C_is_value Z) (r_cons (r_v 10) (r_cons (r_item h (r_c (con_PARTS_ok Z)) (r_v 9)) r_nil))))) (s_one (r_raise1 h (ex1_BadPart Z) (g_BadPart Z) (r_v 9))) (s_nil))))
    (t_seq (r_fld 0 (fl_Book_price_table_ok Z) (PM.of_new (r_dcomp h [("good", 11)] (it_seq (PM.of_new (r_nblt bltN_sorted (b_sorted Z) PyProof.Rows.boot_sorted (r_cons (PM.of_new (r_nbltT (bltN_list h.calm) (b_list Z) PyProof.Rows.boot_list (r_cons (r_v 1) r_nil))) r_nil)))) (fun n s H C cl fp h => r_g1 11 h) (k_none) (fun n s H C cl fp h => r_v 11) (fun n s H C cl fp h => r_item h (r_v 1) (r_v 11)))))
    (t_seq (r_fld 0 (fl_Book_rule_tuple_ok Z) (r_v 2))
    (s_one (r_fld 0 (fl_Book_values_kept_ok Z) (PM.of_new (r_dzip h (b_dict Z) (b_zip Z) (r_c (con_PARTS_ok Z)) (r_v 8))))))))))
theorem g_Book (Z : Zs mg w K) : mg "Book" = some (.ref ((ct K).ca 6)) := Zh.glo Z 34
theorem C_Book___init__ (Z : Zs mg w K) : CalC P w K mg base (ct K) 11 "Book" 6 8 fn_Book___init__ := FnA.calC (F_Book___init__ Z) (g_Book Z) (He.mkr_ok (Zh.s Z |>.fact 35 (p := (He.Fa.mkr "Book").ok)))
theorem at_price_table_ok {X : Cx} (Z : Zs X.mg X.w X.K) : ∀ cid a, tab cid at_price_table = some a → AtH X (ct X.K) 1 "price_table" cid a := tab_cons (.fld 0 (cls_Book Z) (no_Book_price_table Z) rfl (by show (cflds.getD 6 []).Nodup; decide)) (tab_nil)
theorem F_Book_prices (Z : Zs mg w K) : FnA P w K mg base (ct K) 4 (gAd "Book" "prices" K) 1 fn_Book_prices := FnA.of (N := ["self"]) (ps := ["self"]) (d := da_Book_prices) (m := bd_Book_prices) (k := 3) (Zh.s Z |>.def_ 10) ⟨rfl, rfl, rfl, by decide +kernel, rfl, by decide +kernel, by decide +kernel⟩ (by decide) (fun _ _ _ _ _ _ us hl => match us, hl with | [_], _ => rfl) fun cdv A outer s H E n h =>
    s_one (r_ret (PM.of_new (r_nbltT bltN_dict (b_dict Z) PyProof.Rows.boot_dict (r_cons (r_attr h (at_price_table_ok Z) (r_v 0)) r_nil))))
theorem at_rule_tuple_ok {X : Cx} (Z : Zs X.mg X.w X.K) : ∀ cid a, tab cid at_rule_tuple = some a → AtH X (ct X.K) 1 "rule_tuple" cid a := tab_cons (.fld 1 (cls_Book Z) (no_Book_rule_tuple Z) rfl (by show (cflds.getD 6 []).Nodup; decide)) (tab_nil)
theorem F_Book_rules (Z : Zs mg w K) : FnA P w K mg base (ct K) 4 (gAd "Book" "rules" K) 1 fn_Book_rules := FnA.of (N := ["self"]) (ps := ["self"]) (d := da_Book_rules) (m := bd_Book_rules) (k := 3) (Zh.s Z |>.def_ 11) ⟨rfl, rfl, rfl, by decide +kernel, rfl, by decide +kernel, by decide +kernel⟩ (by decide) (fun _ _ _ _ _ _ us hl => match us, hl with | [_], _ => rfl) fun cdv A outer s H E n h =>
    s_one (r_ret (r_attr h (at_rule_tuple_ok Z) (r_v 0)))
theorem at_values_kept_ok {X : Cx} (Z : Zs X.mg X.w X.K) : ∀ cid a, tab cid at_values_kept = some a → AtH X (ct X.K) 1 "values_kept" cid a := tab_cons (.fld 2 (cls_Book Z) (no_Book_values_kept Z) rfl (by show (cflds.getD 6 []).Nodup; decide)) (tab_nil)
theorem F_Book_chain (Z : Zs mg w K) : FnA P w K mg base (ct K) 4 (gAd "Book" "chain" K) 1 fn_Book_chain := FnA.of (N := ["self"]) (ps := ["self"]) (d := da_Book_chain) (m := bd_Book_chain) (k := 3) (Zh.s Z |>.def_ 12) ⟨rfl, rfl, rfl, by decide +kernel, rfl, by decide +kernel, by decide +kernel⟩ (by decide) (fun _ _ _ _ _ _ us hl => match us, hl with | [_], _ => rfl) fun cdv A outer s H E n h =>
    s_one (r_ret (r_item h (r_attr h (at_values_kept_ok Z) (r_v 0)) (m_str)))
theorem F_Book_rings (Z : Zs mg w K) : FnA P w K mg base (ct K) 4 (gAd "Book" "rings" K) 1 fn_Book_rings := FnA.of (N := ["self"]) (ps := ["self"]) (d := da_Book_rings) (m := bd_Book_rings) (k := 3) (Zh.s Z |>.def_ 13) ⟨rfl, rfl, rfl, by decide +kernel, rfl, by decide +kernel, by decide +kernel⟩ (by decide) (fun _ _ _ _ _ _ us hl => match us, hl with | [_], _ => rfl) fun cdv A outer s H E n h =>
    s_one (r_ret (r_item h (r_attr h (at_values_kept_ok Z) (r_v 0)) (m_str)))
theorem F_Book_asks (Z : Zs mg w K) : FnA P w K mg base (ct K) 4 (gAd "Book" "asks" K) 1 fn_Book_asks := FnA.of (N := ["self"]) (ps := ["self"]) (d := da_Book_asks) (m := bd_Book_asks) (k := 3) (Zh.s Z |>.def_ 14) ⟨rfl, rfl, rfl, by decide +kernel, rfl, by decide +kernel, by decide +kernel⟩ (by decide) (fun _ _ _ _ _ _ us hl => match us, hl with | [_], _ => rfl) fun cdv A outer s H E n h =>
    s_one (r_ret (r_item h (r_attr h (at_values_kept_ok Z) (r_v 0)) (m_str)))
theorem F_Book_pays (Z : Zs mg w K) : FnA P w K mg base (ct K) 4 (gAd "Book" "pays" K) 1 fn_Book_pays := FnA.of (N := ["self"]) (ps := ["self"]) (d := da_Book_pays) (m := bd_Book_pays) (k := 3) (Zh.s Z |>.def_ 15) ⟨rfl, rfl, rfl, by decide +kernel, rfl, by decide +kernel, by decide +kernel⟩ (by decide) (fun _ _ _ _ _ _ us hl => match us, hl with | [_], _ => rfl) fun cdv A outer s H E n h =>
    s_one (r_ret (r_item h (r_attr h (at_values_kept_ok Z) (r_v 0)) (m_str)))
theorem F_Book_pieces (Z : Zs mg w K) : FnA P w K mg base (ct K) 4 (gAd "Book" "pieces" K) 1 fn_Book_pieces := FnA.of (N := ["self"]) (ps := ["self"]) (d := da_Book_pieces) (m := bd_Book_pieces) (k := 3) (Zh.s Z |>.def_ 16) ⟨rfl, rfl, rfl, by decide +kernel, rfl, by decide +kernel, by decide +kernel⟩ (by decide) (fun _ _ _ _ _ _ us hl => match us, hl with | [_], _ => rfl) fun cdv A outer s H E n h =>
    s_one (r_ret (r_item h (r_attr h (at_values_kept_ok Z) (r_v 0)) (m_str)))
theorem F_Book_goods (Z : Zs mg w K) : FnA P w K mg base (ct K) 4 (He.ma K (He.ga K "Book") "goods") 1 fn_Book_goods := FnA.of (N := ["self"]) (ps := ["self"]) (d := da_Book_goods) (m := bd_Book_goods) (k := 3) (Zh.s Z |>.def_ 17) ⟨rfl, rfl, rfl, by decide +kernel, rfl, by decide +kernel, by decide +kernel⟩ (by decide) (fun _ _ _ _ _ _ us hl => match us, hl with | [_], _ => rfl) fun cdv A outer s H E n h =>
    s_one (r_ret (PM.of_new (r_nbltT (bltN_list h.calm) (b_list Z) PyProof.Rows.boot_list (r_cons (r_attr h (at_price_table_ok Z) (r_v 0)) r_nil))))
theorem F_Book_with_values (Z : Zs mg w K) : FnA P w K mg base (ct K) 14 (He.ma K (He.ga K "Book") "with_values") 3 fn_Book_with_values := FnA.of (N := ["self", "rules", "table"]) (ps := ["self", "rules", "table"]) (d := da_Book_with_values) (m := bd_Book_with_values) (k := 13) (Zh.s Z |>.def_ 18) ⟨rfl, rfl, rfl, by decide +kernel, rfl, by decide +kernel, by decide +kernel⟩ (by decide) (fun _ _ _ _ _ _ us hl => match us, hl with | [_, _, _], _ => rfl) fun cdv A outer s H E n h =>
    s_one (r_ret (PM.of_new (r_new h (C_Book___init__ Z) (r_cons (r_attr h (at_price_table_ok Z) (r_v 0)) (r_cons (r_v 1) (r_cons (r_item h (r_v 2) (m_str)) (r_cons (r_item h (r_v 2) (m_str)) (r_cons (r_item h (r_v 2) (m_str)) (r_cons (r_item h (r_v 2) (m_str)) (r_cons (r_item h (r_v 2) (m_str)) r_nil))))))))))
theorem g_UnknownPart (Z : Zs mg w K) : mg "UnknownPart" = some (.ref ((ct K).ca 4)) := Zh.glo Z 36
theorem ex1_UnknownPart {X : Cx} (Z : Zs X.mg X.w X.K) : ExH X (ct X.K) 1 4 "part" := ExH.of (Zh.s Z |>.fact 37 (p := exiB "UnknownPart" "part")) rfl rfl (FnA.exc (N := ["self", "part"]) (ps := ["self", "part"]) (Zh.s Z |>.def_ 19 (d := da_UnknownPart___init__)) ⟨rfl, rfl, rfl, by decide +kernel, rfl, by decide +kernel, by decide +kernel⟩ rfl rfl (fun _ _ _ _ _ _ us hl => match us, hl with | [_, _], _ => rfl) fun cdv A outer s H E => pss_one (ps_ost (pv 0) (pv 1)))
theorem mt_Book_with_values (Z : Zs mg w K) : Meth K (He.ga K "Book") "with_values" (He.ma K (He.ga K "Book") "with_values") := He.meth_ok (Zh.s Z |>.fact 38 (p := (He.Fa.meth "Book" "with_values").ok))
theorem me_with_values_ok {X : Cx} (Z : Zs X.mg X.w X.K) : ∀ cid f, tab cid me_with_values = some f → MeH X (ct X.K) 14 "with_values" 2 cid f := tab_cons (⟨cls_Book Z, by show _ ∉ cflds.getD 6 []; decide, _, mt_Book_with_values Z, (F_Book_with_values Z).fnH (by decide)⟩) (tab_nil)
theorem F_Book_changed (Z : Zs mg w K) : FnA P w K mg base (ct K) 16 (He.ma K (He.ga K "Book") "changed") 3 fn_Book_changed := FnA.of (N := ["self", "part", "value", "table"]) (ps := ["self", "part", "value"]) (d := da_Book_changed) (m := bd_Book_changed) (k := 15) (Zh.s Z |>.def_ 20) ⟨rfl, rfl, rfl, by decide +kernel, rfl, by decide +kernel, by decide +kernel⟩ (by decide) (fun _ _ _ _ _ _ us hl => match us, hl with | [_, _, _], _ => rfl) fun cdv A outer s H E n h =>
    t_seq (t_if (PW.pt (w_or (b_not (r_b (r_isa isa_str (b_isinstance Z) (b_str Z) PyProof.Rows.boot_str (r_v 1)))) (b_or1 (r_bcmp (op2_notIn h.room.units) (r_v 1) (r_c (con_PARTS_ok Z)))))) (s_one (r_raise1 h (ex1_UnknownPart Z) (g_UnknownPart Z) (r_v 1))) (s_nil))
    (t_seq (r_own 3 h (r_nbltT bltN_dict (b_dict Z) PyProof.Rows.boot_dict (r_cons (r_attr h (at_values_kept_ok Z) (r_v 0)) r_nil)))
    (t_seq (r_store 3 h (r_v 1) (r_v 2))
    (s_one (r_ret (r_meth h (me_with_values_ok Z) (r_v 0) (r_cons (r_attr h (at_rule_tuple_ok Z) (r_v 0)) (r_cons (r_v 3) r_nil)))))))
theorem g_UnknownRule (Z : Zs mg w K) : mg "UnknownRule" = some (.ref ((ct K).ca 5)) := Zh.glo Z 39
theorem ex1_UnknownRule {X : Cx} (Z : Zs X.mg X.w X.K) : ExH X (ct X.K) 1 5 "index" := ExH.of (Zh.s Z |>.fact 40 (p := exiB "UnknownRule" "index")) rfl rfl (FnA.exc (N := ["self", "index"]) (ps := ["self", "index"]) (Zh.s Z |>.def_ 21 (d := da_UnknownRule___init__)) ⟨rfl, rfl, rfl, by decide +kernel, rfl, by decide +kernel, by decide +kernel⟩ rfl rfl (fun _ _ _ _ _ _ us hl => match us, hl with | [_, _], _ => rfl) fun cdv A outer s H E => pss_one (ps_ost (pv 0) (pv 1)))
theorem F_Book_need_index (Z : Zs mg w K) : FnA P w K mg base (ct K) 7 (He.ma K (He.ga K "Book") "need_index") 3 fn_Book_need_index := FnA.of (N := ["self", "index", "many"]) (ps := ["self", "index", "many"]) (d := da_Book_need_index) (m := bd_Book_need_index) (k := 6) (Zh.s Z |>.def_ 22) ⟨rfl, rfl, rfl, by decide +kernel, rfl, by decide +kernel, by decide +kernel⟩ (by decide) (fun _ _ _ _ _ _ us hl => match us, hl with | [_, _, _], _ => rfl) fun cdv A outer s H E n h =>
    s_one (t_if (b_not (r_b (r_call h (C_is_between Z) (r_cons (r_v 1) (r_cons (m_int) (r_cons (m_bin op2_sub (r_v 2) (m_int)) r_nil)))))) (s_one (r_raise1 h (ex1_UnknownRule Z) (g_UnknownRule Z) (r_v 1))) (s_nil))
theorem mt_Book_need_index (Z : Zs mg w K) : Meth K (He.ga K "Book") "need_index" (He.ma K (He.ga K "Book") "need_index") := He.meth_ok (Zh.s Z |>.fact 41 (p := (He.Fa.meth "Book" "need_index").ok))
theorem me_need_index_ok {X : Cx} (Z : Zs X.mg X.w X.K) : ∀ cid f, tab cid me_need_index = some f → MeH X (ct X.K) 7 "need_index" 2 cid f := tab_cons (⟨cls_Book Z, by show _ ∉ cflds.getD 6 []; decide, _, mt_Book_need_index Z, (F_Book_need_index Z).fnH (by decide)⟩) (tab_nil)
theorem F_Book_without (Z : Zs mg w K) : FnA P w K mg base (ct K) 16 (He.ma K (He.ga K "Book") "without") 2 fn_Book_without := FnA.of (N := ["self", "index"]) (ps := ["self", "index"]) (d := da_Book_without) (m := bd_Book_without) (k := 15) (Zh.s Z |>.def_ 23) ⟨rfl, rfl, rfl, by decide +kernel, rfl, by decide +kernel, by decide +kernel⟩ (by decide) (fun _ _ _ _ _ _ us hl => match us, hl with | [_, _], _ => rfl) fun cdv A outer s H E n h =>
    t_seq (r_expr (r_meth h (me_need_index_ok Z) (r_v 0) (r_cons (r_v 1) (r_cons (r_blt blt_len (b_len Z) boot_len (r_cons (r_attr h (at_rule_tuple_ok Z) (r_v 0)) r_nil)) r_nil))))
    (s_one (r_ret (r_meth h (me_with_values_ok Z) (r_v 0) (r_cons (m_bin op2_add (m_slice (r_attr h (at_rule_tuple_ok Z) (r_v 0)) o_none (o_some (r_v 1))) (m_slice (r_attr h (at_rule_tuple_ok Z) (r_v 0)) (o_some (m_bin op2_add (r_v 1) (m_int))) o_none)) (r_cons (r_attr h (at_values_kept_ok Z) (r_v 0)) r_nil)))))
theorem F_Book_exchanged (Z : Zs mg w K) : FnA P w K mg base (ct K) 16 (He.ma K (He.ga K "Book") "exchanged") 2 fn_Book_exchanged := FnA.of (N := ["self", "index", "rules", "pair"]) (ps := ["self", "index"]) (d := da_Book_exchanged) (m := bd_Book_exchanged) (k := 15) (Zh.s Z |>.def_ 24) ⟨rfl, rfl, rfl, by decide +kernel, rfl, by decide +kernel, by decide +kernel⟩ (by decide) (fun _ _ _ _ _ _ us hl => match us, hl with | [_, _], _ => rfl) fun cdv A outer s H E n h =>
    t_seq (r_expr (r_meth h (me_need_index_ok Z) (r_v 0) (r_cons (r_v 1) (r_cons (m_bin op2_sub (r_blt blt_len (b_len Z) boot_len (r_cons (r_attr h (at_rule_tuple_ok Z) (r_v 0)) r_nil)) (m_int)) r_nil))))
    (t_seq (r_set 2 h (r_attr h (at_rule_tuple_ok Z) (r_v 0)))
    (t_seq (r_set 3 h (r_tup (r_cons (r_item h (r_v 2) (m_bin op2_add (r_v 1) (m_int))) (r_cons (r_item h (r_v 2) (r_v 1)) r_nil))))
    (s_one (r_ret (r_meth h (me_with_values_ok Z) (r_v 0) (r_cons (m_bin op2_add (m_bin op2_add (m_slice (r_v 2) o_none (o_some (r_v 1))) (r_v 3)) (m_slice (r_v 2) (o_some (m_bin op2_add (r_v 1) (m_int))) o_none)) (r_cons (r_attr h (at_values_kept_ok Z) (r_v 0)) r_nil)))))))
theorem obsL_ca (K : PySem.W.Frag) : ∀ o ∈ obsL, (ct K).ca o.1 = He.ga K o.2 := by
  intro o ho
  simp only [obsL, List.mem_cons, List.not_mem_nil, or_false] at ho
  rcases ho with rfl <;> rfl
theorem obs_ok (Z : Zs mg w K) : ∀ k, obs.contains k = true → InsT K ((ct K).ca k) := obsT_ok (obsL_ca K) (Zh.s Z |>.fact 42 (p := fun K => obsL.all fun o => instB o.2 K))
theorem isa_Book_ok (Z : Zs mg w K) : IsaH K (ct K) obs (.ref ((ct K).ca 6)) (isCls 6) := isaB_ok (C := "Book") (cid := 6) (Zh.s Z |>.fact 43 (p := isaB "Book" 6 obsL)) (obsL_ca K)
theorem F_Book___eq__ (Z : Zs mg w K) : FnA P w K mg base (ct K) 4 (He.ma K (He.ga K "Book") "__eq__") 2 fn_Book___eq__ := FnA.of (N := ["self", "other"]) (ps := ["self", "other"]) (d := da_Book___eq__) (m := bd_Book___eq__) (k := 3) (Zh.s Z |>.def_ 25) ⟨rfl, rfl, rfl, by decide +kernel, rfl, by decide +kernel, by decide +kernel⟩ (by decide) (fun _ _ _ _ _ _ us hl => match us, hl with | [_, _], _ => rfl) fun cdv A outer s H E n h =>
    t_seq (t_if (PW.pt (w_or (b_not (r_b (r_isaC (isa_Book_ok Z) (obs_ok Z) (b_isinstance Z) (g_Book Z) (r_v 1)))) (b_or1 (r_bne h no_eq (r_attr h (at_price_table_ok Z) (r_v 0)) (r_attr h (at_price_table_ok Z) (r_v 1)))))) (s_one (r_ret (m_bl))) (s_nil))
    (s_one (r_ret (m_and (r_eq h no_eq (r_attr h (at_rule_tuple_ok Z) (r_v 0)) (r_attr h (at_rule_tuple_ok Z) (r_v 1))) (m_one (r_eq h no_eq (r_attr h (at_values_kept_ok Z) (r_v 0)) (r_attr h (at_values_kept_ok Z) (r_v 1)))))))
theorem b_abs (Z : Zs mg w K) : mg "abs" = none := Zh.free Z 44
theorem F__law_random (Z : Zs mg w K) : RandA P w K mg base 3 (He.ga K "_law_random") := RandA.of (N := ["_law_script", "_law_salt", "_law_seed", "_law_cell"]) (ps := ["_law_script", "_law_salt"]) (d := da__law_random) (c := ct K) (k := 2) (Zh.s Z |>.def_ 26) ⟨rfl, rfl, rfl, by decide +kernel, rfl, by decide +kernel, by decide +kernel⟩ rfl rfl (fun _ _ _ _ _ _ us hl => match us, hl with | [_, _], _ => rfl) fun cdv A outer s H E h =>
    r_rand (c := ct K) (ps_set (i := 2) h.nd rfl (Or.inl rfl) (pv 1))
    (ps_for (passes_of rfl) h.calm (pi_list (pv 0)) (pg_name (i := 3) h.nd rfl (Or.inl rfl)) (pss_one (ps_set (i := 2) h.nd rfl (Or.inl rfl) (pe_exW (c := ct K) fun n => m_bin op2_mod (r_bltT blt_int (b_int Z) PyProof.Rows.boot_int (r_cons (m_bin op2_add (m_bin op2_mul (r_v 2) (m_int)) (r_blt blt_abs (b_abs Z) PyProof.Rows.boot_abs (r_cons (r_v 3) r_nil))) r_nil)) (m_int)))))
    (ps_ret (pe_op op_cat (pe_lst (pa_cons (pv 2) (pa_cons pe_int pa_nil))) (pe_lc h.calm h.nd (pi_list (pv 0)) (blkOk_of (own := [("_law_cell", 3)]) rfl) (fun s H C cl fp => pg_name (i := 3) h.nd rfl (Or.inl rfl)) (fun s H C cl fp => pts_ex (c := ct K) (PTsk.b h (k_test (fun n s H C cl fp h => r_bcmp op2_ge (r_v 3) (m_bin op2_pow (m_int) (m_int))))) s H C cl fp) (fun s H C cl fp => pe_ex (c := ct K) fun n => r_v 3) (by intro _; rfl))))
theorem g__law_random (Z : Zs mg w K) : mg "_law_random" = some (.ref (He.ga K "_law_random")) := Zh.glo Z 45
theorem F__law_below (Z : Zs mg w K) : FnA P w K mg base (ct K) 3 (He.ga K "_law_below") 2 fn__law_below := FnA.of (N := ["_law_d", "_law_size", "_law_result"]) (ps := ["_law_d", "_law_size"]) (d := da__law_below) (m := bd__law_below) (k := 2) (Zh.s Z |>.def_ 27) ⟨rfl, rfl, rfl, by decide +kernel, rfl, by decide +kernel, by decide +kernel⟩ (by decide) (fun _ _ _ _ _ _ us hl => match us, hl with | [_, _], _ => rfl) fun cdv A outer s H E n h =>
    t_seq (t_if (PW.pt (w_and (r_beq h no_eq (r_pkItem 0 h (m_int)) (m_int)) (b_and1 (r_bcmp op2_gt (r_pkLen 0 blt_len (b_len Z) boot_len) (m_int))))) (s_one (r_storeT 0 h (m_int) (r_popT 0 (m_int)))) (s_nil))
    (t_seq (t_if (r_bcmp op2_gt (r_pkItem 0 h (m_int)) (m_int)) (t_seq (r_set 2 h (m_bin op2_mod (r_bltT blt_int (b_int Z) PyProof.Rows.boot_int (r_cons (r_pkItem 0 h (m_int)) r_nil)) (r_v 1)))
    (t_seq (r_storeT 0 h (m_int) (m_bin op2_fdiv (r_pkItem 0 h (m_int)) (r_v 1)))
    (s_one (r_ret (r_v 2))))) (s_nil))
    (t_seq (r_storeT 0 h (m_int) (m_bin op2_mod (r_bltT blt_int (b_int Z) PyProof.Rows.boot_int (r_cons (m_bin op2_add (m_bin op2_mul (r_pkItem 0 h (m_int)) (m_int)) (m_int)) r_nil)) (m_int)))
    (s_one (r_ret (m_bin op2_mod (r_bltT blt_int (b_int Z) PyProof.Rows.boot_int (r_cons (m_bin op2_fdiv (r_pkItem 0 h (m_int)) (m_int)) r_nil)) (r_v 1))))))
theorem g__law_below (Z : Zs mg w K) : mg "_law_below" = some (.ref (He.ga K "_law_below")) := Zh.glo Z 46
theorem C__law_below (Z : Zs mg w K) : Cal P w K mg base (ct K) 3 "_law_below" 2 fn__law_below := (F__law_below Z).cal (g__law_below Z)
theorem F__law_pick (Z : Zs mg w K) : FnA P w K mg base (ct K) 5 (He.ga K "_law_pick") 2 fn__law_pick := FnA.of (N := ["_law_d", "_law_items"]) (ps := ["_law_d", "_law_items"]) (d := da__law_pick) (m := bd__law_pick) (k := 4) (Zh.s Z |>.def_ 28) ⟨rfl, rfl, rfl, by decide +kernel, rfl, by decide +kernel, by decide +kernel⟩ (by decide) (fun _ _ _ _ _ _ us hl => match us, hl with | [_, _], _ => rfl) fun cdv A outer s H E n h =>
    s_one (r_ret (r_item h (r_v 1) (r_callT h (C__law_below Z) (r_ot 0 (r_ov (r_blt blt_len (b_len Z) boot_len (r_cons (r_v 1) r_nil)) r_nilO)))))
theorem g__law_pick (Z : Zs mg w K) : mg "_law_pick" = some (.ref (He.ga K "_law_pick")) := Zh.glo Z 47
theorem C__law_pick (Z : Zs mg w K) : Cal P w K mg base (ct K) 5 "_law_pick" 2 fn__law_pick := (F__law_pick Z).cal (g__law_pick Z)
theorem b_range (Z : Zs mg w K) : mg "range" = none := Zh.free Z 48
theorem g__law_equal (Z : Zs mg w K) : mg "_law_equal" = some (.ref (He.ga K "_law_equal")) := Zh.glo Z 49
theorem F__law_equal_ (Z : Zs mg w K) : ∀ d, FnA P w K mg base (ct K) (2 + d) (He.ga K "_law_equal") 2 (fn__law_equal d)
  | 0 => FnA.of (N := ["_law_actual", "_law_expected", "_law_k", "_law_key"]) (ps := ["_law_actual", "_law_expected"]) (d := da__law_equal) (k := 1) (Zh.s Z |>.def_ 29) ⟨rfl, rfl, rfl, by decide +kernel, rfl, by decide +kernel, by decide +kernel⟩ (by decide) (fun _ _ _ _ _ _ us hl => match us, hl with | [_, _], _ => rfl) fun cdv A outer s H E n h => ⟨fun pins s σ H Q I ⟨e, t, H0, p, S, q⟩ => q.elim⟩
  | d + 1 => FnA.of (N := ["_law_actual", "_law_expected", "_law_k", "_law_key"]) (ps := ["_law_actual", "_law_expected"]) (d := da__law_equal) (k := 2 + d) (Zh.s Z |>.def_ 29) ⟨rfl, rfl, rfl, by decide +kernel, rfl, by decide +kernel, by decide +kernel⟩ (by decide) (fun _ _ _ _ _ _ us hl => match us, hl with | [_, _], _ => rfl) fun cdv A outer s H E n h =>
    have C0 : Cal P w K mg base (ct K) (2 + d) "_law_equal" 2 (fn__law_equal d) := (F__law_equal_ Z d).cal (g__law_equal Z)
    t_seq (t_if (b_isN (r_v 1)) (s_one (r_ret (m_isN (r_v 0)))) (s_nil))
    (t_seq (t_if (r_b (r_isa isa_bool (b_isinstance Z) (b_bool Z) PyProof.Rows.boot_bool (r_v 1))) (s_one (r_ret (m_and (r_isa isa_bool (b_isinstance Z) (b_bool Z) PyProof.Rows.boot_bool (r_v 0)) (m_one (r_eq h no_eq (r_v 0) (r_v 1)))))) (s_nil))
    (t_seq (t_if (r_b (r_isa isa_int (b_isinstance Z) (b_int Z) PyProof.Rows.boot_int (r_v 1))) (s_one (r_ret (m_and (r_isa isa_int (b_isinstance Z) (b_int Z) PyProof.Rows.boot_int (r_v 0)) (m_and (m_not (r_isa isa_bool (b_isinstance Z) (b_bool Z) PyProof.Rows.boot_bool (r_v 0))) (m_one (r_eq h no_eq (r_v 0) (r_v 1))))))) (s_nil))
    (t_seq (t_if (r_b (r_isa isa_str (b_isinstance Z) (b_str Z) PyProof.Rows.boot_str (r_v 1))) (s_one (r_ret (m_and (r_isa isa_str (b_isinstance Z) (b_str Z) PyProof.Rows.boot_str (r_v 0)) (m_one (r_eq h no_eq (r_v 0) (r_v 1)))))) (s_nil))
    (t_seq (t_if (r_b (r_isa isa_dict (b_isinstance Z) (b_dict Z) PyProof.Rows.boot_dict (r_v 1))) (t_seq (t_if (PW.pt (w_or (b_not (r_b (r_isa isa_dict (b_isinstance Z) (b_dict Z) PyProof.Rows.boot_dict (r_v 0)))) (b_or1 (r_bne h no_eq (PM.of_new (r_nbltT (bltN_list h.calm) (b_list Z) PyProof.Rows.boot_list (r_cons (r_v 0) r_nil))) (PM.of_new (r_nblt bltN_sorted (b_sorted Z) PyProof.Rows.boot_sorted (r_cons (PM.of_new (r_nbltT (bltN_list h.calm) (b_list Z) PyProof.Rows.boot_list (r_cons (r_v 1) r_nil))) r_nil))))))) (s_one (r_ret (m_bl))) (s_nil))
    (s_one (r_ret (r_blt (blt_all h.calm) (b_all Z) PyProof.Rows.boot_all (r_cons (PM.of_new (r_comp h [("_law_key", 3)] (it_seq (PM.of_new (r_nbltT (bltN_list h.calm) (b_list Z) PyProof.Rows.boot_list (r_cons (r_v 0) r_nil)))) (fun n s H C cl fp h => r_g1 3 h) (k_none) (fun n s H C cl fp h => r_call h C0 (r_cons (r_item h (r_v 0) (r_v 3)) (r_cons (r_item h (r_v 1) (r_v 3)) r_nil))))) r_nil))))) (s_nil))
    (t_seq (t_if (r_bne h no_eq (r_isa isa_tuple (b_isinstance Z) (b_tuple Z) PyProof.Rows.boot_tuple (r_v 1)) (r_isa isa_tuple (b_isinstance Z) (b_tuple Z) PyProof.Rows.boot_tuple (r_v 0))) (s_one (r_ret (m_bl))) (s_nil))
    (t_seq (t_if (r_bne h no_eq (r_isa isa_list (b_isinstance Z) (b_list Z) PyProof.Rows.boot_list (r_v 1)) (r_isa isa_list (b_isinstance Z) (b_list Z) PyProof.Rows.boot_list (r_v 0))) (s_one (r_ret (m_bl))) (s_nil))
    (t_seq (t_if (r_bne h no_eq (r_blt blt_len (b_len Z) boot_len (r_cons (r_v 0) r_nil)) (r_blt blt_len (b_len Z) boot_len (r_cons (r_v 1) r_nil))) (s_one (r_ret (m_bl))) (s_nil))
    (s_one (r_ret (r_blt (blt_all h.calm) (b_all Z) PyProof.Rows.boot_all (r_cons (PM.of_new (r_comp h [("_law_k", 2)] (r_range (b_range Z) (r_blt blt_len (b_len Z) boot_len (r_cons (r_v 1) r_nil))) (fun n s H C cl fp h => r_g1 2 h) (k_none) (fun n s H C cl fp h => r_call h C0 (r_cons (r_item h (r_v 0) (r_v 2)) (r_cons (r_item h (r_v 1) (r_v 2)) r_nil))))) r_nil)))))))))))
theorem F__law_equal (Z : Zs mg w K) : FnA P w K mg base (ct K) 14 (He.ga K "_law_equal") 2 (fn__law_equal 12) := F__law_equal_ Z 12
theorem C__law_equal (Z : Zs mg w K) : Cal P w K mg base (ct K) 14 "_law_equal" 2 (fn__law_equal 12) := (F__law_equal Z).cal (g__law_equal Z)
theorem F__law_parts (Z : Zs mg w K) : FnA P w K mg base (ct K) 3 (He.ga K "_law_parts") 0 fn__law_parts := FnA.of (N := ["_law_found"]) (ps := []) (d := da__law_parts) (m := bd__law_parts) (k := 2) (Zh.s Z |>.def_ 30) ⟨rfl, rfl, rfl, by decide +kernel, rfl, by decide +kernel, by decide +kernel⟩ (by decide) (fun _ _ _ _ _ _ us hl => match us, hl with | [], _ => rfl) fun cdv A outer s H E n h =>
    t_seq (r_set 0 h (PM.of_new (r_lst (r_cons (r_tup (r_cons (m_str) (r_cons (PM.of_new (r_lst (r_cons (m_int) (r_cons (m_int) (r_cons (m_int) (r_cons (m_int) r_nil)))))) r_nil))) (r_cons (r_tup (r_cons (m_str) (r_cons (PM.of_new (r_lst (r_cons (m_str) (r_cons (m_str) r_nil)))) r_nil))) (r_cons (r_tup (r_cons (m_str) (r_cons (PM.of_new (r_lst (r_cons (m_str) (r_cons (m_str) (r_cons (m_str) r_nil))))) r_nil))) r_nil))))))
    (s_one (r_ret (m_bin op2_add (r_v 0) (PM.of_new (r_lst (r_cons (r_tup (r_cons (m_str) (r_cons (PM.of_new (r_lst (r_cons (m_str) (r_cons (m_str) (r_cons (m_str) r_nil))))) r_nil))) (r_cons (r_tup (r_cons (m_str) (r_cons (PM.of_new (r_lst (r_cons (m_str) (r_cons (m_str) r_nil)))) r_nil))) r_nil)))))))
theorem g__law_parts (Z : Zs mg w K) : mg "_law_parts" = some (.ref (He.ga K "_law_parts")) := Zh.glo Z 50
theorem C__law_parts (Z : Zs mg w K) : Cal P w K mg base (ct K) 3 "_law_parts" 0 fn__law_parts := (F__law_parts Z).cal (g__law_parts Z)
theorem F__law_names (Z : Zs mg w K) : FnA P w K mg base (ct K) 7 (He.ga K "_law_names") 1 fn__law_names := FnA.of (N := ["_law_d"]) (ps := ["_law_d"]) (d := da__law_names) (m := bd__law_names) (k := 6) (Zh.s Z |>.def_ 31) ⟨rfl, rfl, rfl, by decide +kernel, rfl, by decide +kernel, by decide +kernel⟩ (by decide) (fun _ _ _ _ _ _ us hl => match us, hl with | [_], _ => rfl) fun cdv A outer s H E n h =>
    t_seq (t_if (r_beq h no_eq (r_callT h (C__law_below Z) (r_ot 0 (r_ov (m_int) r_nilO))) (m_int)) (s_one (r_ret (PM.of_new (r_lst (r_cons (m_str) (r_cons (m_str) (r_cons (m_str) r_nil))))))) (s_nil))
    (s_one (r_ret (r_callT h (C__law_pick Z) (r_ot 0 (r_ov (PM.of_new (r_lst (r_cons (PM.of_new (r_lst (r_cons (m_str) (r_cons (m_str) r_nil)))) (r_cons (PM.of_new (r_lst (r_cons (m_str) (r_cons (m_str) r_nil)))) r_nil)))) r_nilO)))))
theorem g__law_names (Z : Zs mg w K) : mg "_law_names" = some (.ref (He.ga K "_law_names")) := Zh.glo Z 51
theorem C__law_names (Z : Zs mg w K) : Cal P w K mg base (ct K) 7 "_law_names" 1 fn__law_names := (F__law_names Z).cal (g__law_names Z)
theorem F__law_swap (Z : Zs mg w K) : FnA P w K mg base (ct K) 5 (He.ga K "_law_swap") 2 fn__law_swap := FnA.of (N := ["_law_d", "_law_goods", "_law_one", "_law_other"]) (ps := ["_law_d", "_law_goods"]) (d := da__law_swap) (m := bd__law_swap) (k := 4) (Zh.s Z |>.def_ 32) ⟨rfl, rfl, rfl, by decide +kernel, rfl, by decide +kernel, by decide +kernel⟩ (by decide) (fun _ _ _ _ _ _ us hl => match us, hl with | [_, _], _ => rfl) fun cdv A outer s H E n h =>
    t_seq (r_set 2 h (r_callT h (C__law_below Z) (r_ot 0 (r_ov (r_blt blt_len (b_len Z) boot_len (r_cons (r_v 1) r_nil)) r_nilO))))
    (t_seq (r_set 3 h (m_bin op2_mod (m_bin op2_add (m_bin op2_add (r_v 2) (m_int)) (r_callT h (C__law_below Z) (r_ot 0 (r_ov (m_bin op2_sub (r_blt blt_len (b_len Z) boot_len (r_cons (r_v 1) r_nil)) (m_int)) r_nilO)))) (r_blt blt_len (b_len Z) boot_len (r_cons (r_v 1) r_nil))))
    (s_one (r_ret (r_tup (r_cons (r_item h (r_v 1) (r_v 2)) (r_cons (r_item h (r_v 1) (r_v 3)) (r_cons (m_bin op2_add (m_int) (r_callT h (C__law_below Z) (r_ot 0 (r_ov (m_int) r_nilO)))) r_nil)))))))
theorem g__law_swap (Z : Zs mg w K) : mg "_law_swap" = some (.ref (He.ga K "_law_swap")) := Zh.glo Z 52
theorem C__law_swap (Z : Zs mg w K) : Cal P w K mg base (ct K) 5 "_law_swap" 2 fn__law_swap := (F__law_swap Z).cal (g__law_swap Z)
theorem b_max (Z : Zs mg w K) : mg "max" = none := Zh.free Z 53
theorem F__law_drawn (Z : Zs mg w K) : FnA P w K mg base (ct K) 9 (He.ga K "_law_drawn") 1 fn__law_drawn := FnA.of (N := ["_law_d", "_law_goods", "_law_own", "_law_lap", "_law_prices", "_law_good", "_law_found", "_law_swap_here", "_law_part", "_law_some"]) (ps := ["_law_d"]) (d := da__law_drawn) (m := bd__law_drawn) (k := 8) (Zh.s Z |>.def_ 33) ⟨rfl, rfl, rfl, by decide +kernel, rfl, by decide +kernel, by decide +kernel⟩ (by decide) (fun _ _ _ _ _ _ us hl => match us, hl with | [_], _ => rfl) fun cdv A outer s H E n h =>
    t_seq (r_set 1 h (r_callT h (C__law_names Z) (r_ot 0 r_nilO)))
    (t_seq (r_own 2 h (r_lst r_nil))
    (t_seq (r_for h (r_range (b_range Z) (m_bin op2_add (m_int) (r_callT h (C__law_below Z) (r_ot 0 (r_ov (m_int) r_nilO))))) (r_g1 3 h) (t_seq (r_set 7 h (r_callT h (C__law_swap Z) (r_ot 0 (r_ov (r_v 1) r_nilO))))
    (s_one (t_if (r_bpkCmp 2 (op2_notIn h.room.units) (r_v 7)) (s_one (r_app 2 (r_v 7))) (s_nil)))))
    (t_seq (r_own 4 h (n_dic0))
    (t_seq (r_for h (it_seq (r_v 1)) (r_g1 5 h) (s_one (r_store 4 h (r_v 5) (r_callT h (C__law_pick Z) (r_ot 0 (r_ov (PM.of_new (r_lst (r_cons (m_int) (r_cons (m_int) (r_cons (m_int) (r_cons (m_int) (r_cons (m_int) (r_cons (m_int) r_nil)))))))) r_nilO))))))
    (t_seq (r_scomp 6 h [("_law_part", 8), ("_law_some", 9)] (it_seq (r_call0 h (C__law_parts Z))) (fun n s H C cl fp h => r_g2 8 9 h) (k_none) (fun n s H C cl fp h => r_callT h (C__law_pick Z) (r_ot 0 (r_ov (r_v 9) r_nilO))))
    (t_seq (r_store 6 h (m_int) (r_blt (blt_max h.calm) (b_max Z) PyProof.Rows.boot_max (r_cons (PM.of_new (r_lst (r_cons (r_pkItem 6 h (m_int)) (r_cons (r_callT h (C__law_below Z) (r_ot 0 (r_ov (m_int) r_nilO))) r_nil)))) r_nil)))
    (s_one (r_ret (PM.of_new (r_lst (r_cons (r_v 4) (r_cons (r_bltT blt_tuple (b_tuple Z) PyProof.Rows.boot_tuple (r_cons (r_v 2) r_nil)) (r_cons (r_v 6) r_nil)))))))))))))
theorem g__law_drawn (Z : Zs mg w K) : mg "_law_drawn" = some (.ref (He.ga K "_law_drawn")) := Zh.glo Z 54
theorem C__law_drawn (Z : Zs mg w K) : Cal P w K mg base (ct K) 9 "_law_drawn" 1 fn__law_drawn := (F__law_drawn Z).cal (g__law_drawn Z)
theorem F__law_book (Z : Zs mg w K) : FnA P w K mg base (ct K) 14 (He.ga K "_law_book") 1 fn__law_book := FnA.of (N := ["_law_b", "_law_v"]) (ps := ["_law_b"]) (d := da__law_book) (m := bd__law_book) (k := 13) (Zh.s Z |>.def_ 34) ⟨rfl, rfl, rfl, by decide +kernel, rfl, by decide +kernel, by decide +kernel⟩ (by decide) (fun _ _ _ _ _ _ us hl => match us, hl with | [_], _ => rfl) fun cdv A outer s H E n h =>
    t_seq (r_set 1 h (r_item h (r_v 0) (m_int)))
    (s_one (r_ret (PM.of_new (r_new h (C_Book___init__ Z) (r_cons (r_item h (r_v 0) (m_int)) (r_cons (r_item h (r_v 0) (m_int)) (r_cons (r_item h (r_v 1) (m_int)) (r_cons (r_item h (r_v 1) (m_int)) (r_cons (r_item h (r_v 1) (m_int)) (r_cons (r_item h (r_v 1) (m_int)) (r_cons (r_item h (r_v 1) (m_int)) r_nil)))))))))))
theorem g__law_book (Z : Zs mg w K) : mg "_law_book" = some (.ref (He.ga K "_law_book")) := Zh.glo Z 55
theorem C__law_book (Z : Zs mg w K) : Cal P w K mg base (ct K) 14 "_law_book" 1 fn__law_book := (F__law_book Z).cal (g__law_book Z)
theorem excL_ca (K : PySem.W.Frag) : ∀ o ∈ excL, (ct K).ca o.1 = He.ga K o.2 := by
  intro o ho
  simp only [excL, List.mem_cons, List.not_mem_nil, or_false] at ho
  rcases ho with rfl | rfl | rfl | rfl | rfl | rfl <;> rfl
theorem exm_BadPrices (Z : Zs mg w K) : ∀ q ∈ excs, PySem.W.exmOne K (.ref ((ct K).ca q)) (.ref ((ct K).ca 1)) = some (q == 1) := exmB_ok (C := "BadPrices") (Zh.s Z |>.fact 56 (p := exmB excL "BadPrices" 1)) (excL_ca K) rfl
theorem exm_BadRule (Z : Zs mg w K) : ∀ q ∈ excs, PySem.W.exmOne K (.ref ((ct K).ca q)) (.ref ((ct K).ca 2)) = some (q == 2) := exmB_ok (C := "BadRule") (Zh.s Z |>.fact 57 (p := exmB excL "BadRule" 2)) (excL_ca K) rfl
theorem xf_BadRule (Z : Zs mg w K) : XfH K (ct K) 2 "index" := XfH.of (C := "BadRule") (Zh.s Z |>.fact 58 (p := xffB "BadRule" "index")) rfl rfl
theorem exm_BadPart (Z : Zs mg w K) : ∀ q ∈ excs, PySem.W.exmOne K (.ref ((ct K).ca q)) (.ref ((ct K).ca 3)) = some (q == 3) := exmB_ok (C := "BadPart") (Zh.s Z |>.fact 59 (p := exmB excL "BadPart" 3)) (excL_ca K) rfl
theorem xf_BadPart (Z : Zs mg w K) : XfH K (ct K) 3 "part" := XfH.of (C := "BadPart") (Zh.s Z |>.fact 60 (p := xffB "BadPart" "part")) rfl rfl
theorem g_PutError (Z : Zs mg w K) : mg "PutError" = some (.ref ((ct K).ca 0)) := Zh.glo Z 61
theorem kity_BadPart_PutError (Z : Zs mg w K) : PySem.W.kitOne K (.ref ((ct K).ca 3)) (.ref ((ct K).ca 0)) = some true := of_decide_eq_true (Zh.s Z |>.fact 62 (p := kitYB "BadPart" "PutError"))
theorem F__law_made (Z : Zs mg w K) : FnA P w K mg base (ct K) 16 (He.ga K "_law_made") 1 fn__law_made := FnA.of (N := ["_law_b", "_law_found", "e"]) (ps := ["_law_b"]) (d := da__law_made) (m := bd__law_made) (k := 15) (Zh.s Z |>.def_ 35) ⟨rfl, rfl, rfl, by decide +kernel, rfl, by decide +kernel, by decide +kernel⟩ (by decide) (fun _ _ _ _ _ _ us hl => match us, hl with | [_], _ => rfl) fun cdv A outer s H E n h =>
    t_seq (r_set 1 h (m_non))
    (t_seq (r_try h (fun n W1 pn xe po h => s_one (r_set 1 h (r_call h (C__law_book Z) (r_cons (r_v 0) r_nil)))) (d_plain (g_BadPrices Z) (exm_BadPrices Z) (fun n a o pn => s_one (u_own 1 h.nd (r_lst (r_cons (m_str) r_nil)))) (d_named 2 (g_BadRule Z) (exm_BadRule Z) (fun n hn a o cls d pn hz hf => h_one (i := 2) rfl (k_lst (i := 2) (j := 1) (xf_BadRule Z).x (xf_BadRule Z).no (xf_BadRule Z).cf hn hz hf h.nd (by decide))) (d_named 2 (g_BadPart Z) (exm_BadPart Z) (fun n hn a o cls d pn hz hf => h_two (i := 2) rfl (k_lst (i := 2) (j := 1) (xf_BadPart Z).x (xf_BadPart Z).no (xf_BadPart Z).cf hn hz hf h.nd (by decide)) hz (kity_BadPart_PutError Z) (b_isinstance Z) (g_PutError Z) (s_one (u_own 1 h.nd (r_lst (r_cons (m_str) r_nil))))) (.nil)))))
    (s_one (r_ret (r_v 1))))
theorem g__law_made (Z : Zs mg w K) : mg "_law_made" = some (.ref (He.ga K "_law_made")) := Zh.glo Z 63
theorem C__law_made (Z : Zs mg w K) : Cal P w K mg base (ct K) 16 "_law_made" 1 fn__law_made := (F__law_made Z).cal (g__law_made Z)
theorem exm_UnknownPart (Z : Zs mg w K) : ∀ q ∈ excs, PySem.W.exmOne K (.ref ((ct K).ca q)) (.ref ((ct K).ca 4)) = some (q == 4) := exmB_ok (C := "UnknownPart") (Zh.s Z |>.fact 64 (p := exmB excL "UnknownPart" 4)) (excL_ca K) rfl
theorem xf_UnknownPart (Z : Zs mg w K) : XfH K (ct K) 4 "part" := XfH.of (C := "UnknownPart") (Zh.s Z |>.fact 65 (p := xffB "UnknownPart" "part")) rfl rfl
theorem exm_UnknownRule (Z : Zs mg w K) : ∀ q ∈ excs, PySem.W.exmOne K (.ref ((ct K).ca q)) (.ref ((ct K).ca 5)) = some (q == 5) := exmB_ok (C := "UnknownRule") (Zh.s Z |>.fact 66 (p := exmB excL "UnknownRule" 5)) (excL_ca K) rfl
theorem xf_UnknownRule (Z : Zs mg w K) : XfH K (ct K) 5 "index" := XfH.of (C := "UnknownRule") (Zh.s Z |>.fact 67 (p := xffB "UnknownRule" "index")) rfl rfl
theorem mt_Book_changed (Z : Zs mg w K) : Meth K (He.ga K "Book") "changed" (He.ma K (He.ga K "Book") "changed") := He.meth_ok (Zh.s Z |>.fact 68 (p := (He.Fa.meth "Book" "changed").ok))
theorem me_changed_ok {X : Cx} (Z : Zs X.mg X.w X.K) : ∀ cid f, tab cid me_changed = some f → MeH X (ct X.K) 16 "changed" 2 cid f := tab_cons (⟨cls_Book Z, by show _ ∉ cflds.getD 6 []; decide, _, mt_Book_changed Z, (F_Book_changed Z).fnH (by decide)⟩) (tab_nil)
theorem mt_Book_without (Z : Zs mg w K) : Meth K (He.ga K "Book") "without" (He.ma K (He.ga K "Book") "without") := He.meth_ok (Zh.s Z |>.fact 69 (p := (He.Fa.meth "Book" "without").ok))
theorem me_without_ok {X : Cx} (Z : Zs X.mg X.w X.K) : ∀ cid f, tab cid me_without = some f → MeH X (ct X.K) 16 "without" 1 cid f := tab_cons (⟨cls_Book Z, by show _ ∉ cflds.getD 6 []; decide, _, mt_Book_without Z, (F_Book_without Z).fnH (by decide)⟩) (tab_nil)
theorem mt_Book_exchanged (Z : Zs mg w K) : Meth K (He.ga K "Book") "exchanged" (He.ma K (He.ga K "Book") "exchanged") := He.meth_ok (Zh.s Z |>.fact 70 (p := (He.Fa.meth "Book" "exchanged").ok))
theorem me_exchanged_ok {X : Cx} (Z : Zs X.mg X.w X.K) : ∀ cid f, tab cid me_exchanged = some f → MeH X (ct X.K) 16 "exchanged" 1 cid f := tab_cons (⟨cls_Book Z, by show _ ∉ cflds.getD 6 []; decide, _, mt_Book_exchanged Z, (F_Book_exchanged Z).fnH (by decide)⟩) (tab_nil)
theorem F__law_later (Z : Zs mg w K) : FnA P w K mg base (ct K) 18 (He.ga K "_law_later") 4 fn__law_later := FnA.of (N := ["_law_book_here", "_law_word", "_law_one", "_law_value", "_law_found", "e"]) (ps := ["_law_book_here", "_law_word", "_law_one", "_law_value"]) (d := da__law_later) (m := bd__law_later) (k := 17) (Zh.s Z |>.def_ 36) ⟨rfl, rfl, rfl, by decide +kernel, rfl, by decide +kernel, by decide +kernel⟩ (by decide) (fun _ _ _ _ _ _ us hl => match us, hl with | [_, _, _, _], _ => rfl) fun cdv A outer s H E n h =>
    t_seq (r_set 4 h (m_non))
    (t_seq (r_try h (fun n W1 pn xe po h => s_one (t_if (r_beq h no_eq (r_v 1) (m_str)) (s_one (r_set 4 h (r_meth h (me_changed_ok Z) (r_v 0) (r_cons (r_v 2) (r_cons (r_v 3) r_nil))))) (s_one (t_if (r_beq h no_eq (r_v 1) (m_str)) (s_one (r_set 4 h (r_meth h (me_without_ok Z) (r_v 0) (r_cons (r_v 2) r_nil)))) (s_one (r_set 4 h (r_meth h (me_exchanged_ok Z) (r_v 0) (r_cons (r_v 2) r_nil)))))))) (d_named 5 (g_UnknownPart Z) (exm_UnknownPart Z) (fun n hn a o cls d pn hz hf => h_one (i := 5) rfl (k_lst (i := 5) (j := 4) (xf_UnknownPart Z).x (xf_UnknownPart Z).no (xf_UnknownPart Z).cf hn hz hf h.nd (by decide))) (d_named 5 (g_UnknownRule Z) (exm_UnknownRule Z) (fun n hn a o cls d pn hz hf => h_one (i := 5) rfl (k_lst (i := 5) (j := 4) (xf_UnknownRule Z).x (xf_UnknownRule Z).no (xf_UnknownRule Z).cf hn hz hf h.nd (by decide))) (d_named 5 (g_BadPart Z) (exm_BadPart Z) (fun n hn a o cls d pn hz hf => h_one (i := 5) rfl (k_lst (i := 5) (j := 4) (xf_BadPart Z).x (xf_BadPart Z).no (xf_BadPart Z).cf hn hz hf h.nd (by decide))) (.nil)))))
    (s_one (r_ret (r_v 4))))
theorem g__law_later (Z : Zs mg w K) : mg "_law_later" = some (.ref (He.ga K "_law_later")) := Zh.glo Z 71
theorem C__law_later (Z : Zs mg w K) : Cal P w K mg base (ct K) 18 "_law_later" 4 fn__law_later := (F__law_later Z).cal (g__law_later Z)
theorem eqs_ok {X : Cx} (Z : Zs X.mg X.w X.K) : ∀ cid f, tab cid eqs = some f → EqH X (ct X.K) 4 cid f := tab_cons (EqH.of (Zh.s Z |>.fact 72 (p := eqB "Book")) rfl ((F_Book___eq__ Z).fnH (by decide))) (tab_nil)
theorem F__law_is_swap (Z : Zs mg w K) : FnA P w K mg base (ct K) 7 (He.ga K "_law_is_swap") 2 fn__law_is_swap := FnA.of (N := ["_law_one", "_law_goods"]) (ps := ["_law_one", "_law_goods"]) (d := da__law_is_swap) (m := bd__law_is_swap) (k := 6) (Zh.s Z |>.def_ 37) ⟨rfl, rfl, rfl, by decide +kernel, rfl, by decide +kernel, by decide +kernel⟩ (by decide) (fun _ _ _ _ _ _ us hl => match us, hl with | [_, _], _ => rfl) fun cdv A outer s H E n h =>
    t_seq (t_if (PW.pt (w_or (b_not (r_b (r_isa isa_tuple (b_isinstance Z) (b_tuple Z) PyProof.Rows.boot_tuple (r_v 0)))) (w_or (r_bne h no_eq (r_blt blt_len (b_len Z) boot_len (r_cons (r_v 0) r_nil)) (m_int)) (w_or (r_bcmp (op2_notIn h.room.units) (r_item h (r_v 0) (m_int)) (r_v 1)) (b_or1 (r_bcmp (op2_notIn h.room.units) (r_item h (r_v 0) (m_int)) (r_v 1))))))) (s_one (r_ret (m_bl))) (s_nil))
    (s_one (r_ret (m_and (r_ne h (eqs_ok Z) (r_item h (r_v 0) (m_int)) (r_item h (r_v 0) (m_int))) (m_and (r_isa isa_int (b_isinstance Z) (b_int Z) PyProof.Rows.boot_int (r_item h (r_v 0) (m_int))) (m_and (m_not (r_isa isa_bool (b_isinstance Z) (b_bool Z) PyProof.Rows.boot_bool (r_item h (r_v 0) (m_int)))) (m_one (r_cmp (op2_in h.room.units) (r_item h (r_v 0) (m_int)) (PM.of_new (r_lst (r_cons (m_int) (r_cons (m_int) r_nil)))))))))))
theorem g__law_is_swap (Z : Zs mg w K) : mg "_law_is_swap" = some (.ref (He.ga K "_law_is_swap")) := Zh.glo Z 73
theorem C__law_is_swap (Z : Zs mg w K) : Cal P w K mg base (ct K) 7 "_law_is_swap" 2 fn__law_is_swap := (F__law_is_swap Z).cal (g__law_is_swap Z)
theorem F__law_wrong (Z : Zs mg w K) : FnA P w K mg base (ct K) 9 (He.ga K "_law_wrong") 1 fn__law_wrong := FnA.of (N := ["_law_b", "_law_k", "_law_part", "_law_some"]) (ps := ["_law_b"]) (d := da__law_wrong) (m := bd__law_wrong) (k := 8) (Zh.s Z |>.def_ 38) ⟨rfl, rfl, rfl, by decide +kernel, rfl, by decide +kernel, by decide +kernel⟩ (by decide) (fun _ _ _ _ _ _ us hl => match us, hl with | [_], _ => rfl) fun cdv A outer s H E n h =>
    t_seq (t_if (b_isN (r_item h (r_v 0) (m_int))) (s_one (r_ret (PM.of_new (r_lst (r_cons (m_str) r_nil))))) (s_nil))
    (t_seq (t_if (PW.pt (w_or (b_not (r_b (r_isa isa_tuple (b_isinstance Z) (b_tuple Z) PyProof.Rows.boot_tuple (r_item h (r_v 0) (m_int))))) (b_or1 (r_bcmp op2_gt (r_blt blt_len (b_len Z) boot_len (r_cons (r_item h (r_v 0) (m_int)) r_nil)) (m_int))))) (s_one (r_ret (PM.of_new (r_lst (r_cons (m_str) (r_cons (m_neg (m_int)) r_nil)))))) (s_nil))
    (t_seq (r_for h (r_range (b_range Z) (r_blt blt_len (b_len Z) boot_len (r_cons (r_item h (r_v 0) (m_int)) r_nil))) (r_g1 1 h) (s_one (t_if (PW.pt (w_or (r_bcmp (op2_in h.room.units) (r_item h (r_item h (r_v 0) (m_int)) (r_v 1)) (m_slice (r_item h (r_v 0) (m_int)) o_none (o_some (r_v 1)))) (b_or1 (b_not (r_b (r_call h (C__law_is_swap Z) (r_cons (r_item h (r_item h (r_v 0) (m_int)) (r_v 1)) (r_cons (PM.of_new (r_nbltT (bltN_list h.calm) (b_list Z) PyProof.Rows.boot_list (r_cons (r_item h (r_v 0) (m_int)) r_nil))) r_nil)))))))) (s_one (r_ret (PM.of_new (r_lst (r_cons (m_str) (r_cons (r_v 1) r_nil)))))) (s_nil))))
    (t_seq (r_for h (r_range (b_range Z) (m_int)) (r_g1 1 h) (t_seq (r_put (r_item h (r_call0 h (C__law_parts Z)) (r_v 1)) (r_g2 2 3 h))
    (s_one (t_if (PW.pt (w_or (r_b (r_isa isa_bool (b_isinstance Z) (b_bool Z) PyProof.Rows.boot_bool (r_item h (r_item h (r_v 0) (m_int)) (r_v 1)))) (b_or1 (r_bcmp (op2_notIn h.room.units) (r_item h (r_item h (r_v 0) (m_int)) (r_v 1)) (r_v 3))))) (s_one (r_ret (PM.of_new (r_lst (r_cons (m_str) (r_cons (r_v 2) r_nil)))))) (s_nil)))))
    (s_one (r_ret (m_non))))))
theorem g__law_wrong (Z : Zs mg w K) : mg "_law_wrong" = some (.ref (He.ga K "_law_wrong")) := Zh.glo Z 74
theorem C__law_wrong (Z : Zs mg w K) : Cal P w K mg base (ct K) 9 "_law_wrong" 1 fn__law_wrong := (F__law_wrong Z).cal (g__law_wrong Z)
theorem F__law_spoiled (Z : Zs mg w K) : FnA P w K mg base (ct K) 7 (He.ga K "_law_spoiled") 2 fn__law_spoiled := FnA.of (N := ["_law_d", "_law_b", "_law_kind", "_law_goods", "_law_v", "_law_odd", "_law_at", "_law_one"]) (ps := ["_law_d", "_law_b"]) (d := da__law_spoiled) (m := bd__law_spoiled) (k := 6) (Zh.s Z |>.def_ 39) ⟨rfl, rfl, rfl, by decide +kernel, rfl, by decide +kernel, by decide +kernel⟩ (by decide) (fun _ _ _ _ _ _ us hl => match us, hl with | [_, _], _ => rfl) fun cdv A outer s H E n h =>
    t_seq (r_set 2 h (r_callT h (C__law_below Z) (r_ot 0 (r_ov (m_int) r_nilO))))
    (t_seq (r_set 3 h (PM.of_new (r_nbltT (bltN_list h.calm) (b_list Z) PyProof.Rows.boot_list (r_cons (r_item h (r_v 1) (m_int)) r_nil))))
    (t_seq (t_if (r_beq h no_eq (r_v 2) (m_int)) (t_seq (r_set 5 h (PM.of_new (r_lst (r_cons (r_tup (r_cons (r_item h (r_v 3) (m_int)) (r_cons (r_item h (r_v 3) (m_int)) (r_cons (m_int) r_nil)))) (r_cons (r_tup (r_cons (r_item h (r_v 3) (m_int)) (r_cons (m_str) (r_cons (m_int) r_nil)))) (r_cons (r_tup (r_cons (r_item h (r_v 3) (m_int)) (r_cons (r_item h (r_v 3) (m_int)) (r_cons (m_int) r_nil)))) (r_cons (r_tup (r_cons (r_item h (r_v 3) (m_int)) (r_cons (r_item h (r_v 3) (m_int)) (r_cons (m_bl) r_nil)))) r_nil)))))))
    (t_seq (r_set 6 h (r_callT h (C__law_below Z) (r_ot 0 (r_ov (m_bin op2_add (r_blt blt_len (b_len Z) boot_len (r_cons (r_item h (r_v 1) (m_int)) r_nil)) (m_int)) r_nilO))))
    (t_seq (r_set 7 h (r_callT h (C__law_pick Z) (r_ot 0 (r_ov (m_bin op2_add (r_v 5) (PM.of_new (r_lst (r_cons (m_non) (r_cons (r_tup (r_cons (r_item h (r_v 3) (m_int)) (r_cons (r_item h (r_v 3) (m_int)) r_nil))) (r_cons (PM.of_new (r_lst (r_cons (r_item h (r_v 3) (m_int)) (r_cons (r_item h (r_v 3) (m_int)) (r_cons (m_int) r_nil))))) (r_cons (r_item h (r_item h (r_v 1) (m_int)) (m_int)) (r_cons (r_tup (r_cons (m_int) (r_cons (r_item h (r_v 3) (m_int)) (r_cons (m_int) r_nil)))) r_nil)))))))) r_nilO))))
    (s_one (r_ret (PM.of_new (r_lst (r_cons (r_item h (r_v 1) (m_int)) (r_cons (m_bin op2_add (m_bin op2_add (m_slice (r_item h (r_v 1) (m_int)) o_none (o_some (r_v 6))) (r_tup (r_cons (r_v 7) r_nil))) (m_slice (r_item h (r_v 1) (m_int)) (o_some (r_v 6)) o_none)) (r_cons (r_item h (r_v 1) (m_int)) r_nil)))))))))) (s_nil))
    (t_seq (t_if (r_beq h no_eq (r_v 2) (m_int)) (s_one (r_ret (PM.of_new (r_lst (r_cons (r_item h (r_v 1) (m_int)) (r_cons (r_callT h (C__law_pick Z) (r_ot 0 (r_ov (PM.of_new (r_lst (r_cons (PM.of_new (r_nbltT (bltN_list h.calm) (b_list Z) PyProof.Rows.boot_list (r_cons (r_item h (r_v 1) (m_int)) r_nil))) (r_cons (m_non) (r_cons (m_bin op2_add (m_bin op2_add (m_bin op2_add (m_bin op2_add (m_bin op2_add (m_bin op2_add (r_item h (r_v 1) (m_int)) (r_item h (r_v 1) (m_int))) (r_item h (r_v 1) (m_int))) (r_item h (r_v 1) (m_int))) (r_item h (r_v 1) (m_int))) (r_item h (r_v 1) (m_int))) (r_item h (r_v 1) (m_int))) (r_cons (m_str) r_nil)))))) r_nilO))) (r_cons (r_item h (r_v 1) (m_int)) r_nil))))))) (s_nil))
    (t_seq (r_own 4 h (r_nbltT (bltN_list h.calm) (b_list Z) PyProof.Rows.boot_list (r_cons (r_item h (r_v 1) (m_int)) r_nil)))
    (t_seq (r_store 4 h (r_callT h (C__law_below Z) (r_ot 0 (r_ov (m_int) r_nilO))) (r_callT h (C__law_pick Z) (r_ot 0 (r_ov (PM.of_new (r_lst (r_cons (m_non) (r_cons (m_str) (r_cons (m_int) (r_cons (m_neg (m_int)) (r_cons (m_bl) (r_cons (m_str) (r_cons (m_str) (r_cons (m_str) (r_cons (m_int) (r_cons (r_tup (r_cons (m_str) r_nil)) r_nil)))))))))))) r_nilO))))
    (s_one (r_ret (PM.of_new (r_lst (r_cons (r_item h (r_v 1) (m_int)) (r_cons (r_item h (r_v 1) (m_int)) (r_cons (r_v 4) r_nil))))))))))))
theorem g__law_spoiled (Z : Zs mg w K) : mg "_law_spoiled" = some (.ref (He.ga K "_law_spoiled")) := Zh.glo Z 75
theorem C__law_spoiled (Z : Zs mg w K) : Cal P w K mg base (ct K) 7 "_law_spoiled" 2 fn__law_spoiled := (F__law_spoiled Z).cal (g__law_spoiled Z)
theorem F__law_placed (Z : Zs mg w K) : FnA P w K mg base (ct K) 20 (He.ga K "_law_placed") 3 fn__law_placed := FnA.of (N := ["_law_book_here", "_law_b", "_law_at", "_law_many", "_law_out", "_law_turned"]) (ps := ["_law_book_here", "_law_b", "_law_at"]) (d := da__law_placed) (m := bd__law_placed) (k := 19) (Zh.s Z |>.def_ 40) ⟨rfl, rfl, rfl, by decide +kernel, rfl, by decide +kernel, by decide +kernel⟩ (by decide) (fun _ _ _ _ _ _ us hl => match us, hl with | [_, _, _], _ => rfl) fun cdv A outer s H E n h =>
    t_seq (r_set 3 h (r_blt blt_len (b_len Z) boot_len (r_cons (r_item h (r_v 1) (m_int)) r_nil)))
    (t_seq (r_par 4 5 h (r_cons (PM.of_new (r_lst (r_cons (m_str) (r_cons (r_v 2) r_nil)))) (r_cons (PM.of_new (r_lst (r_cons (m_str) (r_cons (r_v 2) r_nil)))) r_nil)))
    (t_seq (t_if (PW.pt (w_and (r_b (r_isa isa_int (b_isinstance Z) (b_int Z) PyProof.Rows.boot_int (r_v 2))) (w_and (b_not (r_b (r_isa isa_bool (b_isinstance Z) (b_bool Z) PyProof.Rows.boot_bool (r_v 2)))) (b_and1 (b_chain op2_le op2_lt (m_int) (r_v 2) (r_v 3)))))) (t_seq (r_set 4 h (r_call h (C__law_book Z) (r_cons (PM.of_new (r_lst (r_cons (r_item h (r_v 1) (m_int)) (r_cons (m_bin op2_add (m_slice (r_item h (r_v 1) (m_int)) o_none (o_some (r_v 2))) (m_slice (r_item h (r_v 1) (m_int)) (o_some (m_bin op2_add (r_v 2) (m_int))) o_none)) (r_cons (r_item h (r_v 1) (m_int)) r_nil))))) r_nil)))
    (s_one (t_if (r_bcmp op2_lt (r_v 2) (m_bin op2_sub (r_v 3) (m_int))) (s_one (r_set 5 h (r_call h (C__law_book Z) (r_cons (PM.of_new (r_lst (r_cons (r_item h (r_v 1) (m_int)) (r_cons (m_bin op2_add (m_bin op2_add (m_slice (r_item h (r_v 1) (m_int)) o_none (o_some (r_v 2))) (r_tup (r_cons (r_item h (r_item h (r_v 1) (m_int)) (m_bin op2_add (r_v 2) (m_int))) (r_cons (r_item h (r_item h (r_v 1) (m_int)) (r_v 2)) r_nil)))) (m_slice (r_item h (r_v 1) (m_int)) (o_some (m_bin op2_add (r_v 2) (m_int))) o_none)) (r_cons (r_item h (r_v 1) (m_int)) r_nil))))) r_nil)))) (s_nil)))) (s_nil))
    (s_one (r_ret (m_and (r_eq h (eqs_ok Z) (r_call h (C__law_later Z) (r_cons (r_v 0) (r_cons (m_str) (r_cons (r_v 2) (r_cons (m_non) r_nil))))) (r_v 4)) (m_one (r_eq h (eqs_ok Z) (r_call h (C__law_later Z) (r_cons (r_v 0) (r_cons (m_str) (r_cons (r_v 2) (r_cons (m_non) r_nil))))) (r_v 5))))))))
theorem g__law_placed (Z : Zs mg w K) : mg "_law_placed" = some (.ref (He.ga K "_law_placed")) := Zh.glo Z 76
theorem C__law_placed (Z : Zs mg w K) : Cal P w K mg base (ct K) 20 "_law_placed" 3 fn__law_placed := (F__law_placed Z).cal (g__law_placed Z)
theorem pr_Book_prices (Z : Zs mg w K) : PropOf K (He.ga K "Book") "prices" (He.ma K (He.ga K "Book") "prices") (gAd "Book" "prices" K) := propB_ok (Zh.s Z |>.fact 77 (p := propB "Book" "prices"))
theorem at_prices_ok {X : Cx} (Z : Zs X.mg X.w X.K) : ∀ cid a, tab cid at_prices = some a → AtH X (ct X.K) 4 "prices" cid a := tab_cons (.prop fn_Book_prices (cls_Book Z) _ _ (pr_Book_prices Z) ((F_Book_prices Z).fnH (by decide))) (tab_nil)
theorem pr_Book_rules (Z : Zs mg w K) : PropOf K (He.ga K "Book") "rules" (He.ma K (He.ga K "Book") "rules") (gAd "Book" "rules" K) := propB_ok (Zh.s Z |>.fact 78 (p := propB "Book" "rules"))
theorem at_rules_ok {X : Cx} (Z : Zs X.mg X.w X.K) : ∀ cid a, tab cid at_rules = some a → AtH X (ct X.K) 4 "rules" cid a := tab_cons (.prop fn_Book_rules (cls_Book Z) _ _ (pr_Book_rules Z) ((F_Book_rules Z).fnH (by decide))) (tab_nil)
theorem pr_Book_chain (Z : Zs mg w K) : PropOf K (He.ga K "Book") "chain" (He.ma K (He.ga K "Book") "chain") (gAd "Book" "chain" K) := propB_ok (Zh.s Z |>.fact 79 (p := propB "Book" "chain"))
theorem at_chain_ok {X : Cx} (Z : Zs X.mg X.w X.K) : ∀ cid a, tab cid at_chain = some a → AtH X (ct X.K) 4 "chain" cid a := tab_cons (.prop fn_Book_chain (cls_Book Z) _ _ (pr_Book_chain Z) ((F_Book_chain Z).fnH (by decide))) (tab_nil)
theorem pr_Book_rings (Z : Zs mg w K) : PropOf K (He.ga K "Book") "rings" (He.ma K (He.ga K "Book") "rings") (gAd "Book" "rings" K) := propB_ok (Zh.s Z |>.fact 80 (p := propB "Book" "rings"))
theorem at_rings_ok {X : Cx} (Z : Zs X.mg X.w X.K) : ∀ cid a, tab cid at_rings = some a → AtH X (ct X.K) 4 "rings" cid a := tab_cons (.prop fn_Book_rings (cls_Book Z) _ _ (pr_Book_rings Z) ((F_Book_rings Z).fnH (by decide))) (tab_nil)
theorem pr_Book_asks (Z : Zs mg w K) : PropOf K (He.ga K "Book") "asks" (He.ma K (He.ga K "Book") "asks") (gAd "Book" "asks" K) := propB_ok (Zh.s Z |>.fact 81 (p := propB "Book" "asks"))
theorem at_asks_ok {X : Cx} (Z : Zs X.mg X.w X.K) : ∀ cid a, tab cid at_asks = some a → AtH X (ct X.K) 4 "asks" cid a := tab_cons (.prop fn_Book_asks (cls_Book Z) _ _ (pr_Book_asks Z) ((F_Book_asks Z).fnH (by decide))) (tab_nil)
theorem pr_Book_pays (Z : Zs mg w K) : PropOf K (He.ga K "Book") "pays" (He.ma K (He.ga K "Book") "pays") (gAd "Book" "pays" K) := propB_ok (Zh.s Z |>.fact 82 (p := propB "Book" "pays"))
theorem at_pays_ok {X : Cx} (Z : Zs X.mg X.w X.K) : ∀ cid a, tab cid at_pays = some a → AtH X (ct X.K) 4 "pays" cid a := tab_cons (.prop fn_Book_pays (cls_Book Z) _ _ (pr_Book_pays Z) ((F_Book_pays Z).fnH (by decide))) (tab_nil)
theorem pr_Book_pieces (Z : Zs mg w K) : PropOf K (He.ga K "Book") "pieces" (He.ma K (He.ga K "Book") "pieces") (gAd "Book" "pieces" K) := propB_ok (Zh.s Z |>.fact 83 (p := propB "Book" "pieces"))
theorem at_pieces_ok {X : Cx} (Z : Zs X.mg X.w X.K) : ∀ cid a, tab cid at_pieces = some a → AtH X (ct X.K) 4 "pieces" cid a := tab_cons (.prop fn_Book_pieces (cls_Book Z) _ _ (pr_Book_pieces Z) ((F_Book_pieces Z).fnH (by decide))) (tab_nil)
theorem mt_Book_goods (Z : Zs mg w K) : Meth K (He.ga K "Book") "goods" (He.ma K (He.ga K "Book") "goods") := He.meth_ok (Zh.s Z |>.fact 84 (p := (He.Fa.meth "Book" "goods").ok))
theorem me_goods_ok {X : Cx} (Z : Zs X.mg X.w X.K) : ∀ cid f, tab cid me_goods = some f → MeH X (ct X.K) 4 "goods" 0 cid f := tab_cons (⟨cls_Book Z, by show _ ∉ cflds.getD 6 []; decide, _, mt_Book_goods Z, (F_Book_goods Z).fnH (by decide)⟩) (tab_nil)
theorem F_law (Z : Zs mg w K) (hm : ∀ ns : List Int, ns.length ≤ 900 → ∃ e t, bd_law (lawE ["_law_script", "_law_d", "_law_lap", "_law_b", "_law_found", "_law_bad", "_law_told", "_law_c", "_law_k", "_law_value", "_law_due", "_law_at", "_law_part", "_law_some"]) (.lst ((randI ns 1).map D.int)) = .ok (.ret (.bl true)) e t) : ∃ fd, FunD K "law" "law" (defArgs sc_law) (defBody sc_law) (defScope sc_law) [] [] (He.ga K "law") fd ∧ FnOk P w K mg base (L2.CX P w) 22 (He.ga K "law") fd ["_law_script"] (spLaw K) :=
  law_run (N := ["_law_script", "_law_d", "_law_lap", "_law_b", "_law_found", "_law_bad", "_law_told", "_law_c", "_law_k", "_law_value", "_law_due", "_law_at", "_law_part", "_law_some"]) (ps := ["_law_script"]) (d := da_law) (salt := 1) (m := bd_law) (c := ct K) (k := 21) (te := fun _ => tLaw0 K 1) (Zh.s Z |>.def_ 41) ⟨rfl, rfl, rfl, by decide +kernel, rfl, by decide +kernel, by decide +kernel⟩ rfl (by decide) rfl (fun cdv A outer s H E h => r_law0 h (F__law_random Z) (g__law_random Z)) (fun E σ H Q a ns h hs hl q => law0_read h hs hl q) (fun cdv A outer s H E n h =>
    t_seq (r_for h (r_range (b_range Z) (m_int)) (r_g1 2 h) (t_seq (r_set 3 h (r_callT h (C__law_drawn Z) (r_ot 1 r_nilO)))
    (t_seq (t_if (r_beq h no_eq (r_callT h (C__law_below Z) (r_ot 1 (r_ov (m_int) r_nilO))) (m_int)) (s_one (r_set 3 h (r_callT h (C__law_spoiled Z) (r_ot 1 (r_ov (r_v 3) r_nilO))))) (s_nil))
    (t_seq (r_set 4 h (r_call h (C__law_made Z) (r_cons (r_v 3) r_nil)))
    (t_seq (t_if (b_notN (r_call h (C__law_wrong Z) (r_cons (r_v 3) r_nil))) (s_one (t_if (b_not (r_b (r_call h (C__law_equal Z) (r_cons (r_v 4) (r_cons (r_call h (C__law_wrong Z) (r_cons (r_v 3) r_nil)) r_nil))))) (s_one (r_ret (m_bl))) (s_nil))) (t_seq (r_set 6 h (PM.of_new (r_lst (r_cons (r_attr h (at_prices_ok Z) (r_v 4)) (r_cons (r_attr h (at_rules_ok Z) (r_v 4)) (r_cons (r_attr h (at_chain_ok Z) (r_v 4)) (r_cons (r_attr h (at_rings_ok Z) (r_v 4)) (r_cons (r_attr h (at_asks_ok Z) (r_v 4)) r_nil))))))))
    (t_seq (r_set 6 h (m_bin op2_add (r_v 6) (PM.of_new (r_lst (r_cons (r_attr h (at_pays_ok Z) (r_v 4)) (r_cons (r_attr h (at_pieces_ok Z) (r_v 4)) (r_cons (r_meth h (me_goods_ok Z) (r_v 4) r_nil) r_nil)))))))
    (t_seq (t_if (b_not (r_b (r_call h (C__law_equal Z) (r_cons (r_v 6) (r_cons (m_bin op2_add (m_bin op2_add (m_slice (r_v 3) o_none (o_some (m_int))) (r_item h (r_v 3) (m_int))) (PM.of_new (r_lst (r_cons (PM.of_new (r_nblt bltN_sorted (b_sorted Z) PyProof.Rows.boot_sorted (r_cons (PM.of_new (r_nbltT (bltN_list h.calm) (b_list Z) PyProof.Rows.boot_list (r_cons (r_item h (r_v 3) (m_int)) r_nil))) r_nil))) r_nil)))) r_nil))))) (s_one (r_ret (m_bl))) (s_nil))
    (t_seq (r_set 7 h (r_callT h (C__law_drawn Z) (r_ot 1 r_nilO)))
    (t_seq (t_if (PW.pt (w_or (r_bne h (eqs_ok Z) (r_eq h (eqs_ok Z) (r_v 4) (r_call h (C__law_book Z) (r_cons (r_v 7) r_nil))) (r_eq h (eqs_ok Z) (r_v 3) (r_v 7))) (b_or1 (r_beq h (eqs_ok Z) (r_v 4) (r_v 3))))) (s_one (r_ret (m_bl))) (s_nil))
    (t_seq (r_set 8 h (r_callT h (C__law_below Z) (r_ot 1 (r_ov (m_int) r_nilO))))
    (t_seq (r_put (r_item h (r_call0 h (C__law_parts Z)) (r_v 8)) (r_g2 12 13 h))
    (t_seq (r_set 9 h (r_callT h (C__law_pick Z) (r_ot 1 (r_ov (m_bin op2_add (r_v 13) (PM.of_new (r_lst (r_cons (m_str) (r_cons (m_non) (r_cons (m_int) r_nil)))))) r_nilO))))
    (t_seq (r_set 10 h (PM.of_new (r_lst (r_cons (m_str) (r_cons (r_v 12) r_nil)))))
    (t_seq (t_if (r_bcmp (op2_in h.room.units) (r_v 9) (r_v 13)) (s_one (r_set 10 h (r_call h (C__law_book Z) (r_cons (PM.of_new (r_lst (r_cons (r_item h (r_v 3) (m_int)) (r_cons (r_item h (r_v 3) (m_int)) (r_cons (m_bin op2_add (m_bin op2_add (m_slice (r_item h (r_v 3) (m_int)) o_none (o_some (r_v 8))) (PM.of_new (r_lst (r_cons (r_v 9) r_nil)))) (m_slice (r_item h (r_v 3) (m_int)) (o_some (m_bin op2_add (r_v 8) (m_int))) o_none)) r_nil))))) r_nil)))) (s_nil))
    (t_seq (t_if (r_bne h (eqs_ok Z) (r_call h (C__law_later Z) (r_cons (r_v 4) (r_cons (m_str) (r_cons (r_v 12) (r_cons (r_v 9) r_nil))))) (r_v 10)) (s_one (r_ret (m_bl))) (s_nil))
    (t_seq (t_if (r_bne h (eqs_ok Z) (r_call h (C__law_later Z) (r_cons (r_v 4) (r_cons (m_str) (r_cons (m_str) (r_cons (r_v 9) r_nil))))) (PM.of_new (r_lst (r_cons (m_str) (r_cons (m_str) r_nil))))) (s_one (r_ret (m_bl))) (s_nil))
    (t_seq (r_set 11 h (r_callT h (C__law_pick Z) (r_ot 1 (r_ov (PM.of_new (r_lst (r_cons (r_callT h (C__law_below Z) (r_ot 1 (r_ov (r_blt blt_len (b_len Z) boot_len (r_cons (r_item h (r_v 3) (m_int)) r_nil)) r_nilO))) (r_cons (m_neg (m_int)) (r_cons (r_blt blt_len (b_len Z) boot_len (r_cons (r_item h (r_v 3) (m_int)) r_nil)) (r_cons (m_non) (r_cons (m_bl) r_nil))))))) r_nilO))))
    (s_one (t_if (b_not (r_b (r_call h (C__law_placed Z) (r_cons (r_v 4) (r_cons (r_v 3) (r_cons (r_v 11) r_nil)))))) (s_one (r_ret (m_bl))) (s_nil)))))))))))))))))
    (t_seq (r_set 5 h (r_callT h (C__law_pick Z) (r_ot 1 (r_ov (PM.of_new (r_lst (r_cons (PM.of_new (n_dic (.cons (fun n => m_str) (fun n => m_int) (.nil)) rfl rfl (by simp) (by decide))) (r_cons (PM.of_new (n_dic (.cons (fun n => m_str) (fun n => m_int) (.cons (fun n => m_str) (fun n => m_int) (.nil))) rfl rfl (by simp) (by decide))) (r_cons (PM.of_new (n_dic (.cons (fun n => m_str) (fun n => m_int) (.cons (fun n => m_str) (fun n => m_int) (.nil))) rfl rfl (by simp) (by decide))) (r_cons (PM.of_new (n_dic (.cons (fun n => m_str) (fun n => m_int) (.cons (fun n => m_str) (fun n => m_bl) (.nil))) rfl rfl (by simp) (by decide))) (r_cons (m_non) (r_cons (PM.of_new (r_lst (r_cons (r_tup (r_cons (m_str) (r_cons (m_int) r_nil))) r_nil))) r_nil)))))))) r_nilO))))
    (s_one (t_if (r_bne h (eqs_ok Z) (r_call h (C__law_made Z) (r_cons (PM.of_new (r_lst (r_cons (r_v 5) (r_cons (r_tup r_nil) (r_cons (PM.of_new (r_lst (r_cons (m_int) (r_cons (m_str) (r_cons (m_str) (r_cons (m_str) (r_cons (m_str) r_nil))))))) r_nil))))) r_nil)) (PM.of_new (r_lst (r_cons (m_str) r_nil)))) (s_one (r_ret (m_bl))) (s_nil)))))))))
    (s_one (r_ret (m_bl)))) hm
theorem g_law (Z : Zs mg w K) : mg "law" = some (.ref (He.ga K "law")) := Zh.glo Z 85
end
end Gk01
set_option linter.all false
set_option Elab.async false
/-! PLib: reckoning with the plain combinators: equations for simp, and what holds of an outcome. -/
namespace DI
open PySem (Str)
/-- what depends on this is not looked into by simp -/
class Tag {β : Sort u} (f : β) : Type
instance {β : Sort u} (f : β) : Tag f := ⟨⟩
def R.bnd {α β : Type} (x : R α) (f : α → Env → D → R β) [Tag f] : R β := x.bind f
def R.onl {α β : Type} (x : R α) (f : α → D → R β) [Tag f] : R β := x.only f
@[simp] theorem R.bnd_ok {α β : Type} (a : α) (e : Env) (t : D) (f : α → Env → D → R β) [Tag f] : (R.ok a e t).bnd f = f a e t := rfl
@[simp] theorem R.bnd_err {α β : Type} (c : Nat) (fs : List D) (f : α → Env → D → R β) [Tag f] : (R.err c fs : R α).bnd f = .err c fs := rfl
@[simp] theorem R.bnd_stuck {α β : Type} (f : α → Env → D → R β) [Tag f] : (R.stuck : R α).bnd f = .stuck := rfl
@[simp] theorem R.onl_ok {α β : Type} (a : α) (e : Env) (t : D) (f : α → D → R β) [Tag f] : (R.ok a e t).onl f = f a t := rfl
@[simp] theorem R.onl_err {α β : Type} (c : Nat) (fs : List D) (f : α → D → R β) [Tag f] : (R.err c fs : R α).onl f = .stuck := rfl
@[simp] theorem R.onl_stuck {α β : Type} (f : α → D → R β) [Tag f] : (R.stuck : R α).onl f = .stuck := rfl
@[simp] theorem bnd_bnd {α β γ : Type} (x : R α) (f : α → Env → D → R β) [Tag f] (g : β → Env → D → R γ) [Tag g] : (x.bnd f).bnd g = x.bnd fun a e t => (f a e t).bnd g := by cases x <;> rfl
@[simp] theorem asB_bnd {α : Type} (x : R α) (f : α → Env → D → R D) [Tag f] : asB (x.bnd f) = x.bnd fun a e t => asB (f a e t) := by cases x <;> rfl
@[simp] theorem bnd_ite {α β : Type} (c : Prop) [Decidable c] (x y : R α) (f : α → Env → D → R β) [Tag f] : (if c then x else y).bnd f = if c then x.bnd f else y.bnd f := by split <;> rfl
@[simp] theorem onl_ite {α β : Type} (c : Prop) [Decidable c] (x y : R α) (f : α → D → R β) [Tag f] : (if c then x else y).onl f = if c then x.onl f else y.onl f := by split <;> rfl
@[simp] theorem asB_ite (c : Prop) [Decidable c] (x y : R D) : asB (if c then x else y) = if c then asB x else asB y := by split <;> rfl
@[simp] theorem ite_and_bl (c : Prop) [Decidable c] (b : Bool) (e : Env) (t : D) : (if c then R.ok (D.bl b) e t else R.ok (D.bl false) e t) = R.ok (D.bl (decide c && b)) e t := by
  by_cases h : c <;> simp [h]
@[simp] theorem ite_or_bl (c : Prop) [Decidable c] (b : Bool) (e : Env) (t : D) : (if c then R.ok (D.bl true) e t else R.ok (D.bl b) e t) = R.ok (D.bl (decide c || b)) e t := by
  by_cases h : c <;> simp [h]
@[simp] theorem ite_and_b (c : Prop) [Decidable c] (b : Bool) (e : Env) (t : D) : (if c then R.ok b e t else R.ok false e t) = R.ok (decide c && b) e t := by
  by_cases h : c <;> simp [h]
@[simp] theorem ite_or_b (c : Prop) [Decidable c] (b : Bool) (e : Env) (t : D) : (if c then R.ok true e t else R.ok b e t) = R.ok (decide c || b) e t := by
  by_cases h : c <;> simp [h]

/-- not opened by the kernel -/
noncomputable def opq {α : Type} (a : α) : α := Classical.choose (⟨a, rfl⟩ : ∃ b, b = a)
theorem opq_eq {α : Type} (a : α) : opq a = a := Classical.choose_spec (⟨a, rfl⟩ : ∃ b, b = a)
/-! ### slots -/
def slotOf : D → Slot
  | .trk => .trk
  | d => .val d
@[simp] theorem slotOf_trk : slotOf .trk = .trk := rfl
@[simp] theorem slotOf_non : slotOf .non = .val .non := rfl
@[simp] theorem slotOf_bl (b : Bool) : slotOf (.bl b) = .val (.bl b) := rfl
@[simp] theorem slotOf_int (b : Int) : slotOf (.int b) = .val (.int b) := rfl
@[simp] theorem slotOf_str (b : Str) : slotOf (.str b) = .val (.str b) := rfl
@[simp] theorem slotOf_lst (b : List D) : slotOf (.lst b) = .val (.lst b) := rfl
@[simp] theorem slotOf_tup (b : List D) : slotOf (.tup b) = .val (.tup b) := rfl
@[simp] theorem slotOf_dic (b : List (D × D)) : slotOf (.dic b) = .val (.dic b) := rfl
@[simp] theorem slotOf_kdic (b : List (D × D)) : slotOf (.kdic b) = .val (.kdic b) := rfl
@[simp] theorem slotOf_obj (c : Nat) (b : List D) : slotOf (.obj c b) = .val (.obj c b) := rfl
@[simp] theorem slotOf_of {d : D} (h : d ≠ .trk) : slotOf d = .val d := by cases d <;> first | rfl | exact absurd rfl h
@[simp] theorem slotsOf_nil : slotsOf [] = [] := rfl
@[simp] theorem slotsOf_cons (d : D) (ds : List D) : slotsOf (d :: ds) = slotOf d :: slotsOf ds := rfl
/-! ### runs -/
def R.fin : R Flow → Out
  | .ok .next _ t => .ok .non t
  | .ok (.ret d) _ t => .ok d t
  | .err c fs => .err c fs
  | .stuck => .stuck
@[simp] theorem fin_next (e : Env) (t : D) : R.fin (.ok .next e t) = .ok .non t := rfl
@[simp] theorem fin_ret (d : D) (e : Env) (t : D) : R.fin (.ok (.ret d) e t) = .ok d t := rfl
@[simp] theorem fin_err (c : Nat) (fs : List D) : R.fin (.err c fs) = .err c fs := rfl
@[simp] theorem fin_stuck : R.fin .stuck = .stuck := rfl
@[simp] theorem fin_ite (c : Prop) [Decidable c] (x y : R Flow) : R.fin (if c then x else y) = if c then R.fin x else R.fin y := by split <;> rfl
@[simp] theorem run_eq (n : Nat) (body : MS) (ds : List D) (t : D) : run n body ds t = R.fin (body (slotsOf ds ++ List.replicate (n - ds.length) .none) t) := by
  unfold run
  cases body (slotsOf ds ++ List.replicate (n - ds.length) .none) t with
  | ok f e t => cases f <;> rfl
  | err _ _ => rfl
  | stuck => rfl
/-! ### expressions -/
section
variable (e : Env) (t : D)
@[simp] theorem mVar_eq (i : Nat) : mVar i e t = match e[i]? with
  | some (.val d) => .ok d e t
  | some (.own d) => .ok d (e.set i (.val d)) t
  | _ => .stuck := rfl
@[simp] theorem mConst_eq (d : D) : mConst d e t = .ok d e t := rfl
@[simp] theorem mArgs_nil : mArgs [] e t = .ok [] e t := rfl
@[simp] theorem mArgs_cons (m : ME) (r : List ME) : mArgs (m :: r) e t = (m e t).bnd fun d e t => (mArgs r e t).bnd fun ds e t => .ok (d :: ds) e t := rfl
@[simp] theorem m1_eq (p : D → Option D) (a : ME) : m1 p a e t = (a e t).bnd fun x e t => R.of (p x) e t := rfl
@[simp] theorem m2_eq (p : D → D → Option D) (a b : ME) : m2 p a b e t = (a e t).bnd fun x e t => (b e t).bnd fun y e t => R.of (p x y) e t := rfl
@[simp] theorem mN_eq (p : List D → Option D) (as : List ME) : mN p as e t = (mArgs as e t).bnd fun ds e t => R.of (p ds) e t := rfl
@[simp] theorem mAnd_eq (a b : ME) : mAnd a b e t = (asB (a e t)).bnd fun c e t => if c then (asB (b e t)).bnd fun c e t => .ok (.bl c) e t else .ok (.bl false) e t := rfl
@[simp] theorem mOr_eq (a b : ME) : mOr a b e t = (asB (a e t)).bnd fun c e t => if c then .ok (.bl true) e t else (asB (b e t)).bnd fun c e t => .ok (.bl c) e t := rfl
@[simp] theorem mNot_eq (a : ME) : mNot a e t = (asB (a e t)).bnd fun c e t => .ok (.bl (!c)) e t := rfl
@[simp] theorem mIf_eq (c a b : ME) : mIf c a b e t = (asB (c e t)).bnd fun c e t => if c then a e t else b e t := rfl
@[simp] theorem mChain_eq (p q : D → D → Option D) (a b c : ME) : mChain p q a b c e t = (a e t).bnd fun x e t => (b e t).bnd fun y e t => (asB (R.of (p x y) e t)).bnd fun k e t =>
  if k then (c e t).bnd fun z e t => R.of (q y z) e t else .ok (.bl false) e t := rfl
@[simp] theorem mCall_eq (f : Fn) (as : List ME) : mCall f as e t = (mArgs as e t).bnd fun ds e t => pureOut (f ds .non) e t := rfl
@[simp] theorem pureOut_ite (c : Prop) [Decidable c] (x y : Out) : pureOut (if c then x else y) e t = if c then pureOut x e t else pureOut y e t := by split <;> rfl
@[simp] theorem mArgsO_nil : mArgsO [] e t = .ok [] e t := rfl
@[simp] theorem mArgsO_v (m : ME) (r : List Arg) : mArgsO (.v m :: r) e t = (m e t).bnd fun d e t => (mArgsO r e t).bnd fun ds e t => .ok (d :: ds) e t := rfl
@[simp] theorem mArgsO_t (i : Nat) (r : List Arg) : mArgsO (.t i :: r) e t = match e[i]? with
    | some .trk => (mArgsO r e t).bnd fun ds e t => .ok (.trk :: ds) e t
    | _ => .stuck := rfl
/-- a call with the followed thing -/
def callT (f : Fn) (ds : List D) (e : Env) (t : D) : R D := match t with
    | .non => .stuck
    | t => R.outT (f ds t) e
@[simp] theorem mCallT_eq (f : Fn) (as : List Arg) : mCallT f as e t = (mArgsO as e t).bnd fun ds e t => callT f ds e t := rfl
@[simp] theorem mNew_eq (c : Nat) (f : Fn) (as : List ME) : mNew c f as e t = (mArgs as e t).bnd fun ds e t => pureOut (initOut c f ds) e t := rfl
@[simp] theorem tabn_nil {α : Type} (c : Nat) : tab c ([] : List (Nat × α)) = none := rfl
@[simp] theorem tabn_cons {α : Type} (c k : Nat) (a : α) (r : List (Nat × α)) : tab c ((k, a) :: r) = if k = c then some a else tab c r := rfl
@[simp] theorem mAttr_eq (ks : List (Nat × AttrK)) (a : ME) : mAttr ks a e t = (a e t).bnd fun x e t => match x with
  | .obj c fs => (match tab c ks with
    | some (.fld j) => R.of (fs[j]?) e t
    | some (.prop f) => (match f [.obj c fs] .non with
      | .ok d _ => .ok d e t
      | _ => .stuck)
    | none => .stuck)
  | _ => .stuck := rfl
@[simp] theorem mAttrT_eq (i : Nat) (ks : List (Nat × AttrK)) : mAttrT i ks e t = match e[i]? with
  | some .trk => (match t with
    | .obj c fs => (match tab c ks with
      | some (.fld j) => R.of (fs[j]?) e (.obj c fs)
      | some (.prop _) => .stuck
      | none => .stuck)
    | _ => .stuck)
  | _ => .stuck := rfl
@[simp] theorem mMeth_eq (ks : List (Nat × Fn)) (a : ME) (as : List ME) : mMeth ks a as e t = (a e t).bnd fun x e t => match x with
  | .obj c fs => (match tab c ks with
    | some f => (mArgs as e t).bnd fun ds e t => pureOut (f (.obj c fs :: ds) .non) e t
    | none => .stuck)
  | _ => .stuck := rfl
@[simp] theorem mMethT_eq (i : Nat) (ks : List (Nat × Fn)) (as : List ME) : mMethT i ks as e t = match e[i]? with
  | some .trk => (match t with
    | .obj c fs => (match tab c ks with
      | some f => (mArgs as e (.obj c fs)).bnd fun ds e t => (match t with
        | .obj c' fs' => if c' = c then R.outT (f (.trk :: ds) (.obj c' fs')) e else .stuck
        | _ => .stuck)
      | none => .stuck)
    | _ => .stuck)
  | _ => .stuck := rfl
@[simp] theorem mEq_eq (ks : List (Nat × Fn)) (a b : ME) : mEq ks a b e t = (a e t).bnd fun x e t => (b e t).bnd fun y e t => pureOut (eqOut ks x y) e t := rfl
@[simp] theorem mNe_eq (ks : List (Nat × Fn)) (a b : ME) : mNe ks a b e t = (a e t).bnd fun x e t => (b e t).bnd fun y e t => (asB (pureOut (neOut ks x y) e t)).bnd fun k e t => .ok (.bl (!k)) e t := rfl
@[simp] theorem mTup_eq (as : List ME) : mTup as e t = (mArgs as e t).bnd fun ds e t => .ok (.tup ds) e t := rfl
@[simp] theorem mLst_eq (as : List ME) : mLst as e t = (mArgs as e t).bnd fun ds e t => .ok (.lst ds) e t := rfl
@[simp] theorem iSeq_eq (a : ME) : iSeq a e t = (a e t).bnd fun x e t => R.of (seqOf x) e t := rfl
@[simp] theorem iZip_eq (a b : ME) : iZip a b e t = (a e t).bnd fun x e t => (b e t).bnd fun y e t => match seqR x, seqR y with
  | some xs, some ys => .ok (zipD xs ys) e t
  | _, _ => .stuck := rfl
@[simp] theorem iEnum_eq (a : ME) : iEnum a e t = (a e t).bnd fun x e t => match seqR x with
  | some xs => .ok (enumD 0 xs) e t
  | none => .stuck := rfl
def rangeD (n : Int) : List D := (List.range n.toNat).map fun k => .int (k : Nat)
def rangeD2 (i j : Int) : List D := (List.range (j - i).toNat).map fun k => .int (i + (k : Nat))
noncomputable def rangeR (n : Int) (e : Env) (t : D) : R (List D) := opq (if n < 4611686018427387904 then (if -4611686018427387904 ≤ n then .ok (rangeD n) e t else .stuck) else .stuck)
noncomputable def rangeR2 (i j : Int) (e : Env) (t : D) : R (List D) := opq (if (-4611686018427387904 ≤ i ∧ i < 4611686018427387904) ∧ (-4611686018427387904 ≤ j ∧ j < 4611686018427387904) then .ok (rangeD2 i j) e t else .stuck)
@[simp] theorem iRange_eq (a : ME) : iRange a e t = (a e t).bnd fun x e t => match x with
  | .int n => rangeR n e t
  | _ => .stuck := by
  unfold iRange R.bnd
  congr 1
  funext x e t
  cases x <;> first | rfl | exact (opq_eq _).symm
@[simp] theorem iRange2_eq (a b : ME) : iRange2 a b e t = (a e t).bnd fun x e t => (b e t).bnd fun y e t => match x, y with
  | .int i, .int j => rangeR2 i j e t
  | _, _ => .stuck := by
  unfold iRange2 R.bnd
  congr 1
  funext x e t
  congr 1
  funext y e t
  cases x <;> first | rfl | (cases y <;> first | rfl | exact (opq_eq _).symm)
theorem rangeR_ok {n : Int} (h1 : -1000000000 ≤ n) (h2 : n < 1000000000) : rangeR n e t = .ok (rangeD n) e t := by
  unfold rangeR
  rw [opq_eq, if_pos (by omega), if_pos (by omega)]
theorem rangeR2_ok {i j : Int} (h1 : -1000000000 ≤ i) (h2 : i < 1000000000) (h3 : -1000000000 ≤ j) (h4 : j < 1000000000) : rangeR2 i j e t = .ok (rangeD2 i j) e t := by
  unfold rangeR2
  rw [opq_eq, if_pos (by omega)]
@[simp] theorem rangeD_length (n : Int) : (rangeD n).length = n.toNat := by unfold rangeD; simp
def rangeN (n : Nat) : List D := (List.range n).map fun k => .int (k : Nat)
@[simp] theorem rangeD_nat (n : Nat) : rangeD (n : Int) = rangeN n := rfl
theorem rangeR_lit (n : Nat) (h : n < 100000) : rangeR (OfNat.ofNat n : Int) e t = .ok (rangeN n) e t := by
  rw [rangeR_ok _ _ (by show (-1000000000 : Int) ≤ (n : Int); omega) (by show (n : Int) < 1000000000; omega)]
  rfl
@[simp] theorem rangeR_0 : rangeR 0 e t = .ok (rangeN 0) e t := rangeR_lit e t 0 (by decide)
@[simp] theorem rangeR_1 : rangeR 1 e t = .ok (rangeN 1) e t := rangeR_lit e t 1 (by decide)
@[simp] theorem rangeR_2 : rangeR 2 e t = .ok (rangeN 2) e t := rangeR_lit e t 2 (by decide)
@[simp] theorem rangeR_3 : rangeR 3 e t = .ok (rangeN 3) e t := rangeR_lit e t 3 (by decide)
@[simp] theorem rangeR_4 : rangeR 4 e t = .ok (rangeN 4) e t := rangeR_lit e t 4 (by decide)
@[simp] theorem rangeR_5 : rangeR 5 e t = .ok (rangeN 5) e t := rangeR_lit e t 5 (by decide)
@[simp] theorem rangeR_6 : rangeR 6 e t = .ok (rangeN 6) e t := rangeR_lit e t 6 (by decide)
@[simp] theorem rangeR_8 : rangeR 8 e t = .ok (rangeN 8) e t := rangeR_lit e t 8 (by decide)
@[simp] theorem rangeR_9 : rangeR 9 e t = .ok (rangeN 9) e t := rangeR_lit e t 9 (by decide)
@[simp] theorem rangeR_10 : rangeR 10 e t = .ok (rangeN 10) e t := rangeR_lit e t 10 (by decide)
@[simp] theorem rangeR_12 : rangeR 12 e t = .ok (rangeN 12) e t := rangeR_lit e t 12 (by decide)
@[simp] theorem rangeR_17 : rangeR 17 e t = .ok (rangeN 17) e t := rangeR_lit e t 17 (by decide)
@[simp] theorem rangeR_25 : rangeR 25 e t = .ok (rangeN 25) e t := rangeR_lit e t 25 (by decide)
@[simp] theorem rangeN_0 : rangeN 0 = [] := rfl
@[simp] theorem rangeN_1 : rangeN 1 = [.int 0] := rfl
@[simp] theorem rangeN_2 : rangeN 2 = [.int 0, .int 1] := rfl
@[simp] theorem rangeN_3 : rangeN 3 = [.int 0, .int 1, .int 2] := rfl
@[simp] theorem rangeN_4 : rangeN 4 = [.int 0, .int 1, .int 2, .int 3] := rfl
@[simp] theorem rangeN_5 : rangeN 5 = [.int 0, .int 1, .int 2, .int 3, .int 4] := rfl
@[simp] theorem rangeN_6 : rangeN 6 = [.int 0, .int 1, .int 2, .int 3, .int 4, .int 5] := rfl
theorem rangeN_mem {n : Nat} {d : D} (h : d ∈ rangeN n) : ∃ k : Nat, d = .int k ∧ k < n := by
  unfold rangeN at h
  obtain ⟨k, hk, rfl⟩ := List.mem_map.mp h
  exact ⟨k, rfl, List.mem_range.mp hk⟩
@[simp] theorem rangeN_length (n : Nat) : (rangeN n).length = n := by unfold rangeN; simp
@[simp] theorem mPart_none : mPart none e t = .ok none e t := rfl
@[simp] theorem mPart_some (m : ME) : mPart (some m) e t = (m e t).bnd fun d e t => match d with
    | .int i => .ok (some i) e t
    | _ => .stuck := rfl
@[simp] theorem mSlice_eq (a : ME) (lo hi : Option ME) : mSlice a lo hi e t = (a e t).bnd fun x e t => (mPart lo e t).bnd fun i e t => (mPart hi e t).bnd fun j e t => R.of (pSlice x i j) e t := rfl
/-! ### comprehensions -/
@[simp] theorem compLoop_nil {α : Type} (g : Tgt) (c : Option ME) (k : α → Env → D → R α) (a : α) : compLoop g c k e [] a t = .ok a e t := rfl
@[simp] theorem compLoop_cons {α : Type} (g : Tgt) (c : Option ME) (k : α → Env → D → R α) (d : D) (r : List D) (a : α) : compLoop g c k e (d :: r) a t = (compTurn g c k a d e t).onl fun a t => compLoop g c k e r a t := rfl
@[simp] theorem compTurn_none {α : Type} (g : Tgt) (k : α → Env → D → R α) (a : α) (d : D) : compTurn g none k a d e t = match g.put d e with
  | none => .stuck
  | some e1 => k a e1 t := rfl
@[simp] theorem compTurn_some {α : Type} (g : Tgt) (c : ME) (k : α → Env → D → R α) (a : α) (d : D) : compTurn g (some c) k a d e t = match g.put d e with
  | none => .stuck
  | some e1 => (asB (c e1 t)).bnd fun b e2 t2 => if b then k a e2 t2 else .ok a e2 t2 := rfl
@[simp] theorem pushL_eq (m : ME) (a : List D) : pushL m a e t = (m e t).bnd fun d e t => if a.length < lim then .ok (a ++ [d]) e t else .stuck := rfl
@[simp] theorem mComp_eq (vs : List Nat) (it : ML) (g : Tgt) (c : Option ME) (m : ME) : mComp vs it g c m e t = (it e t).bnd fun ds e1 t1 => (compLoop g c (pushL m) (clearE vs (hideE e1)) ds [] t1).onl fun a t2 => .ok (.lst a) e1 t2 := rfl
@[simp] theorem inner_eq (vs1 : List Nat) (it1 : ML) (g1 : Tgt) (c1 : Option ME) (m : ME) (a : List D) : inner vs1 it1 g1 c1 m a e t = (it1 e t).bnd fun ds1 e1 t1 => compLoop g1 c1 (pushL m) (clearE vs1 e1) ds1 a t1 := rfl
@[simp] theorem mComp2_eq (vs vs1 : List Nat) (it : ML) (g : Tgt) (c : Option ME) (it1 : ML) (g1 : Tgt) (c1 : Option ME) (m : ME) : mComp2 vs vs1 it g c it1 g1 c1 m e t = (it e t).bnd fun ds e1 t1 =>
  (compLoop g c (inner vs1 it1 g1 c1 m) (clearE vs (hideE e1)) ds [] t1).onl fun a t2 => .ok (.lst a) e1 t2 := rfl
@[simp] theorem pushK_eq (mk m : ME) (a : List (D × D)) : pushK mk m a e t = (mk e t).bnd fun k e t => (m e t).bnd fun d e t => if isKey k && decide (a.length < lim) then .ok (dput k d a) e t else .stuck := rfl
@[simp] theorem mDComp_eq (vs : List Nat) (it : ML) (g : Tgt) (c : Option ME) (mk m : ME) : mDComp vs it g c mk m e t = (it e t).bnd fun ds e1 t1 => (compLoop g c (pushK mk m) (clearE vs (hideE e1)) ds [] t1).onl fun a t2 => .ok (.dic a) e1 t2 := rfl
@[simp] theorem mPairs_nil : mPairs [] e t = .ok [] e t := rfl
@[simp] theorem mPairs_cons (mk mv : ME) (r : List (ME × ME)) : mPairs ((mk, mv) :: r) e t = (mk e t).bnd fun k e t => (mv e t).bnd fun d e t => (mPairs r e t).bnd fun ps e t => if isKey k then .ok ((k, d) :: ps) e t else .stuck := rfl
@[simp] theorem mDic_eq (as : List (ME × ME)) : mDic as e t = (mPairs as (hideE e) t).onl fun kvs t2 => .ok (.dic (dmerge [] kvs)) e t2 := rfl
/-! ### statements -/
@[simp] theorem sPass_eq : sPass e t = .ok .next e t := rfl
@[simp] theorem sSeq_eq (a b : MS) : sSeq a b e t = (a e t).bnd fun f e t => match f with
  | .next => b e t
  | .ret d => .ok (.ret d) e t := rfl
@[simp] theorem sExpr_eq (m : ME) : sExpr m e t = (m e t).bnd fun _ e t => .ok .next e t := rfl
@[simp] theorem sRet_eq (m : ME) : sRet m e t = (m e t).bnd fun d e t => .ok (.ret d) e t := rfl
@[simp] theorem sSet_eq (i : Nat) (m : ME) : sSet i m e t = (m e t).bnd fun d e t => .ok .next (e.set i (.val d)) t := rfl
@[simp] theorem sOwn_eq (i : Nat) (m : ME) : sOwn i m e t = (m e t).bnd fun d e t => .ok .next (e.set i (.own d)) t := rfl
@[simp] theorem sPut_eq (g : Tgt) (m : ME) : sPut g m e t = (m e t).bnd fun d e t => match g.put d e with
  | some e => .ok .next e t
  | none => .stuck := rfl
@[simp] theorem sFld_eq (i : Nat) (ks : List (Nat × Nat)) (m : ME) : sFld i ks m e t = (m e t).bnd fun d e t => match e[i]?, t with
  | some .trk, .obj c fs => (match tab c ks with
    | some j => if j < fs.length then .ok .next e (.obj c (fs.set j d)) else if j = fs.length then .ok .next e (.obj c (fs ++ [d])) else .stuck
    | none => .stuck)
  | _, _ => .stuck := rfl
@[simp] theorem sApp_eq (i : Nat) (m : ME) : sApp i m e t = match e[i]? with
  | some (.own (.lst _)) => (m e t).bnd fun d e t => match e[i]? with
    | some (.own (.lst xs)) => if xs.length < lim then .ok .next (e.set i (.own (.lst (xs ++ [d])))) t else .stuck
    | _ => .stuck
  | _ => .stuck := rfl
@[simp] theorem sExt_eq (i : Nat) (m : ME) : sExt i m e t = match e[i]? with
  | some (.own (.lst _)) => (m e t).bnd fun d e t => match e[i]?, d with
    | some (.own (.lst xs)), .lst ys => if xs.length + ys.length ≤ lim then .ok .next (e.set i (.own (.lst (xs ++ ys)))) t else .stuck
    | _, _ => .stuck
  | _ => .stuck := rfl
@[simp] theorem sStore_eq (i : Nat) (mk mv : ME) : sStore i mk mv e t = (mv e t).bnd fun v e t => match e[i]? with
  | some (.own _) => (mk e t).bnd fun k e t => match e[i]? with
    | some (.own d) => (match putAt d k v with
      | some d' => .ok .next (e.set i (.own d')) t
      | none => .stuck)
    | _ => .stuck
  | _ => .stuck := rfl
@[simp] theorem sStoreT_eq (i : Nat) (mk mv : ME) : sStoreT i mk mv e t = (mv e t).bnd fun v e t => match e[i]? with
  | some .trk => (mk e t).bnd fun k e t => match e[i]?, t, k with
    | some .trk, .lst xs, .int j => if 0 ≤ j ∧ j.toNat < xs.length then .ok .next e (.lst (xs.set j.toNat v)) else .stuck
    | _, _, _ => .stuck
  | _ => .stuck := rfl
@[simp] theorem mPopT_eq (i : Nat) (mk : ME) : mPopT i mk e t = match e[i]?, t with
  | some .trk, .lst _ => (mk e t).bnd fun k e t => match e[i]?, t, k with
    | some .trk, .lst xs, .int j => if 0 ≤ j ∧ j < 1000 then (match xs[j.toNat]? with
      | some d => .ok d e (.lst (xs.eraseIdx j.toNat))
      | none => .stuck) else .stuck
    | _, _, _ => .stuck
  | _, _ => .stuck := rfl
@[simp] theorem mPkL_eq (f : D → D → Option D) (i : Nat) (m : ME) : mPkL f i m e t = match peek e t i with
  | some _ => (m e t).bnd fun y e t => (match peek e t i with
    | some d => R.prim (f d y) e t
    | none => .stuck)
  | none => .stuck := rfl
@[simp] theorem mPkR_eq (f : D → D → Option D) (m : ME) (i : Nat) : mPkR f m i e t = (m e t).bnd fun x e t => match peek e t i with
  | some d => R.prim (f x d) e t
  | none => .stuck := rfl
@[simp] theorem mPk1_eq (f : D → Option D) (i : Nat) : mPk1 f i e t = match peek e t i with
  | some d => R.prim (f d) e t
  | none => .stuck := rfl
@[simp] theorem R.prim_none : R.prim none e t = .stuck := rfl
@[simp] theorem R.prim_non : R.prim (some .non) e t = .ok .non e t := rfl
@[simp] theorem R.prim_int (i : Int) : R.prim (some (.int i)) e t = .ok (.int i) e t := rfl
@[simp] theorem R.prim_bl (i : Bool) : R.prim (some (.bl i)) e t = .ok (.bl i) e t := rfl
@[simp] theorem R.prim_str (i : Str) : R.prim (some (.str i)) e t = .ok (.str i) e t := rfl
@[simp] theorem sPar_eq (is : List Nat) (ms : List ME) : sPar is ms e t = (mArgs ms e t).bnd fun ds e t => match setAll is ds e with
  | some e => .ok .next e t
  | none => .stuck := rfl
@[simp] theorem sIf_eq (c : ME) (a b : MS) : sIf c a b e t = (asB (c e t)).bnd fun c e t => if c then a e t else b e t := rfl
@[simp] theorem forLoop_nil (g : Tgt) (body : MS) : forLoop g body [] e t = .ok .next e t := rfl
@[simp] theorem forLoop_cons (g : Tgt) (body : MS) (d : D) (r : List D) : forLoop g body (d :: r) e t = match g.put d e with
    | none => .stuck
    | some e => (body e t).bnd fun f e t => match f with
      | .next => forLoop g body r e t
      | .ret d => .ok (.ret d) e t := rfl
@[simp] theorem sFor_eq (g : Tgt) (it : ML) (body : MS) : sFor g it body e t = (it e t).bnd fun ds e t => forLoop g body ds e t := rfl
@[simp] theorem sRaise_eq (c : Nat) (as : List ME) : sRaise c as e t = (mArgs as e t).bnd fun ds _ _ => .err c ds := rfl
end
@[simp] theorem put_one (i : Nat) (d : D) (e : Env) : (Tgt.one i).put d e = some (e.set i (.val d)) := rfl
@[simp] theorem put_many_tup (is : List Nat) (ds : List D) (e : Env) : (Tgt.many is).put (.tup ds) e = setAll is ds e := rfl
@[simp] theorem put_many_lst (is : List Nat) (ds : List D) (e : Env) : (Tgt.many is).put (.lst ds) e = setAll is ds e := rfl
@[simp] theorem setAll_nil (e : Env) : setAll [] [] e = some e := rfl
@[simp] theorem setAll_cons (i : Nat) (is : List Nat) (d : D) (ds : List D) (e : Env) : setAll (i :: is) (d :: ds) e = setAll is ds (e.set i (.val d)) := rfl
@[simp] theorem hideE_nil : hideE [] = [] := rfl
def hide1 : Slot → Slot
  | .own _ => .none
  | s => s
@[simp] theorem hide1_own (d : D) : hide1 (.own d) = .none := rfl
@[simp] theorem hide1_val (d : D) : hide1 (.val d) = .val d := rfl
@[simp] theorem hide1_trk : hide1 .trk = .trk := rfl
@[simp] theorem hide1_none : hide1 .none = .none := rfl
@[simp] theorem hideE_cons (s : Slot) (e : Env) : hideE (s :: e) = hide1 s :: hideE e := rfl
@[simp] theorem clearE_nil (e : Env) : clearE [] e = e := rfl
@[simp] theorem clearE_cons (v : Nat) (vs : List Nat) (e : Env) : clearE (v :: vs) e = clearE vs (e.set v .none) := rfl
@[simp] theorem g1_one (p : D → Option D) (x : D) : g1 p [x] = p x := rfl
@[simp] theorem seqOf_lst (xs : List D) : seqOf (.lst xs) = some xs := rfl
@[simp] theorem seqOf_tup (xs : List D) : seqOf (.tup xs) = some xs := rfl
@[simp] theorem seqOf_dic (xs : List (D × D)) : seqOf (.dic xs) = some (xs.map (·.1)) := rfl
@[simp] theorem seqOf_kdic (xs : List (D × D)) : seqOf (.kdic xs) = some (xs.map (·.1)) := rfl
@[simp] theorem seqOf_str (s : Str) : seqOf (.str s) = some (signs s) := rfl
@[simp] theorem seqR_lst (xs : List D) : seqR (.lst xs) = some xs := rfl
@[simp] theorem seqR_tup (xs : List D) : seqR (.tup xs) = some xs := rfl
@[simp] theorem seqR_kdic (xs : List (D × D)) : seqR (.kdic xs) = some (xs.map (·.1)) := rfl
@[simp] theorem peek_def (e : Env) (t : D) (i : Nat) : peek e t i = match e[i]? with
  | some (.own (.lst xs)) => some (.lst xs)
  | some (.val d) => some d
  | some .trk => (match t with
    | .lst xs => some (.lst xs)
    | _ => none)
  | _ => none := rfl
theorem ofString_inj (a b : String) : (Str.ofString a = Str.ofString b) = (a = b) := by
  apply propext
  refine ⟨fun h => ?_, fun h => by rw [h]⟩
  rw [Str.ofString_eq_toList, Str.ofString_eq_toList] at h
  have h := congrArg (fun s => s.cps.toList) h
  have h : a.toList.map Char.toNat = b.toList.map Char.toNat := by simpa using h
  have h : a.toList = b.toList := by
    have inj : ∀ x y : Char, x.toNat = y.toNat → x = y := fun x y e => Char.ext (UInt32.toNat_inj.mp e)
    generalize a.toList = l at h
    generalize b.toList = m at h
    induction l generalizing m with
    | nil => cases m <;> first | rfl | simp at h
    | cons x l ih =>
      cases m with
      | nil => simp at h
      | cons y m =>
        simp only [List.map_cons, List.cons.injEq] at h
        rw [inj x y h.1, ih m h.2]
  exact String.toList_injective h
@[simp] theorem ofString_eq (a b : String) : (Str.ofString a = Str.ofString b) ↔ a = b := by rw [ofString_inj]
theorem nodup_inj {α : Type} {l : List α} (h : l.Nodup) {i j : Nat} (hi : i < l.length) (hj : j < l.length) (e : l[i] = l[j]) : i = j := by
  have h := List.pairwise_iff_getElem.mp h
  rcases Nat.lt_trichotomy i j with k | k | k
  · exact absurd e (h i j hi hj k)
  · exact k
  · exact absurd e.symm (h j i hj hi k)
@[simp] theorem lim_val : lim = 16777216 := rfl
/-! ### operators -/
@[simp] theorem pAdd_int (i j : Int) : pAdd (.int i) (.int j) = some (.int (i + j)) := rfl
@[simp] theorem pAdd_str (a b : Str) : pAdd (.str a) (.str b) = if a.length + b.length ≤ lim then some (.str (a ++ b)) else none := rfl
@[simp] theorem pAdd_lst (a b : List D) : pAdd (.lst a) (.lst b) = if a.length + b.length ≤ lim then some (.lst (a ++ b)) else none := rfl
@[simp] theorem pAdd_tup (a b : List D) : pAdd (.tup a) (.tup b) = if a.length + b.length ≤ lim then some (.tup (a ++ b)) else none := rfl
@[simp] theorem pSub_int (i j : Int) : pSub (.int i) (.int j) = some (.int (i - j)) := rfl
noncomputable def mulR (i j : Int) : Option D := opq (if (-18446744073709551616 < i ∧ i < 18446744073709551616) ∨ (-18446744073709551616 < j ∧ j < 18446744073709551616) then some (.int (i * j)) else none)
@[simp] theorem pMul_int (i j : Int) : pMul (.int i) (.int j) = mulR i j := (opq_eq _).symm
theorem mulR_ok {i j : Int} (h : (-1000000000 < i ∧ i < 1000000000) ∨ (-1000000000 < j ∧ j < 1000000000)) : mulR i j = some (.int (i * j)) := by
  unfold mulR
  rw [opq_eq, if_pos (by omega)]
noncomputable def fdivR (i j : Int) : Option D := opq (if 0 < j ∧ j < 1073741824 then some (.int (i / j)) else none)
@[simp] theorem pFdiv_int (i j : Int) : pFdiv (.int i) (.int j) = fdivR i j := (opq_eq _).symm
theorem fdivR_ok {i j : Int} (h : 0 < j) (h2 : j < 1073741824) : fdivR i j = some (.int (i / j)) := by
  unfold fdivR
  rw [opq_eq, if_pos ⟨h, h2⟩]
@[simp] theorem fdivR_64 (i : Int) : fdivR i 64 = some (.int (i / 64)) := fdivR_ok (by decide) (by decide)
@[simp] theorem mulR_48271 (i : Int) : mulR i 48271 = some (.int (i * 48271)) := mulR_ok (by omega)
@[simp] theorem pMod_int (i j : Int) : pMod (.int i) (.int j) = if 0 < j then some (.int (i % j)) else none := rfl
@[simp] theorem pNeg_int (i : Int) : pNeg (.int i) = some (.int (-i)) := rfl
@[simp] theorem pLt_int (i j : Int) : pLt (.int i) (.int j) = some (.bl (decide (i < j))) := rfl
@[simp] theorem pLe_int (i j : Int) : pLe (.int i) (.int j) = some (.bl (decide (i ≤ j))) := rfl
@[simp] theorem pGt_int (i j : Int) : pGt (.int i) (.int j) = some (.bl (decide (j < i))) := rfl
@[simp] theorem pGe_int (i j : Int) : pGe (.int i) (.int j) = some (.bl (decide (j ≤ i))) := rfl
@[simp] theorem pLt_str (a b : Str) : pLt (.str a) (.str b) = some (.bl (sLt a b)) := rfl
@[simp] theorem pLe_str (a b : Str) : pLe (.str a) (.str b) = some (.bl (!sLt b a)) := rfl
@[simp] theorem pGt_str (a b : Str) : pGt (.str a) (.str b) = some (.bl (sLt b a)) := rfl
@[simp] theorem pGe_str (a b : Str) : pGe (.str a) (.str b) = some (.bl (!sLt a b)) := rfl
@[simp] theorem isNon_non : isNon .non = true := rfl
@[simp] theorem isNon_bl (x : Bool) : isNon (.bl x) = false := rfl
@[simp] theorem isNon_int (x : Int) : isNon (.int x) = false := rfl
@[simp] theorem isNon_str (x : Str) : isNon (.str x) = false := rfl
@[simp] theorem isNon_lst (x : List D) : isNon (.lst x) = false := rfl
@[simp] theorem isNon_tup (x : List D) : isNon (.tup x) = false := rfl
@[simp] theorem isNon_dic (x : List (D × D)) : isNon (.dic x) = false := rfl
@[simp] theorem isNon_kdic (x : List (D × D)) : isNon (.kdic x) = false := rfl
@[simp] theorem isNon_obj (c : Nat) (x : List D) : isNon (.obj c x) = false := rfl
@[simp] theorem pIsN_eq (x : D) : pIsN x = some (.bl (isNon x)) := rfl
@[simp] theorem pNotN_eq (x : D) : pNotN x = some (.bl (!isNon x)) := rfl
@[simp] theorem pIn_eq (x y : D) : pIn x y = (inD x y).map .bl := rfl
@[simp] theorem pNotIn_eq (x y : D) : pNotIn x y = (inD x y).map fun b => .bl (!b) := rfl
@[simp] theorem pItem_lst (xs : List D) (i : Int) : pItem (.lst xs) (.int i) = ixD xs i := rfl
@[simp] theorem pItem_tup (xs : List D) (i : Int) : pItem (.tup xs) (.int i) = ixD xs i := rfl
@[simp] theorem pItem_str (z : Str) (i : Int) : pItem (.str z) (.int i) = if z.length ≤ lim then (ixD z.cps.toList i).map fun k => .str ⟨#[k]⟩ else none := rfl
@[simp] theorem pItem_dic_str (kvs : List (D × D)) (k : Str) : pItem (.dic kvs) (.str k) = dlook (.str k) kvs := rfl
@[simp] theorem pItem_dic_int (kvs : List (D × D)) (k : Int) : pItem (.dic kvs) (.int k) = dlook (.int k) kvs := rfl
@[simp] theorem pItem_kdic_str (kvs : List (D × D)) (k : Str) : pItem (.kdic kvs) (.str k) = dlook (.str k) kvs := rfl
theorem ixD_nat {α : Type} (xs : List α) (n : Nat) : ixD xs (n : Int) = xs[n]? := by unfold ixD; rw [if_pos (Int.natCast_nonneg n)]; rfl
@[simp] theorem ixD_lit {α : Type} (xs : List α) (n : Nat) : ixD xs (no_index (OfNat.ofNat n : Int)) = xs[(OfNat.ofNat n : Nat)]? := ixD_nat xs n
@[simp] theorem ixD_zero {α : Type} (xs : List α) : ixD xs 0 = xs[0]? := ixD_nat xs 0
@[simp] theorem ixD_one {α : Type} (xs : List α) : ixD xs 1 = xs[1]? := ixD_nat xs 1
theorem ixD_pos {α : Type} {xs : List α} {i : Int} (h : 0 ≤ i) : ixD xs i = xs[i.toNat]? := if_pos h
@[simp] theorem pSlice_lst (xs : List D) (lo hi : Option Int) : pSlice (.lst xs) lo hi = some (.lst (cutL xs lo hi)) := rfl
@[simp] theorem pSlice_tup (xs : List D) (lo hi : Option Int) : pSlice (.tup xs) lo hi = some (.tup (cutL xs lo hi)) := rfl
@[simp] theorem pLen_lst (xs : List D) : pLen (.lst xs) = some (.int xs.length) := rfl
@[simp] theorem pLen_tup (xs : List D) : pLen (.tup xs) = some (.int xs.length) := rfl
@[simp] theorem pLen_dic (xs : List (D × D)) : pLen (.dic xs) = some (.int xs.length) := rfl
@[simp] theorem pLen_str (z : Str) : pLen (.str z) = if z.length ≤ lim then some (.int z.length) else none := rfl
@[simp] theorem pAll_lst (xs : List D) : pAll (.lst xs) = (boolsD xs).map fun bs => .bl (bs.all id) := rfl
@[simp] theorem pAny_lst (xs : List D) : pAny (.lst xs) = (boolsD xs).map fun bs => .bl (bs.any id) := rfl
@[simp] theorem pSum_lst (xs : List D) : pSum (.lst xs) = (intsD xs).map fun bs => .int bs.sum := rfl
@[simp] theorem boolsD_map {α : Type} (xs : List α) (f : α → Bool) : boolsD (xs.map fun x => .bl (f x)) = some (xs.map f) := by
  induction xs with
  | nil => rfl
  | cons x r ih => rw [List.map_cons, List.map_cons]; unfold boolsD; rw [ih]; rfl
@[simp] theorem intsD_map {α : Type} (xs : List α) (f : α → Int) : intsD (xs.map fun x => .int (f x)) = some (xs.map f) := by
  induction xs with
  | nil => rfl
  | cons x r ih => rw [List.map_cons, List.map_cons]; unfold intsD; rw [ih]; rfl
@[simp] theorem strsD_map {α : Type} (xs : List α) (f : α → Str) : strsD (xs.map fun x => .str (f x)) = some (xs.map f) := by
  induction xs with
  | nil => rfl
  | cons x r ih => rw [List.map_cons, List.map_cons]; unfold strsD; rw [ih]; rfl
@[simp] theorem boolsD_nil : boolsD [] = some [] := rfl
@[simp] theorem boolsD_cons (b : Bool) (r : List D) : boolsD (.bl b :: r) = (boolsD r).map (b :: ·) := rfl
@[simp] theorem intsD_nil : intsD [] = some [] := rfl
@[simp] theorem intsD_cons (b : Int) (r : List D) : intsD (.int b :: r) = (intsD r).map (b :: ·) := rfl
@[simp] theorem strsD_nil : strsD [] = some [] := rfl
@[simp] theorem strsD_cons (b : Str) (r : List D) : strsD (.str b :: r) = (strsD r).map (b :: ·) := rfl
@[simp] theorem pMax_lst (xs : List D) : pMax (.lst xs) = (match intsD xs with | some (x :: r) => some (.int (maxL x r)) | _ => none) := rfl
@[simp] theorem pMin_lst (xs : List D) : pMin (.lst xs) = (match intsD xs with | some (x :: r) => some (.int (minL x r)) | _ => none) := rfl
@[simp] theorem maxL_nil (m : Int) : maxL m [] = m := rfl
@[simp] theorem maxL_cons (m x : Int) (r : List Int) : maxL m (x :: r) = maxL (if m < x then x else m) r := rfl
@[simp] theorem minL_nil (m : Int) : minL m [] = m := rfl
@[simp] theorem minL_cons (m x : Int) (r : List Int) : minL m (x :: r) = minL (if x < m then x else m) r := rfl
@[simp] theorem pAbs_int (i : Int) : pAbs (.int i) = some (.int (if i < 0 then -i else i)) := rfl
@[simp] theorem pInt_int (i : Int) : pInt (.int i) = some (.int i) := rfl
@[simp] theorem pInt_bl (b : Bool) : pInt (.bl b) = some (.int (if b then 1 else 0)) := rfl
@[simp] theorem pSorted_lst (xs : List D) : pSorted (.lst xs) = (match strsD xs with | some ss => if ss.length < 64 then some (.lst ((sortS ss).map .str)) else none | none => none) := rfl
@[simp] theorem pList_lst (xs : List D) : pList (.lst xs) = some (.lst xs) := rfl
@[simp] theorem pList_tup (xs : List D) : pList (.tup xs) = some (.lst xs) := rfl
@[simp] theorem pList_dic (xs : List (D × D)) : pList (.dic xs) = some (.lst (xs.map (·.1))) := rfl
@[simp] theorem pTuple_lst (xs : List D) : pTuple (.lst xs) = some (.tup xs) := rfl
@[simp] theorem pTuple_tup (xs : List D) : pTuple (.tup xs) = some (.tup xs) := rfl
@[simp] theorem pDict_dic (xs : List (D × D)) : pDict (.dic xs) = some (.dic xs) := rfl
@[simp] theorem pDictZip_eq (x y : D) : pDictZip x y = match seqR x, seqR y with
  | some ks, some ds => (pairKs ks ds).bind fun kvs => if kvs.length ≤ 1000 then some (.dic (dmerge [] kvs)) else none
  | _, _ => none := rfl
@[simp] theorem pairKs_nil (ds : List D) : pairKs [] ds = some [] := by cases ds <;> rfl
@[simp] theorem pairKs_cons (k d : D) (ks ds : List D) : pairKs (k :: ks) (d :: ds) = if isKey k then (pairKs ks ds).map ((k, d) :: ·) else none := rfl
@[simp] theorem dmerge_nil (kvs : List (D × D)) : dmerge kvs [] = kvs := rfl
@[simp] theorem dmerge_cons (kvs : List (D × D)) (p : D × D) (r : List (D × D)) : dmerge kvs (p :: r) = dmerge (dput p.1 p.2 kvs) r := rfl
@[simp] theorem dput_nil (k v : D) : dput k v [] = [(k, v)] := rfl
@[simp] theorem dput_cons (k v j d : D) (r : List (D × D)) : dput k v ((j, d) :: r) = if keyEq j k then (j, v) :: r else (j, d) :: dput k v r := rfl
@[simp] theorem dlook_nil (k : D) : dlook k [] = none := rfl
@[simp] theorem dlook_cons (k j d : D) (r : List (D × D)) : dlook k ((j, d) :: r) = if keyEq j k then some d else dlook k r := rfl
@[simp] theorem keyEq_str (x y : Str) : keyEq (.str x) (.str y) = decide (x = y) := rfl
@[simp] theorem keyEq_int (x y : Int) : keyEq (.int x) (.int y) = decide (x = y) := rfl
@[simp] theorem keyEq_si (x : Str) (y : Int) : keyEq (.str x) (.int y) = false := rfl
@[simp] theorem keyEq_is (x : Int) (y : Str) : keyEq (.int x) (.str y) = false := rfl
@[simp] theorem isKey_str (x : Str) : isKey (.str x) = true := rfl
@[simp] theorem isKey_int (x : Int) : isKey (.int x) = true := rfl
@[simp] theorem isTy_non (ty : Ty) : isTy .non ty = false := by cases ty <;> rfl
@[simp] theorem isTy_int (i : Int) (ty : Ty) : isTy (.int i) ty = (match ty with | .int => true | _ => false) := by cases ty <;> rfl
@[simp] theorem isTy_bl (i : Bool) (ty : Ty) : isTy (.bl i) ty = (match ty with | .int => true | .bool => true | _ => false) := by cases ty <;> rfl
@[simp] theorem isTy_str (i : Str) (ty : Ty) : isTy (.str i) ty = (match ty with | .str => true | _ => false) := by cases ty <;> rfl
@[simp] theorem isTy_lst (i : List D) (ty : Ty) : isTy (.lst i) ty = (match ty with | .list => true | _ => false) := by cases ty <;> rfl
@[simp] theorem isTy_tup (i : List D) (ty : Ty) : isTy (.tup i) ty = (match ty with | .tuple => true | _ => false) := by cases ty <;> rfl
@[simp] theorem isTy_dic (i : List (D × D)) (ty : Ty) : isTy (.dic i) ty = (match ty with | .dict => true | _ => false) := by cases ty <;> rfl
@[simp] theorem isTy_kdic (i : List (D × D)) (ty : Ty) : isTy (.kdic i) ty = (match ty with | .dict => true | _ => false) := by cases ty <;> rfl
@[simp] theorem isTy_obj (c : Nat) (i : List D) (ty : Ty) : isTy (.obj c i) ty = false := by cases ty <;> rfl
@[simp] theorem pIsF_non (f : D → Bool) (o : List Nat) : pIsF f o .non = some (.bl (f .non)) := rfl
@[simp] theorem pIsF_bl (f : D → Bool) (o : List Nat) (x : Bool) : pIsF f o (.bl x) = some (.bl (f (.bl x))) := rfl
@[simp] theorem pIsF_int (f : D → Bool) (o : List Nat) (x : Int) : pIsF f o (.int x) = some (.bl (f (.int x))) := rfl
@[simp] theorem pIsF_str (f : D → Bool) (o : List Nat) (x : Str) : pIsF f o (.str x) = some (.bl (f (.str x))) := rfl
@[simp] theorem pIsF_lst (f : D → Bool) (o : List Nat) (x : List D) : pIsF f o (.lst x) = some (.bl (f (.lst x))) := rfl
@[simp] theorem pIsF_tup (f : D → Bool) (o : List Nat) (x : List D) : pIsF f o (.tup x) = some (.bl (f (.tup x))) := rfl
@[simp] theorem pIsF_dic (f : D → Bool) (o : List Nat) (x : List (D × D)) : pIsF f o (.dic x) = some (.bl (f (.dic x))) := rfl
@[simp] theorem pIsF_kdic (f : D → Bool) (o : List Nat) (x : List (D × D)) : pIsF f o (.kdic x) = some (.bl (f (.kdic x))) := rfl
@[simp] theorem pIsF_obj (f : D → Bool) (o : List Nat) (c : Nat) (x : List D) : pIsF f o (.obj c x) = if o.contains c then some (.bl (f (.obj c x))) else none := rfl
@[simp] theorem isCls_obj (c k : Nat) (fs : List D) : isCls c (.obj k fs) = (k == c) := rfl
@[simp] theorem isCls_non (c : Nat) : isCls c .non = false := rfl
@[simp] theorem isCls_bl (c : Nat) (x : Bool) : isCls c (.bl x) = false := rfl
@[simp] theorem isCls_int (c : Nat) (x : Int) : isCls c (.int x) = false := rfl
@[simp] theorem isCls_str (c : Nat) (x : Str) : isCls c (.str x) = false := rfl
@[simp] theorem isCls_lst (c : Nat) (x : List D) : isCls c (.lst x) = false := rfl
@[simp] theorem isCls_tup (c : Nat) (x : List D) : isCls c (.tup x) = false := rfl
@[simp] theorem isCls_dic (c : Nat) (x : List (D × D)) : isCls c (.dic x) = false := rfl
@[simp] theorem isCls_kdic (c : Nat) (x : List (D × D)) : isCls c (.kdic x) = false := rfl
@[simp] theorem zipD_nil (ys : List D) : zipD [] ys = [] := by cases ys <;> rfl
@[simp] theorem zipD_nil' (ys : List D) : zipD ys [] = [] := by cases ys <;> rfl
@[simp] theorem zipD_cons (x y : D) (xs ys : List D) : zipD (x :: xs) (y :: ys) = .tup [x, y] :: zipD xs ys := rfl
@[simp] theorem enumD_nil (n : Nat) : enumD n [] = [] := rfl
@[simp] theorem enumD_cons (n : Nat) (x : D) (xs : List D) : enumD n (x :: xs) = .tup [.int n, x] :: enumD (n + 1) xs := rfl
/-! ### equality -/
@[simp] theorem eqOut_obj (ks : List (Nat × Fn)) (c : Nat) (fs : List D) (y : D) : eqOut ks (.obj c fs) y = (match tab c ks with
    | some f => (match y with
      | .obj c' fs' => if c' = c then ownEq f (.obj c fs) (.obj c' fs') else .stuck
      | .lst ys => ownEq f (.obj c fs) (.lst ys)
      | _ => .stuck)
    | none => .stuck) := by
  cases y <;> rfl
theorem eqOut_data (ks : List (Nat × Fn)) (x y : D) (hx : ∀ c fs, x ≠ .obj c fs) : eqOut ks x y = if cok x dep true y then .ok (.bl (deq x y)) .non else .stuck := by
  cases x <;> first | rfl | exact absurd rfl (hx _ _)
@[simp] theorem eqOut_non (ks : List (Nat × Fn)) (y : D) : eqOut ks .non y = if cok .non dep true y then .ok (.bl (deq .non y)) .non else .stuck := rfl
@[simp] theorem eqOut_bool (ks : List (Nat × Fn)) (x : Bool) (y : D) : eqOut ks (.bl x) y = if cok (.bl x) dep true y then .ok (.bl (deq (.bl x) y)) .non else .stuck := rfl
@[simp] theorem eqOut_int (ks : List (Nat × Fn)) (x : Int) (y : D) : eqOut ks (.int x) y = if cok (.int x) dep true y then .ok (.bl (deq (.int x) y)) .non else .stuck := rfl
@[simp] theorem eqOut_str (ks : List (Nat × Fn)) (x : Str) (y : D) : eqOut ks (.str x) y = if cok (.str x) dep true y then .ok (.bl (deq (.str x) y)) .non else .stuck := rfl
@[simp] theorem eqOut_lst (ks : List (Nat × Fn)) (x : List D) (y : D) : eqOut ks (.lst x) y = if cok (.lst x) dep true y then .ok (.bl (deq (.lst x) y)) .non else .stuck := rfl
@[simp] theorem eqOut_tup (ks : List (Nat × Fn)) (x : List D) (y : D) : eqOut ks (.tup x) y = if cok (.tup x) dep true y then .ok (.bl (deq (.tup x) y)) .non else .stuck := rfl
@[simp] theorem eqOut_dic (ks : List (Nat × Fn)) (x : List (D × D)) (y : D) : eqOut ks (.dic x) y = if cok (.dic x) dep true y then .ok (.bl (deq (.dic x) y)) .non else .stuck := rfl
@[simp] theorem neOut_obj (ks : List (Nat × Fn)) (c c' : Nat) (fs fs' : List D) : neOut ks (.obj c fs) (.obj c' fs') = eqOut ks (.obj c fs) (.obj c' fs') := rfl
@[simp] theorem neOut_non (ks : List (Nat × Fn)) (y : D) : neOut ks .non y = if cok .non dep false y then .ok (.bl (deq .non y)) .non else .stuck := rfl
@[simp] theorem neOut_bool (ks : List (Nat × Fn)) (x : Bool) (y : D) : neOut ks (.bl x) y = if cok (.bl x) dep false y then .ok (.bl (deq (.bl x) y)) .non else .stuck := rfl
@[simp] theorem neOut_int (ks : List (Nat × Fn)) (x : Int) (y : D) : neOut ks (.int x) y = if cok (.int x) dep false y then .ok (.bl (deq (.int x) y)) .non else .stuck := rfl
@[simp] theorem neOut_str (ks : List (Nat × Fn)) (x : Str) (y : D) : neOut ks (.str x) y = if cok (.str x) dep false y then .ok (.bl (deq (.str x) y)) .non else .stuck := rfl
@[simp] theorem neOut_lst (ks : List (Nat × Fn)) (x : List D) (y : D) : neOut ks (.lst x) y = if cok (.lst x) dep false y then .ok (.bl (deq (.lst x) y)) .non else .stuck := rfl
@[simp] theorem neOut_tup (ks : List (Nat × Fn)) (x : List D) (y : D) : neOut ks (.tup x) y = if cok (.tup x) dep false y then .ok (.bl (deq (.tup x) y)) .non else .stuck := rfl
@[simp] theorem neOut_dic (ks : List (Nat × Fn)) (x y : List (D × D)) : neOut ks (.dic x) (.dic y) = if (decide (x.length ≠ y.length) || cokK x dep false y) then .ok (.bl (deq (.dic x) (.dic y))) .non else .stuck := rfl
@[simp] theorem deq_int (x y : Int) : deq (.int x) (.int y) = decide (x = y) := rfl
@[simp] theorem deq_str (x y : Str) : deq (.str x) (.str y) = decide (x = y) := rfl
@[simp] theorem deq_bl (x y : Bool) : deq (.bl x) (.bl y) = (x == y) := rfl
@[simp] theorem deq_lst (x y : List D) : deq (.lst x) (.lst y) = deqL x y := rfl
@[simp] theorem deq_tup (x y : List D) : deq (.tup x) (.tup y) = deqL x y := rfl
@[simp] theorem deq_dic (x y : List (D × D)) : deq (.dic x) (.dic y) = (decide (x.length = y.length) && deqK x y) := rfl
@[simp] theorem deqL_nil : deqL [] [] = true := rfl
@[simp] theorem deqL_nc (y : D) (ys : List D) : deqL [] (y :: ys) = false := rfl
@[simp] theorem deqL_cn (y : D) (ys : List D) : deqL (y :: ys) [] = false := rfl
@[simp] theorem deqL_cons (x y : D) (xs ys : List D) : deqL (x :: xs) (y :: ys) = (deq x y && deqL xs ys) := rfl
@[simp] theorem deqK_nil (l : List (D × D)) : deqK [] l = true := rfl
@[simp] theorem deqK_cons (k d : D) (r l : List (D × D)) : deqK ((k, d) :: r) l = ((match dlook k l with | some u => deq d u | none => false) && deqK r l) := rfl
@[simp] theorem cok_non (n : Nat) (b : Bool) (y : D) : cok .non n b y = simple y := rfl
@[simp] theorem cok_bl (x : Bool) (n : Nat) (b : Bool) (y : D) : cok (.bl x) n b y = simple y := rfl
@[simp] theorem cok_int (x : Int) (n : Nat) (b : Bool) (y : D) : cok (.int x) n b y = simple y := rfl
@[simp] theorem cok_str (x : Str) (n : Nat) (b : Bool) (y : D) : cok (.str x) n b y = simple y := rfl
@[simp] theorem cok_lst0 (x : List D) (b : Bool) (y : D) : cok (.lst x) 0 b y = false := rfl
@[simp] theorem cok_tup0 (x : List D) (b : Bool) (y : D) : cok (.tup x) 0 b y = false := rfl
theorem cok_lst (xs ys : List D) (n : Nat) (b : Bool) : cok (.lst xs) (n + 1) b (.lst ys) = (decide (xs.length ≠ ys.length) || cokL xs n b ys) := rfl
theorem cok_tup (xs ys : List D) (n : Nat) (b : Bool) : cok (.tup xs) (n + 1) b (.tup ys) = cokL xs n false ys := rfl
theorem cok_dic (xs ys : List (D × D)) (n : Nat) (b : Bool) : cok (.dic xs) (n + 1) b (.dic ys) = (b && (decide (xs.length ≠ ys.length) || cokK xs n b ys)) := rfl
@[simp] theorem cokL_nil (n : Nat) (b : Bool) (y : List D) : cokL [] n b y = true := rfl
@[simp] theorem cokL_cn (x : D) (xs : List D) (n : Nat) (b : Bool) : cokL (x :: xs) n b [] = true := rfl
@[simp] theorem cokL_cons (x y : D) (xs ys : List D) (n : Nat) (b : Bool) : cokL (x :: xs) n b (y :: ys) = (cok x n b y && cokL xs n b ys) := rfl
@[simp] theorem cokK_nil (n : Nat) (b : Bool) (y : List (D × D)) : cokK [] n b y = true := rfl
@[simp] theorem cokK_cons (k d : D) (r ls : List (D × D)) (n : Nat) (b : Bool) : cokK ((k, d) :: r) n b ls = ((match dlook k ls with | some u => cok d n b u | none => true) && cokK r n b ls) := rfl
@[simp] theorem simple_non : simple .non = true := rfl
@[simp] theorem simple_bl (x : Bool) : simple (.bl x) = true := rfl
@[simp] theorem simple_int (x : Int) : simple (.int x) = true := rfl
@[simp] theorem simple_str (x : Str) : simple (.str x) = true := rfl
@[simp] theorem simple_lst (x : List D) : simple (.lst x) = true := rfl
@[simp] theorem simple_tup (x : List D) : simple (.tup x) = true := rfl
@[simp] theorem simple_dic (x : List (D × D)) : simple (.dic x) = false := rfl
/-! what is flat to a depth -/
mutual
/-- nested up to n, no dicts -/
def plainB : Nat → D → Bool
  | _, .non => true
  | _, .bl _ => true
  | _, .int _ => true
  | _, .str _ => true
  | n + 1, .lst xs => plainBs n xs
  | n + 1, .tup xs => plainBs n xs
  | _, _ => false
def plainBs : Nat → List D → Bool
  | _, [] => true
  | n, x :: xs => plainB n x && plainBs n xs
end
theorem plainB_simple {n : Nat} {d : D} (h : plainB n d = true) : simple d = true := by
  cases d <;> first | rfl | (cases n <;> simp [plainB] at h)
mutual
theorem cok_plain {n : Nat} {b : Bool} {y : D} (hy : simple y = true) (hy2 : plainB n y = true) : ∀ {x : D}, plainB n x = true → cok x n b y = true
  | .non, _ => hy
  | .bl _, _ => hy
  | .int _, _ => hy
  | .str _, _ => hy
  | .lst xs, h => by
    cases n with
    | zero => simp [plainB] at h
    | succ n =>
      cases y with
      | lst ys =>
        rw [cok_lst, Bool.or_eq_true]
        exact .inr (cokL_plain (by simpa [plainB] using hy2) (by simpa [plainB] using h))
      | _ => exact hy
  | .tup xs, h => by
    cases n with
    | zero => simp [plainB] at h
    | succ n =>
      cases y with
      | tup ys =>
        rw [cok_tup]
        exact cokL_plain (by simpa [plainB] using hy2) (by simpa [plainB] using h)
      | _ => exact hy
  | .dic _, h => by cases n <;> simp [plainB] at h
  | .kdic _, h => by cases n <;> simp [plainB] at h
  | .obj _ _, h => by cases n <;> simp [plainB] at h
  | .trk, h => by cases n <;> simp [plainB] at h
theorem cokL_plain {n : Nat} {b : Bool} {ys : List D} (hy : plainBs n ys = true) : ∀ {xs : List D}, plainBs n xs = true → cokL xs n b ys = true
  | [], _ => rfl
  | x :: xs, h => by
    cases ys with
    | nil => rfl
    | cons y ys =>
      simp only [plainBs, Bool.and_eq_true] at h hy
      rw [cokL_cons, cok_plain (plainB_simple hy.1) hy.1 h.1, cokL_plain hy.2 h.2]
      rfl
end
/-- x in what is made of a list -/
theorem inD_lst_map {α : Type} [DecidableEq α] {f : α → D} (hp : ∀ a, plainB 40 (f a) = true) (he : ∀ a b, deq (f a) (f b) = decide (a = b)) (x : α) (l : List α) : inD (f x) (.lst (l.map f)) = some (decide (x ∈ l)) := by
  have h1 : ((l.map f).all fun z => cok z dep false (f x)) = true := by
    rw [List.all_eq_true]
    intro z hz
    obtain ⟨a, _, rfl⟩ := List.mem_map.mp hz
    exact cok_plain (plainB_simple (hp x)) (hp x) (hp a)
  show (if _ then _ else _) = _
  rw [if_pos h1]
  congr 1
  clear h1
  induction l with
  | nil => simp
  | cons a l ih => rw [List.map_cons, List.any_cons, ih, he]; simp [Bool.decide_or, eq_comm]
theorem inD_tup_map {α : Type} [DecidableEq α] {f : α → D} (hp : ∀ a, plainB 40 (f a) = true) (he : ∀ a b, deq (f a) (f b) = decide (a = b)) (x : α) (l : List α) : inD (f x) (.tup (l.map f)) = some (decide (x ∈ l)) := inD_lst_map hp he x l
theorem inD_lst (x : D) (xs : List D) : inD x (.lst xs) = if xs.all fun z => cok z dep false x then some (xs.any fun z => deq z x) else none := rfl
theorem inD_tup (x : D) (xs : List D) : inD x (.tup xs) = if xs.all fun z => cok z dep false x then some (xs.any fun z => deq z x) else none := rfl
@[simp] theorem inD_dic_str (x : Str) (kvs : List (D × D)) : inD (.str x) (.dic kvs) = some (dlook (.str x) kvs).isSome := rfl
@[simp] theorem inD_dic_int (x : Int) (kvs : List (D × D)) : inD (.int x) (.dic kvs) = some (dlook (.int x) kvs).isSome := rfl
@[simp] theorem inD_kdic_str (x : Str) (kvs : List (D × D)) : inD (.str x) (.kdic kvs) = some (dlook (.str x) kvs).isSome := rfl
@[simp] theorem putAt_lst (xs : List D) (i : Int) (v : D) : putAt (.lst xs) (.int i) v = if 0 ≤ i ∧ i.toNat < xs.length then some (.lst (xs.set i.toNat v)) else none := rfl
@[simp] theorem putAt_dic (kvs : List (D × D)) (k v : D) : putAt (.dic kvs) k v = if isKey k && decide (kvs.length < lim) then some (.dic (dput k v kvs)) else none := rfl
theorem dput_new {α : Type} {f : α → D} (k : Str) (v : D) : ∀ {l : List (Str × α)}, k ∉ l.map (·.1) → dput (.str k) v (l.map fun q => (.str q.1, f q.2)) = (l.map fun q => (.str q.1, f q.2)) ++ [(.str k, v)]
  | [], _ => rfl
  | (j, a) :: r, h => by
    simp only [List.map_cons, List.mem_cons, not_or] at h
    rw [List.map_cons, dput_cons, keyEq_str, if_neg (by simpa using fun e => h.1 e.symm), dput_new k v h.2]
    rfl
/-! ### try -/
def tryEnd (r : R Flow) (excs : List Nat) (hs : List Hd) (e : Env) : R Flow := match r with
  | .err c fs => if excs.contains c then (match hdOf c hs with
      | some h => (match h.run fs (List.replicate e.length .none) .non with
        | .ok f e2 t2 => .ok f (offE h.slot e2) t2
        | .err _ _ => .stuck
        | .stuck => .stuck)
      | none => .err c fs) else .stuck
  | x => x
@[simp] theorem sTry_eq (mb : MS) (excs : List Nat) (hs : List Hd) (e : Env) : sTry mb excs hs e .non = tryEnd (mb (hideE e) .non) excs hs e := by
  unfold sTry tryEnd
  rfl
@[simp] theorem tryEnd_ok (f : Flow) (e1 : Env) (t : D) (excs : List Nat) (hs : List Hd) (e : Env) : tryEnd (.ok f e1 t) excs hs e = .ok f e1 t := rfl
@[simp] theorem tryEnd_err (c : Nat) (fs : List D) (excs : List Nat) (hs : List Hd) (e : Env) : tryEnd (.err c fs) excs hs e = if excs.contains c then (match hdOf c hs with
      | some h => (match h.run fs (List.replicate e.length .none) .non with
        | .ok f e2 t2 => .ok f (offE h.slot e2) t2
        | .err _ _ => .stuck
        | .stuck => .stuck)
      | none => .err c fs) else .stuck := rfl
@[simp] theorem hdOf_nil (c : Nat) : hdOf c [] = none := rfl
@[simp] theorem hdOf_cons (c : Nat) (h : Hd) (r : List Hd) : hdOf c (h :: r) = if c = h.cid then some h else hdOf c r := rfl
@[simp] theorem offE_none (e : Env) : offE none e = e := rfl
@[simp] theorem offE_some (i : Nat) (e : Env) : offE (some i) e = e.set i .none := rfl
@[simp] theorem one1_one (f : D → MS) (d : D) : one1 f [d] = f d := rfl
/-! ### what holds of an outcome -/
def R.sat {α : Type} (x : R α) (P : α → Env → D → Prop) [Tag P] : Prop := match x with
  | .ok a e t => P a e t
  | _ => False
def Out.sat (x : Out) (P : D → D → Prop) [Tag P] : Prop := match x with
  | .ok d t => P d t
  | _ => False
@[simp] theorem sat_ok {α : Type} (a : α) (e : Env) (t : D) (P : α → Env → D → Prop) [Tag P] : (R.ok a e t).sat P = P a e t := rfl
@[simp] theorem sat_err {α : Type} (c : Nat) (fs : List D) (P : α → Env → D → Prop) [Tag P] : (R.err c fs : R α).sat P = False := rfl
@[simp] theorem sat_stuck {α : Type} (P : α → Env → D → Prop) [Tag P] : (R.stuck : R α).sat P = False := rfl
@[simp] theorem osat_ok (d t : D) (P : D → D → Prop) [Tag P] : (Out.ok d t).sat P = P d t := rfl
@[simp] theorem osat_err (c : Nat) (fs : List D) (P : D → D → Prop) [Tag P] : (Out.err c fs).sat P = False := rfl
@[simp] theorem osat_stuck (P : D → D → Prop) [Tag P] : Out.stuck.sat P = False := rfl
@[simp] theorem sat_bnd {α β : Type} (x : R α) (f : α → Env → D → R β) [Tag f] (P : β → Env → D → Prop) [Tag P] : (x.bnd f).sat P = x.sat fun a e t => (f a e t).sat P := by cases x <;> rfl
@[simp] theorem sat_onl {α β : Type} (x : R α) (f : α → D → R β) [Tag f] (P : β → Env → D → Prop) [Tag P] : (x.onl f).sat P = x.sat fun a _ t => (f a t).sat P := by cases x <;> rfl
def Out.call (x : Out) (P : D → D → Prop) [Tag P] : Prop := x.sat fun d t' => t' ≠ .non ∧ P d t'
@[simp] theorem sat_callT (f : Fn) (ds : List D) (e : Env) (t : D) (P : D → Env → D → Prop) [Tag P] : (callT f ds e t).sat P = (t ≠ .non ∧ (f ds t).call fun d t' => P d e t') := by
  unfold callT Out.call
  split
  · simp
  · rename_i h
    have h : t ≠ .non := h
    simp only [h, ne_eq, not_false_eq_true, true_and]
    cases f ds t with
    | ok d t' => cases t' <;> simp [R.outT]
    | err c fs => rfl
    | stuck => rfl
@[simp] theorem sat_fin (x : R Flow) (P : D → D → Prop) [Tag P] : (R.fin x).sat P = x.sat fun f _ t => match f with
  | .next => P .non t
  | .ret d => P d t := by
  cases x with
  | ok f e t => cases f <;> rfl
  | err c fs => rfl
  | stuck => rfl
theorem R.sat.imp {α : Type} {x : R α} {P P' : α → Env → D → Prop} [Tag P] [Tag P'] (h : x.sat P) (i : ∀ a e t, P a e t → P' a e t) : x.sat P' := by
  cases x with
  | ok a e t => exact i _ _ _ h
  | err c fs => exact h
  | stuck => exact h
theorem Out.sat.imp {x : Out} {P P' : D → D → Prop} [Tag P] [Tag P'] (h : x.sat P) (i : ∀ d t, P d t → P' d t) : x.sat P' := by
  cases x with
  | ok a t => exact i _ _ h
  | err c fs => exact h
  | stuck => exact h
theorem sat_ite {α : Type} {c : Prop} [Decidable c] {x y : R α} {P : α → Env → D → Prop} [Tag P] (h1 : c → x.sat P) (h2 : ¬c → y.sat P) : (if c then x else y).sat P := by
  split
  · exact h1 ‹_›
  · exact h2 ‹_›
/-- simp does not look into this -/
def Hid (p : Prop) [Tag p] : Prop := p
theorem Hid.mk {p : Prop} (h : p) : Hid p := h
theorem Hid.out {p : Prop} (h : Hid p) : p := h
/-- a for by its invariant -/
theorem for_sat {g : Tgt} {body : MS} {P : Flow → Env → D → Prop} [Tag P] (I : List D → Env → D → Prop) : ∀ {ds : List D} {e : Env} {t : D}, I ds e t → (∀ e t, I [] e t → P .next e t) →
    (∀ d r e t, I (d :: r) e t → ∃ e1, g.put d e = some e1 ∧ (body e1 t).sat fun f e t => match f with
      | .next => Hid (I r e t)
      | .ret d => P (.ret d) e t) → (forLoop g body ds e t).sat P
  | [], e, t, h, h0, _ => h0 e t h
  | d :: r, e, t, h, h0, h1 => by
    obtain ⟨e1, he, hb⟩ := h1 d r e t h
    simp -dsimp only [forLoop_cons, he, sat_bnd]
    refine hb.imp fun f e t hf => ?_
    cases f with
    | next => exact for_sat I hf h0 h1
    | ret d => exact hf
/-- over a list of a kind: the same invariant -/
theorem for_satC {g : Tgt} {body : MS} {P : Flow → Env → D → Prop} [Tag P] {ds : List D} {e : Env} {t : D} (I : Env → D → Prop) (h : I e t) (h0 : ∀ e t, I e t → P .next e t)
    (h1 : ∀ d ∈ ds, ∀ e t, I e t → ∃ e1, g.put d e = some e1 ∧ (body e1 t).sat fun f e t => match f with
      | .next => Hid (I e t)
      | .ret d => P (.ret d) e t) : (forLoop g body ds e t).sat P := by
  refine for_sat (fun r e t => (∀ d ∈ r, d ∈ ds) ∧ I e t) ⟨fun d h => h, h⟩ (fun e t h => h0 e t h.2) fun d r e t h => ?_
  obtain ⟨e1, he, hb⟩ := h1 d (h.1 d List.mem_cons_self) e t h.2
  refine ⟨e1, he, hb.imp fun f e t hf => ?_⟩
  cases f with
  | next => exact ⟨fun x hx => h.1 x (List.mem_cons_of_mem _ hx), hf⟩
  | ret d => exact hf
/-- an outcome that is known -/
theorem for_eq {g : Tgt} {body : MS} {t : D} {ds : List D} (E : Nat → Env) (h : ∀ (k : Nat) (d : D), ds[k]? = some d → ∃ e1, g.put d (E k) = some e1 ∧ body e1 t = .ok .next (E (k + 1)) t) : forLoop g body ds (E 0) t = .ok .next (E ds.length) t := by
  induction ds generalizing E with
  | nil => rfl
  | cons d r ih =>
    obtain ⟨e1, he, hb⟩ := h 0 d rfl
    simp -dsimp only [forLoop_cons, he, hb, R.bnd_ok]
    exact ih (fun k => E (k + 1)) fun k x hx => h (k + 1) x hx
/-- a comprehension whose turns are known -/
theorem comp_eq {g : Tgt} {c : Option ME} {m : ME} {e : Env} {t : D} (f : D → List D) : ∀ {ds : List D} {a : List D}, (∀ d ∈ ds, ∀ a : List D, a.length < lim → ∃ e', compTurn g c (pushL m) a d e t = .ok (a ++ f d) e' t) → (∀ d ∈ ds, (f d).length ≤ 1) → a.length + ds.length ≤ lim →
    compLoop g c (pushL m) e ds a t = .ok (a ++ ds.flatMap f) e t
  | [], a, _, _, _ => by simp
  | d :: r, a, h, hf, hl => by
    rw [List.length_cons] at hl
    obtain ⟨e', h1⟩ := h d List.mem_cons_self a (by omega)
    rw [compLoop_cons, h1, R.onl_ok, comp_eq f (fun d hd => h d (List.mem_cons_of_mem _ hd)) (fun d hd => hf d (List.mem_cons_of_mem _ hd)) (by have := hf d List.mem_cons_self; rw [List.length_append]; omega), List.flatMap_cons, List.append_assoc]
theorem sat_eq {α : Type} {x : R α} {a : α} {t : D} (h : x.sat fun b _ t' => b = a ∧ t' = t) : ∃ e, x = .ok a e t := by
  cases x with
  | ok b e t' => obtain ⟨rfl, rfl⟩ := h; exact ⟨e, rfl⟩
  | err _ _ => exact h.elim
  | stuck => exact h.elim
/-- one for each -/
theorem comp_map {g : Tgt} {m : ME} {e : Env} {t : D} {ds : List D} (f : D → D) (h : ∀ d ∈ ds, ∃ e1, g.put d e = some e1 ∧ (m e1 t).sat fun a _ t' => a = f d ∧ t' = t) (hl : ds.length ≤ lim) : compLoop g none (pushL m) e ds [] t = .ok (ds.map f) e t := by
  have := comp_eq (g := g) (c := none) (m := m) (e := e) (t := t) (ds := ds) (a := []) (fun d => [f d]) (fun d hd a ha => by
    obtain ⟨e1, h1, h2⟩ := h d hd
    obtain ⟨e2, h2⟩ := sat_eq h2
    exact ⟨e2, by simp -dsimp only [compTurn_none, h1, pushL_eq, h2, R.bnd_ok, ha, if_true]⟩) (fun _ _ => Nat.le_refl 1) (by simpa using hl)
  rw [this, List.nil_append]
  clear this h hl
  congr 1
  induction ds with
  | nil => rfl
  | cons d r ih => rw [List.flatMap_cons, ih]; rfl
/-- those of which the test holds -/
theorem comp_filter {g : Tgt} {c m : ME} {e : Env} {t : D} {ds : List D} (p : D → Bool) (f : D → D) (h : ∀ d ∈ ds, ∃ e1, g.put d e = some e1 ∧ (c e1 t).sat fun a e2 t' => (a = .bl (p d) ∧ t' = t) ∧ (p d = true → (m e2 t).sat fun a _ t' => a = f d ∧ t' = t)) (hl : ds.length ≤ lim) : compLoop g (some c) (pushL m) e ds [] t = .ok ((ds.filter p).map f) e t := by
  have := comp_eq (g := g) (c := some c) (m := m) (e := e) (t := t) (ds := ds) (a := []) (fun d => if p d then [f d] else []) (fun d hd a ha => by
    obtain ⟨e1, h1, h2⟩ := h d hd
    cases hc : c e1 t with
    | ok b e2 t' =>
      rw [hc] at h2
      obtain ⟨⟨rfl, rfl⟩, h3⟩ := h2
      cases hp : p d with
      | true =>
        obtain ⟨e3, h3⟩ := sat_eq (h3 hp)
        exact ⟨e3, by simp -dsimp only [compTurn_some, h1, hc, asB_bl, R.bnd_ok, hp, if_true, pushL_eq, h3, ha]⟩
      | false => exact ⟨e2, by simp -dsimp [compTurn_some, h1, hc, hp]⟩
    | err _ _ => rw [hc] at h2; exact h2.elim
    | stuck => rw [hc] at h2; exact h2.elim) (fun d _ => by split <;> simp) (by simpa using hl)
  rw [this, List.nil_append]
  clear this h hl
  congr 1
  induction ds with
  | nil => rfl
  | cons d r ih => cases hp : p d <;> simp [List.flatMap_cons, hp, ih]
/-- an end that is told to the caller -/
def R.stops (r : R Flow) (o : Out) : Prop := match r with
  | .ok (.ret d) _ t => o = .ok d t
  | .err c fs => o = .err c fs
  | _ => False
theorem stops_fin {r : R Flow} {o : Out} (h : r.stops o) : R.fin r = o := by
  cases r with
  | ok f e t =>
    cases f with
    | next => exact h.elim
    | ret d => exact (show o = _ from h).symm
  | err c fs => exact (show o = _ from h).symm
  | stuck => exact h.elim
theorem stops_seq {r : R Flow} {o : Out} (h : r.stops o) (b : MS) : R.fin (r.bnd fun f e t => match f with
  | .next => b e t
  | .ret d => .ok (.ret d) e t) = o := by
  cases r with
  | ok f e t =>
    cases f with
    | next => exact h.elim
    | ret d => exact (show o = _ from h).symm
  | err c fs => exact (show o = _ from h).symm
  | stuck => exact h.elim
theorem stops_for {r : R Flow} {o : Out} (h : r.stops o) (b : MS) : (r.bnd fun f e t => match f with
  | .next => b e t
  | .ret d => .ok (.ret d) e t) = r := by
  cases r with
  | ok f e t =>
    cases f with
    | next => exact h.elim
    | ret d => rfl
  | err c fs => rfl
  | stuck => exact h.elim
/-- the first number that p holds of -/
def firstN (p : Nat → Bool) : Nat → Nat → Option Nat
  | _, 0 => none
  | i, n + 1 => if p i then some i else firstN p (i + 1) n
/-- a for that may end early -/
theorem for_stop {g : Tgt} {body : MS} {t : D} (p : Nat → Bool) (I : Nat → Env → Prop) (S : Nat → Out) : ∀ {ds : List D} {e : Env} (i : Nat), I i e →
    (∀ k d e, ds[k]? = some d → I (i + k) e → ∃ e1, g.put d e = some e1 ∧ (p (i + k) = false → (body e1 t).sat fun f e' t' => f = .next ∧ t' = t ∧ Hid (I (i + k + 1) e')) ∧ (p (i + k) = true → (body e1 t).stops (S (i + k)))) →
    match firstN p i ds.length with
    | some k => (forLoop g body ds e t).stops (S k)
    | none => ∃ e', forLoop g body ds e t = .ok .next e' t ∧ I (i + ds.length) e'
  | [], e, i, h0, _ => ⟨e, rfl, h0⟩
  | d :: r, e, i, h0, h => by
    obtain ⟨e1, h1, h2, h3⟩ := h 0 d e rfl h0
    rw [List.length_cons]
    unfold firstN
    cases hp : p i with
    | true =>
      simp only [if_true]
      have h3 := h3 hp
      rw [forLoop_cons, h1]
      show (R.bnd _ _).stops _
      rw [stops_for h3]
      exact h3
    | false =>
      simp only [Bool.false_eq_true, if_false]
      have h2 := h2 hp
      cases hb : body e1 t with
      | ok f e' t' =>
        rw [hb] at h2
        obtain ⟨rfl, rfl, hI⟩ := h2
        have ih := for_stop p I S (ds := r) (e := e') (i + 1) hI fun k d e hd hk => by
          have := h (k + 1) d e hd (by rw [show i + (k + 1) = i + 1 + k by omega]; exact hk)
          rw [show i + (k + 1) = i + 1 + k by omega] at this
          exact this
        have e2 : forLoop g body (d :: r) e t' = forLoop g body r e' t' := by
          rw [forLoop_cons, h1]
          show R.bnd (body e1 t') _ = _
          rw [hb]; rfl
        rw [e2, show i + (r.length + 1) = i + 1 + r.length by omega]
        exact ih
      | err _ _ => rw [hb] at h2; exact h2.elim
      | stuck => rw [hb] at h2; exact h2.elim
@[simp] theorem cutAt_some (n d : Nat) (i : Int) : cutAt n d (some i) = if 0 ≤ i then min i.toNat n else (i + n).toNat := rfl
@[simp] theorem cutAt_none (n d : Nat) : cutAt n d none = d := rfl
theorem cutL_to {α : Type} (xs : List α) (k : Nat) : cutL xs none (some (k : Int)) = xs.take k := by
  unfold cutL
  rw [cutAt_some, cutAt_none, if_pos (Int.natCast_nonneg k)]
  simp only [Nat.sub_zero, List.drop_zero, Int.toNat_natCast]
  rw [Nat.min_def]
  split
  · rfl
  · rename_i h
    rw [List.take_of_length_le (Nat.le_refl _), List.take_of_length_le (by omega)]
theorem cutL_from {α : Type} (xs : List α) (k : Nat) : cutL xs (some (k : Int)) none = xs.drop k := by
  unfold cutL
  rw [cutAt_some, cutAt_none, if_pos (Int.natCast_nonneg k)]
  simp only [Int.toNat_natCast]
  rw [Nat.min_def]
  split
  · rw [List.take_of_length_le (by rw [List.length_drop]; omega)]
  · rename_i h
    rw [List.drop_of_length_le (Nat.le_refl _), List.drop_of_length_le (by omega), List.take_nil]
/-! ### a law's names -/
theorem env_list {e : Env} {n : Nat} (h : e.length = n) : e = (List.range n).map fun i => e.getD i .none := by
  apply List.ext_getElem
  · rw [List.length_map, List.length_range, h]
  · intro i h1 h2
    rw [List.getElem_map, List.getElem_range, List.getD_eq_getElem?_getD, List.getElem?_eq_getElem h1]
    rfl
theorem sat_true {x : R Flow} (h : x.sat fun f _ _ => f = .ret (.bl true)) : ∃ e t, x = .ok (.ret (.bl true)) e t := by
  cases x with
  | ok f e t => exact ⟨e, t, by have h : f = _ := h; rw [h]⟩
  | err _ _ => exact h.elim
  | stuck => exact h.elim
theorem seq_sat {a b : MS} {e : Env} {t : D} {P : Flow → Env → D → Prop} [Tag P] (M : Env → D → Prop) (h1 : (a e t).sat fun f e t => match f with
    | .next => Hid (M e t)
    | .ret d => P (.ret d) e t) (h2 : ∀ e t, M e t → (b e t).sat P) : (sSeq a b e t).sat P := by
  rw [sSeq_eq, sat_bnd]
  refine h1.imp fun f e t h => ?_
  cases f with
  | next => exact h2 e t h
  | ret d => exact h
theorem sSeq_assoc (a b c : MS) : sSeq a (sSeq b c) = sSeq (sSeq a b) c := by
  funext e t
  unfold sSeq
  cases a e t with
  | ok f e t => cases f <;> rfl
  | err _ _ => rfl
  | stuck => rfl
/-- the names of a law: so many, the second is the list that is followed -/
def LEnv (n : Nat) (e : Env) : Prop := e.length = n ∧ e[1]? = some .trk
theorem LEnv.f {n : Nat} {e : Env} (h : LEnv n e) : ∃ f : Nat → Slot, f 1 = .trk ∧ e = (List.range n).map f := ⟨fun i => e.getD i .none, by show e.getD 1 .none = _; rw [List.getD_eq_getElem?_getD, h.2]; rfl, env_list h.1⟩
end DI
set_option maxRecDepth 100000
set_option maxHeartbeats 4000000
namespace Gk01
open DI
open PySem (Str)
/-- the followed list of draws -/
def GD (t : D) : Prop := ∃ (a b : Int) (r : List Int), t = .lst (.int a :: .int b :: r.map D.int)
theorem GD.ne {t : D} (h : GD t) : t ≠ .non := by obtain ⟨a, b, r, rfl⟩ := h; exact nofun
theorem GD.mk (a b : Int) (r : List Int) : GD (.lst (.int a :: .int b :: r.map D.int)) := ⟨a, b, r, rfl⟩
theorem below_sat {n : Int} (h0 : 0 < n) (h1 : n < 1073741824) {t : D} (g : GD t) {P : D → D → Prop} (h : ∀ k t', 0 ≤ k → k < n → GD t' → P (.int k) t') : (fn__law_below [.trk, .int n] t).call P := by
  obtain ⟨a, b, r, rfl⟩ := g
  have hm : ∀ x : Int, 0 ≤ x % n ∧ x % n < n := fun x => ⟨Int.emod_nonneg _ (by omega), Int.emod_lt_of_pos _ h0⟩
  have hf : ∀ x : Int, fdivR x n = some (.int (x / n)) := fun x => fdivR_ok h0 h1
  cases r with
  | nil =>
    simp -dsimp -implicitDefEqProofs [fn__law_below, bd__law_below, Out.call]
    by_cases hb : 0 < b
    · simp -dsimp -implicitDefEqProofs [hb, h0, hf]
      exact h _ _ (hm _).1 (hm _).2 (GD.mk _ _ [])
    · simp -dsimp -implicitDefEqProofs [hb, h0, hf]
      exact h _ _ (hm _).1 (hm _).2 (GD.mk _ _ [])
  | cons c r =>
    have h3 : (2 : Int) < r.length + 1 + 1 + 1 := by omega
    by_cases hb : b = 0
    · by_cases hc : 0 < c
      · simp -dsimp -implicitDefEqProofs [fn__law_below, bd__law_below, Out.call, hb, h3, hc, h0, hf]
        exact h _ _ (hm _).1 (hm _).2 (GD.mk _ _ r)
      · simp -dsimp -implicitDefEqProofs [fn__law_below, bd__law_below, Out.call, hb, h3, hc, h0, hf]
        exact h _ _ (hm _).1 (hm _).2 (GD.mk _ _ r)
    · by_cases hc : 0 < b
      · simp -dsimp -implicitDefEqProofs [fn__law_below, bd__law_below, Out.call, hb, h3, hc, h0, hf]
        exact h _ _ (hm _).1 (hm _).2 (GD.mk _ _ (c :: r))
      · simp -dsimp -implicitDefEqProofs [fn__law_below, bd__law_below, Out.call, hb, h3, hc, h0, hf]
        exact h _ _ (hm _).1 (hm _).2 (GD.mk _ _ (c :: r))
theorem pick_sat {xs : List D} (h0 : 0 < xs.length) (h1 : xs.length < 1000000000) {t : D} (g : GD t) {P : D → D → Prop} (h : ∀ d t', d ∈ xs → GD t' → P d t') : (fn__law_pick [.trk, .lst xs] t).call P := by
  simp -dsimp -implicitDefEqProofs [fn__law_pick, bd__law_pick, Out.call]
  refine ⟨g.ne, below_sat (by omega) (by omega) g fun k t' hk hk' g' => ?_⟩
  have h2 : k.toNat < xs.length := by omega
  simp -dsimp -implicitDefEqProofs [ixD_pos hk, List.getElem?_eq_getElem h2]
  exact ⟨g'.ne, h _ _ (List.getElem_mem h2) g'⟩
abbrev Rule := Str × Str × Int
def dRule (r : Rule) : D := .tup [.str r.1, .str r.2.1, .int r.2.2]
structure Bk where
  prices : List (Str × Int)
  rules : List Rule
  chain : Int
  rings : Str
  asks : Str
  pays : Str
  pieces : Str
def dPr (p : List (Str × Int)) : D := .dic (p.map fun q => (.str q.1, .int q.2))
def Bk.vals (x : Bk) : List D := [.int x.chain, .str x.rings, .str x.asks, .str x.pays, .str x.pieces]
def Bk.b (x : Bk) : D := .lst [dPr x.prices, .tup (x.rules.map dRule), .lst x.vals]
abbrev Bk.goods (x : Bk) : List Str := x.prices.map (·.1)
def Names (g : List Str) : Prop := g = [("apple" : Str), ("bread" : Str), ("corn" : Str)] ∨ g = [("a" : Str), ("b" : Str)] ∨ g = [("beer" : Str), ("wine" : Str)]
structure RuleOk (g : List Str) (r : Rule) : Prop where
  one : r.1 ∈ g
  two : r.2.1 ∈ g
  ne : r.1 ≠ r.2.1
  many : r.2.2 = 1 ∨ r.2.2 = 2
structure Bk.Ok (x : Bk) : Prop where
  names : Names x.goods
  pr : ∀ p ∈ x.prices, 0 ≤ p.2 ∧ p.2 ≤ 99
  rules : ∀ r ∈ x.rules, RuleOk x.goods r
  nd : x.rules.Nodup
  len : x.rules.length ≤ 6
  chain : 0 ≤ x.chain ∧ x.chain ≤ 3
  rings : x.rings = "let" ∨ x.rings = "barred"
  asks : x.asks = "first" ∨ x.asks = "each" ∨ x.asks = "none"
  pays : x.pays = "told" ∨ x.pays = "given" ∨ x.pays = "lesser"
  pieces : x.pieces = "split" ∨ x.pieces = "alike"
def dNames (g : List Str) : D := .lst (g.map D.str)
theorem names_sat {t : D} (g : GD t) {P : D → D → Prop} (h : ∀ g t', Names g → GD t' → P (dNames g) t') : (fn__law_names [.trk] t).call P := by
  simp -dsimp -implicitDefEqProofs [fn__law_names, bd__law_names, Out.call]
  refine ⟨g.ne, below_sat (by omega) (by omega) g fun k t' hk hk' g' => ?_⟩
  by_cases hk : k = 0
  · simp -dsimp -implicitDefEqProofs [hk]
    exact ⟨g'.ne, h _ _ (.inl rfl) g'⟩
  · simp -dsimp -implicitDefEqProofs [hk]
    refine ⟨g'.ne, pick_sat (by simp) (by simp) g' fun d t' hd g' => ?_⟩
    simp at hd ⊢
    rcases hd with rfl | rfl
    · exact ⟨g'.ne, h _ _ (.inr (.inl rfl)) g'⟩
    · exact ⟨g'.ne, h _ _ (.inr (.inr rfl)) g'⟩
theorem Names.len {g : List Str} (h : Names g) : g.length = 2 ∨ g.length = 3 := by rcases h with rfl | rfl | rfl <;> simp
theorem Names.nodup {g : List Str} (h : Names g) : g.Nodup := by rcases h with rfl | rfl | rfl <;> decide
theorem swap_sat {t : D} (g : GD t) {gs : List Str} (hg : Names gs) {P : D → D → Prop} (h : ∀ r t', RuleOk gs r → GD t' → P (dRule r) t') : (fn__law_swap [.trk, dNames gs] t).call P := by
  have hl := hg.len
  unfold dNames
  simp -dsimp -implicitDefEqProofs [fn__law_swap, bd__law_swap, Out.call]
  refine ⟨g.ne, below_sat (by omega) (by omega) g fun k t' hk hk' g' => ?_⟩
  simp -dsimp -implicitDefEqProofs
  refine ⟨g'.ne, below_sat (by omega) (by omega) g' fun j t' hj hj' g' => ?_⟩
  have hm : 0 < gs.length := by omega
  simp -dsimp -implicitDefEqProofs [hm]
  have hq : 0 ≤ (k + 1 + j) % gs.length := Int.emod_nonneg _ (by omega)
  have hq2 : (k + 1 + j) % gs.length < gs.length := Int.emod_lt_of_pos _ (by omega)
  have hne : (k + 1 + j) % gs.length ≠ k := by
    rcases hl with hl | hl <;> rw [hl] at hj' hk' ⊢ <;> omega
  have i1 : k.toNat < gs.length := by omega
  have i2 : ((k + 1 + j) % gs.length).toNat < gs.length := by omega
  simp -dsimp -implicitDefEqProofs [ixD_pos hk, ixD_pos hq, List.getElem?_eq_getElem i1, List.getElem?_eq_getElem i2]
  refine ⟨g'.ne, below_sat (by omega) (by omega) g' fun m t' hm hm' g' => ?_⟩
  simp -dsimp -implicitDefEqProofs
  refine ⟨g'.ne, h (gs[k.toNat], gs[((k + 1 + j) % gs.length).toNat], 1 + m) _ ⟨List.getElem_mem i1, List.getElem_mem i2, fun e => ?_, by simp only; omega⟩ g'⟩
  have := nodup_inj hg.nodup i1 i2 e
  omega
theorem dRule_plain (r : Rule) : plainB 40 (dRule r) = true := rfl
theorem dRule_eq (a b : Rule) : deq (dRule a) (dRule b) = decide (a = b) := by
  obtain ⟨a1, a2, a3⟩ := a
  obtain ⟨b1, b2, b3⟩ := b
  simp [dRule, Bool.decide_and]
theorem parts_eq : fn__law_parts [] .non = .ok (.lst [.tup [.str "chain", .lst [.int 0, .int 1, .int 2, .int 3]], .tup [.str "rings", .lst [.str "let", .str "barred"]], .tup [.str "asks", .lst [.str "first", .str "each", .str "none"]], .tup [.str "pays", .lst [.str "told", .str "given", .str "lesser"]], .tup [.str "pieces", .lst [.str "split", .str "alike"]]]) .non := by
  simp -dsimp -implicitDefEqProofs [fn__law_parts, bd__law_parts]
structure Bk.Drawn (x : Bk) : Prop extends Bk.Ok x where
  one : 1 ≤ x.rules.length
  five : x.rules.length ≤ 5
theorem drawn_sat {t : D} (g : GD t) {P : D → D → Prop} (h : ∀ (x : Bk) t', x.Drawn → GD t' → P x.b t') : (fn__law_drawn [.trk] t).call P := by
  simp -dsimp -implicitDefEqProofs [fn__law_drawn, bd__law_drawn, Out.call]
  refine ⟨g.ne, names_sat g fun gs t' hg g' => ?_⟩
  simp -dsimp -implicitDefEqProofs [dNames]
  refine ⟨g'.ne, below_sat (by omega) (by omega) g' fun k t' hk hk' g' => ?_⟩
  simp -dsimp -implicitDefEqProofs
  rw [rangeR_ok _ _ (by omega) (by omega), sat_ok, sat_bnd]
  refine for_sat (fun r e t => GD t ∧ ∃ (rs : List Rule) (s3 s7 : Slot), e = [.trk, .val (.lst (gs.map D.str)), .own (.lst (rs.map dRule)), s3, .none, .none, .none, s7, .none, .none] ∧ rs.Nodup ∧ (∀ r ∈ rs, RuleOk gs r) ∧ rs.length + r.length ≤ 5 ∧ 1 ≤ rs.length + r.length)
    ⟨g', [], _, _, rfl, by simp, by simp, ?_, ?_⟩ ?_ ?_
  · simp; omega
  · simp; omega
  · rintro e t ⟨g, rs, s3, s7, rfl, nd, hr, h5, h1⟩
    simp -dsimp -implicitDefEqProofs
    refine for_sat (fun r e t => GD t ∧ ∃ (ps : List (Str × Int)) (rest : List Str) (s5 : Slot), r = rest.map D.str ∧ e = [.trk, .val (.lst (gs.map D.str)), .own (.lst (rs.map dRule)), s3, .own (.dic (ps.map fun q => (.str q.1, .int q.2))), s5, .none, s7, .none, .none] ∧ ps.map (·.1) ++ rest = gs ∧ ∀ p ∈ ps, 0 ≤ p.2 ∧ p.2 ≤ 99)
      ⟨g, [], gs, _, rfl, rfl, rfl, by simp⟩ ?_ ?_
    · rintro e t ⟨g, ps, rest, s5, hr0, rfl, hps, hpr⟩
      have hr0 : rest = [] := by simpa using hr0.symm
      subst hr0
      have hps : ps.map (·.1) = gs := by simpa using hps
      simp -dsimp -implicitDefEqProofs [parts_eq]
      refine ⟨g.ne, pick_sat (by simp) (by simp) g fun d t hd g => ?_⟩
      obtain ⟨c, rfl, hc⟩ : ∃ c, d = .int c ∧ 0 ≤ c ∧ c ≤ 3 := by
        simp at hd; rcases hd with rfl | rfl | rfl | rfl <;> exact ⟨_, rfl, by omega⟩
      simp -dsimp -implicitDefEqProofs
      refine ⟨g.ne, pick_sat (by simp) (by simp) g fun d t hd g => ?_⟩
      obtain ⟨c1, rfl, hc1⟩ : ∃ c : Str, d = .str c ∧ (c = "let" ∨ c = "barred") := by
        simp at hd; rcases hd with rfl | rfl <;> exact ⟨_, rfl, by simp⟩
      simp -dsimp -implicitDefEqProofs
      refine ⟨g.ne, pick_sat (by simp) (by simp) g fun d t hd g => ?_⟩
      obtain ⟨c2, rfl, hc2⟩ : ∃ c : Str, d = .str c ∧ (c = "first" ∨ c = "each" ∨ c = "none") := by
        simp at hd; rcases hd with rfl | rfl | rfl <;> exact ⟨_, rfl, by simp⟩
      simp -dsimp -implicitDefEqProofs
      refine ⟨g.ne, pick_sat (by simp) (by simp) g fun d t hd g => ?_⟩
      obtain ⟨c3, rfl, hc3⟩ : ∃ c : Str, d = .str c ∧ (c = "told" ∨ c = "given" ∨ c = "lesser") := by
        simp at hd; rcases hd with rfl | rfl | rfl <;> exact ⟨_, rfl, by simp⟩
      simp -dsimp -implicitDefEqProofs
      refine ⟨g.ne, pick_sat (by simp) (by simp) g fun d t hd g => ?_⟩
      obtain ⟨c4, rfl, hc4⟩ : ∃ c : Str, d = .str c ∧ (c = "split" ∨ c = "alike") := by
        simp at hd; rcases hd with rfl | rfl <;> exact ⟨_, rfl, by simp⟩
      simp -dsimp -implicitDefEqProofs
      refine ⟨g.ne, below_sat (by omega) (by omega) g fun m t hm hm' g => ?_⟩
      simp -dsimp -implicitDefEqProofs
      refine ⟨g.ne, h ⟨ps, rs, if c < m then m else c, c1, c2, c3, c4⟩ t ⟨⟨by show Names (ps.map (·.1)); rw [hps]; exact hg, hpr, fun r q => by have := hr r q; show RuleOk (ps.map (·.1)) r; rw [hps]; exact this, nd, by simp at h5 ⊢; omega, ?_, hc1, hc2, hc3, hc4⟩, by simpa using h1, by simpa using h5⟩ g⟩
      show 0 ≤ (if c < m then m else c) ∧ (if c < m then m else c) ≤ 3
      split <;> omega
    · rintro d r e t ⟨g, ps, rest, s5, hr0, rfl, hps, hpr⟩
      cases rest with
      | nil => simp at hr0
      | cons q rest =>
        rw [List.map_cons] at hr0
        obtain ⟨rfl, rfl⟩ := List.cons.inj hr0
        refine ⟨_, rfl, ?_⟩
        simp -dsimp -implicitDefEqProofs
        refine ⟨g.ne, pick_sat (by simp) (by simp) g fun d t hd g => ?_⟩
        obtain ⟨c, rfl, hc⟩ : ∃ c, d = .int c ∧ 0 ≤ c ∧ c ≤ 99 := by
          simp at hd; rcases hd with rfl | rfl | rfl | rfl | rfl | rfl <;> exact ⟨_, rfl, by omega⟩
        have hq : q ∉ ps.map (·.1) := by
          have := hg.nodup
          rw [← hps, List.nodup_append] at this
          intro z
          exact this.2.2 _ z _ List.mem_cons_self rfl
        have hl : ps.length < 16777216 := by
          have h1 := congrArg List.length hps
          have h2 := hg.len
          simp at h1
          omega
        simp -dsimp -implicitDefEqProofs [hl, dput_new (f := D.int) q (.int c) hq]
        refine Hid.mk ⟨g, ps ++ [(q, c)], rest, _, rfl, by rw [List.map_append]; rfl, by simpa using hps, ?_⟩
        intro p hab
        rcases List.mem_append.mp hab with hab | hab
        · exact hpr _ hab
        · simp at hab
          subst hab
          exact hc
  · rintro d r e t ⟨g, rs, s3, s7, rfl, nd, hr, h5, h1⟩
    refine ⟨_, rfl, ?_⟩
    simp -dsimp -implicitDefEqProofs
    refine ⟨g.ne, swap_sat g hg fun q t' hq g' => ?_⟩
    have hl : rs.length < 16777216 := by omega
    rw [List.length_cons] at h5 h1
    by_cases hin : q ∈ rs
    · simp -dsimp -implicitDefEqProofs [inD_lst_map dRule_plain dRule_eq, hin]
      refine Hid.mk ⟨g', rs, _, _, rfl, nd, hr, by omega, ?_⟩
      have : rs.length ≠ 0 := fun e => by rw [List.length_eq_zero_iff.mp e] at hin; cases hin
      omega
    · simp -dsimp -implicitDefEqProofs [inD_lst_map dRule_plain dRule_eq, hin, hl]
      refine Hid.mk ⟨g', rs ++ [q], _, _, by rw [List.map_append]; rfl, ?_, ?_, by simp; omega, by simp; omega⟩
      · rw [List.nodup_append]
        exact ⟨nd, by simp, fun a ha b hb => by rw [List.mem_singleton.mp hb]; rintro rfl; exact hin ha⟩
      · intro r ha
        rcases List.mem_append.mp ha with ha | ha
        · exact hr _ ha
        · rw [List.mem_singleton.mp ha]; exact hq

end Gk01
set_option maxRecDepth 100000
set_option maxHeartbeats 4000000
namespace Gk01
open DI
open PySem (Str)
theorem eq_at_atom (n : Nat) (x : D) (h : plainB 0 x = true) : fn__law_equal (n + 1) [x, x] .non = .ok (.bl true) .non := by
  cases x <;> first | (simp [plainB] at h; done) | simp -dsimp -implicitDefEqProofs [fn__law_equal, bd__law_equal]
theorem eqB_seq (n : Nat) (xs : List D) (hl : xs.length < 1000000) (ih : ∀ x ∈ xs, fn__law_equal n [x, x] .non = .ok (.bl true) .non) : fn__law_equal (n + 1) [.lst xs, .lst xs] .non = .ok (.bl true) .non ∧ fn__law_equal (n + 1) [.tup xs, .tup xs] .non = .ok (.bl true) .non := by
  constructor
  all_goals
    simp -dsimp -implicitDefEqProofs [fn__law_equal, bd__law_equal, rangeR_ok (n := (xs.length : Int)) _ _ (by omega) (by omega)]
    rw [DI.comp_map (fun _ => D.bl true) (fun d hd => ?_) (by simp; omega)]
    · simp -dsimp -implicitDefEqProofs
    · obtain ⟨k, rfl, hk⟩ := rangeN_mem hd
      refine ⟨_, rfl, ?_⟩
      simp -dsimp -implicitDefEqProofs [ixD_nat, List.getElem?_eq_getElem hk, ih _ (List.getElem_mem hk)]
theorem dlook_mem : ∀ {l : List (Str × D)}, (l.map (·.1)).Nodup → ∀ p ∈ l, dlook (.str p.1) (l.map fun q => (D.str q.1, q.2)) = some p.2
  | [], _, _, h => by cases h
  | q :: r, nd, p, h => by
    rw [List.map_cons, List.nodup_cons] at nd
    rw [List.map_cons, dlook_cons, keyEq_str]
    rcases List.mem_cons.mp h with rfl | h
    · rw [if_pos (by simp)]
    · rw [if_neg, dlook_mem nd.2 p h]
      intro e
      have e : q.1 = p.1 := by simpa using e
      exact nd.1 (e ▸ List.mem_map_of_mem h)
theorem eqB_dic (n : Nat) (l : List (Str × D)) (hl : l.length < 64) (hs : sortS (l.map (·.1)) = l.map (·.1)) (nd : (l.map (·.1)).Nodup) (ih : ∀ p ∈ l, fn__law_equal n [p.2, p.2] .non = .ok (.bl true) .non) : fn__law_equal (n + 1) [.dic (l.map fun q => (D.str q.1, q.2)), .dic (l.map fun q => (D.str q.1, q.2))] .non = .ok (.bl true) .non := by
  have hk : ((l.map fun q => (D.str q.1, q.2)).map (·.1)) = (l.map (·.1)).map D.str := by rw [List.map_map, List.map_map]; rfl
  have hp : plainB 40 (.lst ((l.map (·.1)).map D.str)) = true := by
    simp only [plainB]
    generalize l.map (·.1) = m
    induction m with
    | nil => rfl
    | cons a m ih => simp only [List.map_cons, plainBs, plainB, ih, Bool.and_self]
  have hq : deqL ((l.map (·.1)).map D.str) ((l.map (·.1)).map D.str) = true := by
    generalize l.map (·.1) = m
    induction m with
    | nil => rfl
    | cons a m ih => simp [ih]
  have hst : strsD ((l.map (·.1)).map D.str) = some (l.map (·.1)) := by
    have := strsD_map (l.map (·.1)) id
    simpa using this
  have hk2 : l.map ((fun x => x.1) ∘ fun q : Str × D => (D.str q.1, q.2)) = (l.map (·.1)).map D.str := by rw [List.map_map]; rfl
  have hll : (l.map (·.1)).length < 64 := by rw [List.length_map]; exact hl
  simp -dsimp -implicitDefEqProofs only [fn__law_equal, bd__law_equal, run_eq, slotsOf_cons, slotsOf_nil, slotOf_dic, List.length_cons, List.length_nil, Nat.reduceAdd, Nat.reduceSub, List.reduceReplicate, List.cons_append, List.nil_append, sSeq_eq, sIf_eq, m1_eq, mVar_eq, List.getElem?_cons_succ, List.getElem?_cons_zero, R.bnd_ok, pIsN_eq, isNon_dic, R.of_some, asB_bl, Bool.false_eq_true, if_false, sPass_eq, pIsF_dic, isTy_dic, List.any_cons, List.any_nil, Bool.or_false, if_true, mOr_eq, mNot_eq, Bool.not_true, mNe_eq, mN_eq, mArgs_cons, mArgs_nil, g1_one, pList_dic, hk, pSorted_lst, hst, hs, hll, neOut_lst, cok_plain (plainB_simple hp) hp hp, pureOut_ok, deq_lst, hq, sRet_eq, mComp_eq, iSeq_eq, seqOf_lst, pList_lst]
  simp -dsimp -implicitDefEqProofs
  rw [DI.comp_map (fun _ => D.bl true) (fun d hd => ?_) (by simp; omega)]
  · simp -dsimp -implicitDefEqProofs
    rw [show l.map ((fun _ => D.bl true) ∘ D.str ∘ fun x => x.1) = l.map (fun x => D.bl ((fun _ => true) x)) from rfl, boolsD_map]
    simp -dsimp -implicitDefEqProofs
  · simp at hd
    obtain ⟨a, ⟨b, hpq⟩, rfl⟩ := hd
    refine ⟨_, rfl, ?_⟩
    have := dlook_mem nd _ hpq
    have h2 := ih _ hpq
    simp -dsimp -implicitDefEqProofs at this h2
    simp -dsimp -implicitDefEqProofs [this, h2]
/-- what law_equal reads: nested up to n; dicts with ascending text keys -/
inductive EqD : Nat → D → Prop
  | atom {n : Nat} {x : D} (h : plainB 0 x = true) : EqD n x
  | lst {n : Nat} {xs : List D} (h : ∀ x ∈ xs, EqD n x) (hl : xs.length < 1000000) : EqD (n + 1) (.lst xs)
  | tup {n : Nat} {xs : List D} (h : ∀ x ∈ xs, EqD n x) (hl : xs.length < 1000000) : EqD (n + 1) (.tup xs)
  | dic {n : Nat} {l : List (Str × D)} (h : ∀ p ∈ l, EqD n p.2) (hl : l.length < 64) (hs : sortS (l.map (·.1)) = l.map (·.1)) (nd : (l.map (·.1)).Nodup) : EqD (n + 1) (.dic (l.map fun q => (D.str q.1, q.2)))
theorem equal_self {n : Nat} {x : D} (h : EqD n x) : fn__law_equal (n + 1) [x, x] .non = .ok (.bl true) .non := by
  induction h with
  | atom h => exact eq_at_atom _ _ h
  | lst h hl ih => exact (eqB_seq _ _ hl ih).1
  | tup h hl ih => exact (eqB_seq _ _ hl ih).2
  | dic h hl hs nd ih => exact eqB_dic _ _ hl hs nd ih
theorem EqD.up {n : Nat} {x : D} (h : EqD n x) : EqD (n + 1) x := by
  induction h with
  | atom h => exact .atom h
  | lst h hl ih => exact .lst ih hl
  | tup h hl ih => exact .tup ih hl
  | dic h hl hs nd ih => exact .dic ih hl hs nd
theorem EqD.le {n m : Nat} {x : D} (h : EqD n x) (l : n ≤ m) : EqD m x := by
  induction l with
  | refl => exact h
  | step _ ih => exact ih.up

end Gk01
set_option maxRecDepth 100000
set_option maxHeartbeats 4000000
namespace Gk01
open DI
open PySem (Str)
theorem dlook_some {f : Int → D} (a : Str) : ∀ ps : List (Str × Int), (dlook (.str a) (ps.map fun q => (D.str q.1, f q.2))).isSome = decide (a ∈ ps.map (·.1))
  | [] => by simp
  | q :: r => by
    rw [List.map_cons, dlook_cons, keyEq_str, List.map_cons]
    by_cases h : q.1 = a
    · subst h; simp
    · rw [if_neg (by simpa using h), dlook_some (f := f) a r]
      have h2 : ¬ a = q.1 := fun e => h e.symm
      simp [h2]
theorem dlook_pr {f : Int → D} {ps : List (Str × Int)} (nd : (ps.map (·.1)).Nodup) {q : Str × Int} (h : q ∈ ps) : dlook (.str q.1) (ps.map fun q => (D.str q.1, f q.2)) = some (f q.2) := by
  induction ps with
  | nil => cases h
  | cons p r ih =>
    rw [List.map_cons, List.nodup_cons] at nd
    rw [List.map_cons, dlook_cons, keyEq_str]
    rcases List.mem_cons.mp h with rfl | h
    · simp
    · rw [if_neg, ih nd.2 h]
      intro e
      have e : p.1 = q.1 := by simpa using e
      exact nd.1 (e ▸ List.mem_map_of_mem h)
theorem is_integer_int (i : Int) : fn_is_integer [.int i] .non = .ok (.bl true) .non := by simp -dsimp -implicitDefEqProofs [fn_is_integer, bd_is_integer]
theorem is_integer_bl (i : Bool) : fn_is_integer [.bl i] .non = .ok (.bl false) .non := by simp -dsimp -implicitDefEqProofs [fn_is_integer, bd_is_integer]
theorem is_integer_non : fn_is_integer [.non] .non = .ok (.bl false) .non := by simp -dsimp -implicitDefEqProofs [fn_is_integer, bd_is_integer]
theorem is_integer_str (i : Str) : fn_is_integer [.str i] .non = .ok (.bl false) .non := by simp -dsimp -implicitDefEqProofs [fn_is_integer, bd_is_integer]
theorem is_integer_tup (i : List D) : fn_is_integer [.tup i] .non = .ok (.bl false) .non := by simp -dsimp -implicitDefEqProofs [fn_is_integer, bd_is_integer]
theorem is_integer_lst (i : List D) : fn_is_integer [.lst i] .non = .ok (.bl false) .non := by simp -dsimp -implicitDefEqProofs [fn_is_integer, bd_is_integer]
theorem is_between_int (i a b : Int) : fn_is_between [.int i, .int a, .int b] .non = .ok (.bl (decide (a ≤ i) && decide (i ≤ b))) .non := by simp -dsimp -implicitDefEqProofs [fn_is_between, bd_is_between, is_integer_int]
theorem is_between_bl (i : Bool) (a b : Int) : fn_is_between [.bl i, .int a, .int b] .non = .ok (.bl false) .non := by simp -dsimp -implicitDefEqProofs [fn_is_between, bd_is_between, is_integer_bl]
theorem is_between_non (a b : Int) : fn_is_between [.non, .int a, .int b] .non = .ok (.bl false) .non := by simp -dsimp -implicitDefEqProofs [fn_is_between, bd_is_between, is_integer_non]
theorem is_between_str (i : Str) (a b : Int) : fn_is_between [.str i, .int a, .int b] .non = .ok (.bl false) .non := by simp -dsimp -implicitDefEqProofs [fn_is_between, bd_is_between, is_integer_str]
theorem is_between_tup (i : List D) (a b : Int) : fn_is_between [.tup i, .int a, .int b] .non = .ok (.bl false) .non := by simp -dsimp -implicitDefEqProofs [fn_is_between, bd_is_between, is_integer_tup]
theorem is_between_lst (i : List D) (a b : Int) : fn_is_between [.lst i, .int a, .int b] .non = .ok (.bl false) .non := by simp -dsimp -implicitDefEqProofs [fn_is_between, bd_is_between, is_integer_lst]
/-- a rule, as a value -/
def isRule (gs : List Str) : D → Bool
  | .tup [.str a, .str b, .int m] => (decide (1 ≤ m) && decide (m ≤ 2)) && (!decide (a = b) && (decide (a ∈ gs) && decide (b ∈ gs)))
  | _ => false
/-- what may stand among rules -/
inductive RuleV : D → Prop
  | tri (a b : Str) (m : Int) : RuleV (.tup [.str a, .str b, .int m])
  | boo (a b : Str) (m : Bool) : RuleV (.tup [.str a, .str b, .bl m])
  | non : RuleV .non
  | two (a b : Str) : RuleV (.tup [.str a, .str b])
  | lst (a b : Str) (m : Int) : RuleV (.lst [.str a, .str b, .int m])
  | odd (k : Int) (a : Str) (m : Int) : RuleV (.tup [.int k, .str a, .int m])
theorem is_rule_eq (ps : List (Str × Int)) {d : D} (h : RuleV d) : fn_is_rule [d, dPr ps] .non = .ok (.bl (isRule (ps.map (·.1)) d)) .non := by
  cases h with
  | tri a b m =>
    by_cases h1 : 1 ≤ m <;> by_cases h2 : m ≤ 2 <;> by_cases h3 : a = b <;> simp -dsimp -implicitDefEqProofs [fn_is_rule, bd_is_rule, dPr, is_between_int, h1, h2, h3, isRule, dlook_some (f := D.int)]
  | boo a b m => simp -dsimp -implicitDefEqProofs [fn_is_rule, bd_is_rule, dPr, is_between_bl, isRule]
  | non => simp -dsimp -implicitDefEqProofs [fn_is_rule, bd_is_rule, dPr, isRule]
  | two a b => simp -dsimp -implicitDefEqProofs [fn_is_rule, bd_is_rule, dPr, isRule]
  | lst a b m => simp -dsimp -implicitDefEqProofs [fn_is_rule, bd_is_rule, dPr, isRule]
  | odd k a m =>
    by_cases h1 : 1 ≤ m <;> by_cases h2 : m ≤ 2 <;> simp -dsimp -implicitDefEqProofs [fn_is_rule, bd_is_rule, dPr, is_between_int, h1, h2, isRule]
def inB (x : D) (xs : List D) : Bool := xs.any fun z => deq z x
theorem inD_plain {x : D} {xs : List D} (hx : plainB 40 x = true) (h : ∀ d ∈ xs, plainB 40 d = true) : inD x (.tup xs) = some (inB x xs) ∧ inD x (.lst xs) = some (inB x xs) := by
  have h1 : (xs.all fun z => cok z dep false x) = true := by
    rw [List.all_eq_true]
    exact fun z hz => cok_plain (plainB_simple hx) hx (h z hz)
  constructor
  all_goals
    show (if _ then _ else _) = _
    rw [if_pos h1]
    rfl
theorem RuleV.plain {d : D} (h : RuleV d) : plainB 40 d = true := by cases h <;> rfl
def badRule (gs : List Str) (ds : List D) (k : Nat) : Bool := !isRule gs (ds.getD k .non) || inB (ds.getD k .non) (ds.take k)
theorem enumD_get : ∀ (ds : List D) (n k : Nat), (enumD n ds)[k]? = (ds[k]?).map fun d => .tup [.int ((n + k : Nat) : Int), d]
  | [], n, k => by simp
  | d :: r, n, 0 => by simp
  | d :: r, n, k + 1 => by
    rw [enumD_cons, List.getElem?_cons_succ, enumD_get r (n + 1) k, List.getElem?_cons_succ, show n + 1 + k = n + (k + 1) by omega]
theorem enumD_length : ∀ (ds : List D) (n : Nat), (enumD n ds).length = ds.length
  | [], _ => rfl
  | d :: r, n => by rw [enumD_cons, List.length_cons, List.length_cons, enumD_length r]
theorem need_rules_eq (ps : List (Str × Int)) {ds : List D} (hl : ds.length ≤ 6) (h : ∀ d ∈ ds, RuleV d) : fn_need_rules [.tup ds, dPr ps] .non = match firstN (badRule (ps.map (·.1)) ds) 0 ds.length with
  | some k => .err c_BadRule [.int (k : Nat)]
  | none => .ok .non .non := by
  have hl2 : ¬ (6 : Int) < ds.length := by omega
  have hl3 : ¬ 6 < ds.length := by omega
  simp -dsimp -implicitDefEqProofs [fn_need_rules, bd_need_rules, dPr, con_MOST_RULES, hl2, hl3]
  have := for_stop (g := .many [2, 3]) (body := sIf (mOr (mNot (mCall fn_is_rule [mVar 3, mVar 1])) (m2 pIn (mVar 3) (mSlice (mVar 0) none (some (mVar 2))))) (sRaise 2 [mVar 2]) (sPass)) (t := .non) (badRule (ps.map (·.1)) ds)
    (fun k e => ∃ s2 s3, e = [.val (.tup ds), .val (dPr ps), s2, s3]) (fun k => .err c_BadRule [.int (k : Nat)]) (ds := enumD 0 ds) (e := [.val (.tup ds), .val (dPr ps), .none, .none]) 0 ⟨_, _, rfl⟩ ?_
  · rw [enumD_length] at this
    cases hf : firstN (badRule (ps.map (·.1)) ds) 0 ds.length with
    | some k =>
      rw [hf] at this
      exact stops_fin this
    | none =>
      rw [hf] at this
      obtain ⟨e', he, _⟩ := this
      simp only [dPr] at he
      rw [he]; rfl
  · rintro k d e hd ⟨s2, s3, rfl⟩
    rw [enumD_get, Option.map_eq_some_iff] at hd
    obtain ⟨d, hd, rfl⟩ := hd
    have hk := (List.getElem?_eq_some_iff.mp hd).1
    have hg : ds.getD k .non = d := by rw [List.getD_eq_getElem?_getD, hd]; rfl
    have hv : RuleV d := h d (List.mem_of_getElem? hd)
    have hin := (inD_plain hv.plain fun z hz => (h z (List.mem_of_mem_take (i := k) hz)).plain).1
    refine ⟨_, rfl, ?_⟩
    rw [Nat.zero_add]
    simp only [badRule, hg]
    have hr := is_rule_eq ps hv
    simp only [dPr] at hr
    constructor
    · intro hp
      simp only [Bool.or_eq_false_iff, Bool.not_eq_false'] at hp
      simp -dsimp -implicitDefEqProofs [hr, dPr, cutL_to, hin, hp]
      exact Hid.mk ⟨_, _, rfl⟩
    · intro hp
      rw [Bool.or_eq_true, Bool.not_eq_true'] at hp
      by_cases h1 : isRule (ps.map (·.1)) d = true
      · rcases hp with hp | hp
        · rw [h1] at hp; cases hp
        · simp -dsimp -implicitDefEqProofs [hr, dPr, h1, cutL_to, hin, hp]
          rfl
      · simp -dsimp -implicitDefEqProofs [hr, dPr, h1]
        rfl
theorem need_rules_not (ps : List (Str × Int)) {d : D} (h : (∃ xs, d = .lst xs) ∨ d = .non ∨ (∃ s, d = .str s) ∨ ∃ xs, d = .tup xs ∧ 6 < xs.length) : fn_need_rules [d, dPr ps] .non = .err c_BadRule [.int (-1)] := by
  rcases h with ⟨xs, rfl⟩ | rfl | ⟨s, rfl⟩ | ⟨xs, rfl, hl⟩
  · simp -dsimp -implicitDefEqProofs [fn_need_rules, bd_need_rules, dPr]
  · simp -dsimp -implicitDefEqProofs [fn_need_rules, bd_need_rules, dPr]
  · simp -dsimp -implicitDefEqProofs [fn_need_rules, bd_need_rules, dPr]
  · have hl2 : (6 : Int) < xs.length := by omega
    simp -dsimp -implicitDefEqProofs [fn_need_rules, bd_need_rules, dPr, con_MOST_RULES, hl, hl2]
theorem good_apple : fn_is_good [.str "apple"] .non = .ok (.bl true) .non := by rfl
theorem good_bread : fn_is_good [.str "bread"] .non = .ok (.bl true) .non := by rfl
theorem good_corn : fn_is_good [.str "corn"] .non = .ok (.bl true) .non := by rfl
theorem good_a : fn_is_good [.str "a"] .non = .ok (.bl true) .non := by rfl
theorem good_b : fn_is_good [.str "b"] .non = .ok (.bl true) .non := by rfl
theorem good_beer : fn_is_good [.str "beer"] .non = .ok (.bl true) .non := by rfl
theorem good_wine : fn_is_good [.str "wine"] .non = .ok (.bl true) .non := by rfl
/-- the prices of one of the lists of goods -/
inductive PrCase : List (Str × Int) → Prop
  | abc (x y z : Int) : PrCase [("apple", x), ("bread", y), ("corn", z)]
  | ab (x y : Int) : PrCase [("a", x), ("b", y)]
  | bw (x y : Int) : PrCase [("beer", x), ("wine", y)]
theorem PrCase.of {ps : List (Str × Int)} (h : Names (ps.map (·.1))) : PrCase ps := by
  match ps, h with
  | [], h => rcases h with h | h | h <;> exact absurd (congrArg List.length h) (by simp)
  | [_], h => rcases h with h | h | h <;> exact absurd (congrArg List.length h) (by simp)
  | [(a, x), (b, y)], h =>
    rcases h with h | h | h
    · exact absurd (congrArg List.length h) (by simp)
    · simp only [List.map_cons, List.map_nil, List.cons.injEq, and_true] at h
      obtain ⟨rfl, rfl⟩ := h
      exact .ab _ _
    · simp only [List.map_cons, List.map_nil, List.cons.injEq, and_true] at h
      obtain ⟨rfl, rfl⟩ := h
      exact .bw _ _
  | [(a, x), (b, y), (c, z)], h =>
    rcases h with h | h | h
    · simp only [List.map_cons, List.map_nil, List.cons.injEq, and_true] at h
      obtain ⟨rfl, rfl, rfl⟩ := h
      exact .abc _ _ _
    · exact absurd (congrArg List.length h) (by simp)
    · exact absurd (congrArg List.length h) (by simp)
  | _ :: _ :: _ :: _ :: _, h => rcases h with h | h | h <;> exact absurd (congrArg List.length h) (by simp)
theorem are_prices_ok {ps : List (Str × Int)} (h : Names (ps.map (·.1))) (hp : ∀ p ∈ ps, 0 ≤ p.2 ∧ p.2 ≤ 99) : fn_are_prices [dPr ps] .non = .ok (.bl true) .non := by
  cases PrCase.of h with
  | abc x y z =>
    simp only [List.mem_cons, List.not_mem_nil, or_false, forall_eq_or_imp, forall_eq] at hp
    simp -dsimp -implicitDefEqProofs [fn_are_prices, bd_are_prices, dPr, good_apple, good_bread, good_corn, con_MOST_PRICE, is_between_int, hp]
  | ab x y =>
    simp only [List.mem_cons, List.not_mem_nil, or_false, forall_eq_or_imp, forall_eq] at hp
    simp -dsimp -implicitDefEqProofs [fn_are_prices, bd_are_prices, dPr, good_a, good_b, con_MOST_PRICE, is_between_int, hp]
  | bw x y =>
    simp only [List.mem_cons, List.not_mem_nil, or_false, forall_eq_or_imp, forall_eq] at hp
    simp -dsimp -implicitDefEqProofs [fn_are_prices, bd_are_prices, dPr, good_beer, good_wine, con_MOST_PRICE, is_between_int, hp]
theorem sorted_names {g : List Str} (h : Names g) : sortS g = g := by
  rcases h with rfl | rfl | rfl <;> rfl
/-- what may be given as a part -/
inductive PartV : D → Prop
  | int (i : Int) : PartV (.int i)
  | str (s : Str) : PartV (.str s)
  | non : PartV .non
  | bl (b : Bool) : PartV (.bl b)
  | tup (s : Str) : PartV (.tup [.str s])
theorem PartV.plain {d : D} (h : PartV d) : plainB 40 d = true := by cases h <;> rfl
theorem PartV.nt {d : D} (h : PartV d) : d ≠ .trk := by cases h <;> exact nofun
def okVal : D → List D → Bool
  | .int i, vs => inB (.int i) vs
  | .str i, vs => inB (.str i) vs
  | _, _ => false
theorem is_value_eq {d : D} (h : PartV d) {vs : List D} (hv : ∀ v ∈ vs, plainB 40 v = true) : fn_is_value [d, .tup vs] .non = .ok (.bl (okVal d vs)) .non := by
  have hin := fun x hx => (inD_plain (x := x) (xs := vs) hx hv).1
  cases h with
  | int i => simp -dsimp -implicitDefEqProofs [fn_is_value, bd_is_value, hin (.int i) rfl, okVal]
  | str i => simp -dsimp -implicitDefEqProofs [fn_is_value, bd_is_value, hin (.str i) rfl, okVal]
  | non => simp -dsimp -implicitDefEqProofs [fn_is_value, bd_is_value, okVal]
  | bl b => simp -dsimp -implicitDefEqProofs [fn_is_value, bd_is_value, okVal]
  | tup s => simp -dsimp -implicitDefEqProofs [fn_is_value, bd_is_value, okVal]
def v0 : List D := [.int 0, .int 1, .int 2, .int 3]
def v1 : List D := [.str "let", .str "barred"]
def v2 : List D := [.str "first", .str "each", .str "none"]
def v3 : List D := [.str "told", .str "given", .str "lesser"]
def v4 : List D := [.str "split", .str "alike"]
def badPart (d0 d1 d2 d3 d4 : D) : Option Str :=
  if okVal d0 v0 then if okVal d1 v1 then if okVal d2 v2 then if okVal d3 v3 then if okVal d4 v4 then none else some ("pieces" : Str) else some ("pays" : Str) else some ("asks" : Str) else some ("rings" : Str) else some ("chain" : Str)
def dVals (d0 d1 d2 d3 d4 : D) : D := .dic [(.str "chain", d0), (.str "rings", d1), (.str "asks", d2), (.str "pays", d3), (.str "pieces", d4)]
def dBook (ps : List (Str × Int)) (rules d0 d1 d2 d3 d4 : D) : D := .obj c_Book [dPr ps, rules, dVals d0 d1 d2 d3 d4]
@[simp] theorem slotOf_dPr (ps : List (Str × Int)) : slotOf (dPr ps) = .val (dPr ps) := rfl
@[simp] theorem pList_dPr (ps : List (Str × Int)) : pList (dPr ps) = some (.lst ((ps.map (·.1)).map .str)) := by
  unfold dPr
  rw [pList_dic, List.map_map, List.map_map]
  rfl
@[simp] theorem strsD_str (xs : List Str) : strsD (xs.map .str) = some xs := by
  have := strsD_map xs id
  simpa using this
theorem price_comp {ps : List (Str × Int)} (h : Names (ps.map (·.1))) (s2 s3 s4 s5 s6 s7 s8 s9 s10 : Slot) (t : D) : mDComp [11] (iSeq (mN (g1 pSorted) [mN (g1 pList) [mVar 1]])) (.one 11) none (mVar 11) (m2 pItem (mVar 1) (mVar 11)) [.trk, .val (dPr ps), s2, s3, s4, s5, s6, s7, s8, s9, s10, .none] t = .ok (dPr ps) [.trk, .val (dPr ps), s2, s3, s4, s5, s6, s7, s8, s9, s10, .none] t := by
  have hs := sorted_names h
  have hl : (ps.map (·.1)).length < 64 := by rcases h.len with h | h <;> omega
  cases PrCase.of h with
  | abc x y z => simp only [List.map_cons, List.map_nil] at hs; simp -dsimp -implicitDefEqProofs [dPr, hs]
  | ab x y => simp only [List.map_cons, List.map_nil] at hs; simp -dsimp -implicitDefEqProofs [dPr, hs]
  | bw x y => simp only [List.map_cons, List.map_nil] at hs; simp -dsimp -implicitDefEqProofs [dPr, hs]
theorem init_ok {ps : List (Str × Int)} (h : Names (ps.map (·.1))) (hp : ∀ p ∈ ps, 0 ≤ p.2 ∧ p.2 ≤ 99) {rules d0 d1 d2 d3 d4 : D} (hr : fn_need_rules [rules, dPr ps] .non = .ok .non .non) (hrt : rules ≠ .trk) (h0 : PartV d0) (h1 : PartV d1) (h2 : PartV d2) (h3 : PartV d3) (h4 : PartV d4) :
    initOut c_Book fn_Book___init__ [dPr ps, rules, d0, d1, d2, d3, d4] = match badPart d0 d1 d2 d3 d4 with
      | some p => .err c_BadPart [.str p]
      | none => .ok (dBook ps rules d0 d1 d2 d3 d4) .non := by
  have e0 := is_value_eq h0 (vs := v0) (by decide)
  have e1 := is_value_eq h1 (vs := v1) (by decide)
  have e2 := is_value_eq h2 (vs := v2) (by decide)
  have e3 := is_value_eq h3 (vs := v3) (by decide)
  have e4 := is_value_eq h4 (vs := v4) (by decide)
  have ep := are_prices_ok h hp
  unfold initOut badPart
  cases k0 : okVal d0 v0 <;> rw [k0] at e0 <;> unfold v0 at e0
  · simp -dsimp -implicitDefEqProofs [fn_Book___init__, bd_Book___init__, ep, hr, hrt, h0.nt, h1.nt, h2.nt, h3.nt, h4.nt, con_PARTS, kv_PARTS, kdD, e0]
  cases k1 : okVal d1 v1 <;> rw [k1] at e1 <;> unfold v1 at e1
  · simp -dsimp -implicitDefEqProofs [fn_Book___init__, bd_Book___init__, ep, hr, hrt, h0.nt, h1.nt, h2.nt, h3.nt, h4.nt, con_PARTS, kv_PARTS, kdD, e0, e1]
  cases k2 : okVal d2 v2 <;> rw [k2] at e2 <;> unfold v2 at e2
  · simp -dsimp -implicitDefEqProofs [fn_Book___init__, bd_Book___init__, ep, hr, hrt, h0.nt, h1.nt, h2.nt, h3.nt, h4.nt, con_PARTS, kv_PARTS, kdD, e0, e1, e2]
  cases k3 : okVal d3 v3 <;> rw [k3] at e3 <;> unfold v3 at e3
  · simp -dsimp -implicitDefEqProofs [fn_Book___init__, bd_Book___init__, ep, hr, hrt, h0.nt, h1.nt, h2.nt, h3.nt, h4.nt, con_PARTS, kv_PARTS, kdD, e0, e1, e2, e3]
  cases k4 : okVal d4 v4 <;> rw [k4] at e4 <;> unfold v4 at e4
  · simp -dsimp -implicitDefEqProofs [fn_Book___init__, bd_Book___init__, ep, hr, hrt, h0.nt, h1.nt, h2.nt, h3.nt, h4.nt, con_PARTS, kv_PARTS, kdD, e0, e1, e2, e3, e4]
  · have hpc := price_comp h
    simp -dsimp -implicitDefEqProofs [fn_Book___init__, bd_Book___init__, ep, hr, hrt, h0.nt, h1.nt, h2.nt, h3.nt, h4.nt, con_PARTS, kv_PARTS, kdD, e0, e1, e2, e3, e4, -mDComp_eq, hpc, fl_Book_price_table, fl_Book_rule_tuple, fl_Book_values_kept]
    rfl
/-- a book of the law, as it is drawn -/
def dB (ps : List (Str × Int)) (rules d0 d1 d2 d3 d4 : D) : D := .lst [dPr ps, rules, .lst [d0, d1, d2, d3, d4]]
theorem law_book_eq (ps : List (Str × Int)) {rules d0 d1 d2 d3 d4 : D} : fn__law_book [dB ps rules d0 d1 d2 d3 d4] .non = initOut c_Book fn_Book___init__ [dPr ps, rules, d0, d1, d2, d3, d4] := by
  simp -dsimp -implicitDefEqProofs [fn__law_book, bd__law_book, dB, c_Book]
  unfold initOut
  split <;> simp -dsimp -implicitDefEqProofs [*]
theorem bookD_b (x : Bk) : x.b = dB x.prices (.tup (x.rules.map dRule)) (.int x.chain) (.str x.rings) (.str x.asks) (.str x.pays) (.str x.pieces) := rfl
def Bk.book (x : Bk) : D := dBook x.prices (.tup (x.rules.map dRule)) (.int x.chain) (.str x.rings) (.str x.asks) (.str x.pays) (.str x.pieces)
theorem isRule_ok {gs : List Str} {r : Rule} (h : RuleOk gs r) : isRule gs (dRule r) = true := by
  have h1 := h.one
  have h2 := h.two
  have h3 := h.ne
  have h4 : 1 ≤ r.2.2 ∧ r.2.2 ≤ 2 := by rcases h.many with e | e <;> omega
  simp [isRule, dRule, h1, h2, h3, h4]
theorem ruleV (r : Rule) : RuleV (dRule r) := .tri _ _ _
theorem inB_map (r : Rule) (rs : List Rule) : inB (dRule r) (rs.map dRule) = decide (r ∈ rs) := by
  have h1 := (inD_plain (dRule_plain r) (xs := rs.map dRule) fun d hd => by obtain ⟨a, _, rfl⟩ := List.mem_map.mp hd; exact dRule_plain a).2
  rw [inD_lst_map dRule_plain dRule_eq] at h1
  exact (Option.some.inj h1).symm.trans (decide_eq_decide.mpr Iff.rfl)
theorem firstN_none {p : Nat → Bool} : ∀ {n i : Nat}, (∀ k, i ≤ k → k < i + n → p k = false) → firstN p i n = none
  | 0, _, _ => rfl
  | n + 1, i, h => by
    unfold firstN
    rw [h i (Nat.le_refl i) (by omega)]
    exact firstN_none fun k h1 h2 => h k (by omega) (by omega)
theorem badRule_none {gs : List Str} {rs : List Rule} (h : ∀ r ∈ rs, RuleOk gs r) (nd : rs.Nodup) : firstN (badRule gs (rs.map dRule)) 0 (rs.map dRule).length = none := by
  refine firstN_none fun k _ hk => ?_
  rw [Nat.zero_add, List.length_map] at hk
  have e : (rs.map dRule).getD k .non = dRule rs[k] := by rw [List.getD_eq_getElem?_getD, List.getElem?_map, List.getElem?_eq_getElem hk]; rfl
  unfold badRule
  rw [e, isRule_ok (h _ (List.getElem_mem hk)), ← List.map_take, inB_map]
  simp only [Bool.not_true, Bool.false_or, decide_eq_false_iff_not]
  intro hm
  obtain ⟨j, hj, e⟩ := List.getElem_of_mem hm
  rw [List.getElem_take] at e
  rw [List.length_take] at hj
  have := nodup_inj nd (by omega) hk e
  omega
theorem Bk.Ok.need {x : Bk} (h : x.Ok) : fn_need_rules [.tup (x.rules.map dRule), dPr x.prices] .non = .ok .non .non := by
  rw [need_rules_eq x.prices (by rw [List.length_map]; exact h.len) fun d hd => by obtain ⟨a, _, rfl⟩ := List.mem_map.mp hd; exact ruleV a]
  rw [badRule_none h.rules h.nd]
theorem Bk.Ok.bad {x : Bk} (h : x.Ok) : badPart (.int x.chain) (.str x.rings) (.str x.asks) (.str x.pays) (.str x.pieces) = none := by
  have hc : x.chain = 0 ∨ x.chain = 1 ∨ x.chain = 2 ∨ x.chain = 3 := by have := h.chain; omega
  unfold badPart
  have h0 : okVal (.int x.chain) v0 = true := by rcases hc with e | e | e | e <;> rw [e] <;> rfl
  have h1 : okVal (.str x.rings) v1 = true := by rcases h.rings with e | e <;> rw [e] <;> rfl
  have h2 : okVal (.str x.asks) v2 = true := by rcases h.asks with e | e | e <;> rw [e] <;> rfl
  have h3 : okVal (.str x.pays) v3 = true := by rcases h.pays with e | e | e <;> rw [e] <;> rfl
  have h4 : okVal (.str x.pieces) v4 = true := by rcases h.pieces with e | e <;> rw [e] <;> rfl
  simp [h0, h1, h2, h3, h4]
theorem Bk.Ok.init {x : Bk} (h : x.Ok) : initOut c_Book fn_Book___init__ [dPr x.prices, .tup (x.rules.map dRule), .int x.chain, .str x.rings, .str x.asks, .str x.pays, .str x.pieces] = .ok x.book .non := by
  rw [init_ok h.names h.pr h.need nofun (.int _) (.str _) (.str _) (.str _) (.str _), h.bad]
  rfl
theorem Bk.Ok.made {x : Bk} (h : x.Ok) : fn__law_book [x.b] .non = .ok x.book .non := by
  rw [bookD_b, law_book_eq, h.init]

end Gk01
set_option maxRecDepth 100000
set_option maxHeartbeats 4000000
namespace Gk01
open DI
open PySem (Str)
theorem prices_eq (ps : List (Str × Int)) (r d0 d1 d2 d3 d4 : D) : fn_Book_prices [dBook ps r d0 d1 d2 d3 d4] .non = .ok (dPr ps) .non := by
  simp -dsimp -implicitDefEqProofs [fn_Book_prices, bd_Book_prices, dBook, at_price_table]
  simp -dsimp -implicitDefEqProofs [dPr]
theorem rules_eq (ps : List (Str × Int)) (r d0 d1 d2 d3 d4 : D) : fn_Book_rules [dBook ps r d0 d1 d2 d3 d4] .non = .ok r .non := by
  simp -dsimp -implicitDefEqProofs [fn_Book_rules, bd_Book_rules, dBook, at_rule_tuple]
theorem chain_eq (ps : List (Str × Int)) (r d0 d1 d2 d3 d4 : D) : fn_Book_chain [dBook ps r d0 d1 d2 d3 d4] .non = .ok d0 .non := by
  simp -dsimp -implicitDefEqProofs [fn_Book_chain, bd_Book_chain, dBook, at_values_kept, dVals]
theorem rings_eq (ps : List (Str × Int)) (r d0 d1 d2 d3 d4 : D) : fn_Book_rings [dBook ps r d0 d1 d2 d3 d4] .non = .ok d1 .non := by
  simp -dsimp -implicitDefEqProofs [fn_Book_rings, bd_Book_rings, dBook, at_values_kept, dVals]
theorem asks_eq (ps : List (Str × Int)) (r d0 d1 d2 d3 d4 : D) : fn_Book_asks [dBook ps r d0 d1 d2 d3 d4] .non = .ok d2 .non := by
  simp -dsimp -implicitDefEqProofs [fn_Book_asks, bd_Book_asks, dBook, at_values_kept, dVals]
theorem pays_eq (ps : List (Str × Int)) (r d0 d1 d2 d3 d4 : D) : fn_Book_pays [dBook ps r d0 d1 d2 d3 d4] .non = .ok d3 .non := by
  simp -dsimp -implicitDefEqProofs [fn_Book_pays, bd_Book_pays, dBook, at_values_kept, dVals]
theorem pieces_eq (ps : List (Str × Int)) (r d0 d1 d2 d3 d4 : D) : fn_Book_pieces [dBook ps r d0 d1 d2 d3 d4] .non = .ok d4 .non := by
  simp -dsimp -implicitDefEqProofs [fn_Book_pieces, bd_Book_pieces, dBook, at_values_kept, dVals]
theorem goods_eq (ps : List (Str × Int)) (r d0 d1 d2 d3 d4 : D) : fn_Book_goods [dBook ps r d0 d1 d2 d3 d4] .non = .ok (dNames (ps.map (·.1))) .non := by
  simp -dsimp -implicitDefEqProofs [fn_Book_goods, bd_Book_goods, dBook, at_price_table, dNames]
theorem cokK_pr (ps qs : List (Str × Int)) (n : Nat) (b : Bool) : cokK (ps.map fun q => (D.str q.1, D.int q.2)) n b (qs.map fun q => (D.str q.1, D.int q.2)) = true := by
  have h : ∀ (k : D) (qs : List (Str × Int)), (match dlook k (qs.map fun q => (D.str q.1, D.int q.2)) with | some u => simple u | none => true) = true := by
    intro k qs
    induction qs with
    | nil => rfl
    | cons q r ih =>
      rw [List.map_cons, dlook_cons]
      split
      · rename_i h
        split at h
        · cases h; rfl
        · rw [h] at ih; exact ih
      · rfl
  induction ps with
  | nil => rfl
  | cons p r ih =>
    rw [List.map_cons, cokK_cons, ih, Bool.and_true]
    exact h _ _
theorem slotOf_dBook (ps : List (Str × Int)) (r d0 d1 d2 d3 d4 : D) : slotOf (dBook ps r d0 d1 d2 d3 d4) = .val (dBook ps r d0 d1 d2 d3 d4) := rfl
/-- two plain data may be compared -/
theorem eqOut_plain {ks : List (Nat × Fn)} {x y : D} (hx : plainB 40 x = true) (hy : plainB 40 y = true) : eqOut ks x y = .ok (.bl (deq x y)) .non := by
  rw [eqOut_data ks x y (by intro c fs e; subst e; cases hx), if_pos (cok_plain (plainB_simple hy) hy hx)]
theorem book_eq {ps qs : List (Str × Int)} {r r' d0 d1 d2 d3 d4 c0 c1 c2 c3 c4 : D} (hr : plainB 40 r = true) (hr' : plainB 40 r' = true) (h0 : plainB 39 d0 = true) (h1 : plainB 39 d1 = true) (h2 : plainB 39 d2 = true) (h3 : plainB 39 d3 = true) (h4 : plainB 39 d4 = true)
    (k0 : plainB 39 c0 = true) (k1 : plainB 39 c1 = true) (k2 : plainB 39 c2 = true) (k3 : plainB 39 c3 = true) (k4 : plainB 39 c4 = true) :
    fn_Book___eq__ [dBook ps r d0 d1 d2 d3 d4, dBook qs r' c0 c1 c2 c3 c4] .non = .ok (.bl (deq (dPr ps) (dPr qs) && (deq r r' && (deq d0 c0 && (deq d1 c1 && (deq d2 c2 && (deq d3 c3 && deq d4 c4))))))) .non := by
  have e1 := eqOut_plain (ks := []) hr hr'
  have g0 := cok_plain (b := true) (plainB_simple k0) k0 h0
  have g1 := cok_plain (b := true) (plainB_simple k1) k1 h1
  have g2 := cok_plain (b := true) (plainB_simple k2) k2 h2
  have g3 := cok_plain (b := true) (plainB_simple k3) k3 h3
  have g4 := cok_plain (b := true) (plainB_simple k4) k4 h4
  have e2 : eqOut [] (dVals d0 d1 d2 d3 d4) (dVals c0 c1 c2 c3 c4) = .ok (.bl (deq d0 c0 && (deq d1 c1 && (deq d2 c2 && (deq d3 c3 && deq d4 c4))))) .non := by
    unfold dVals
    rw [eqOut_dic, cok_dic]
    simp [g0, g1, g2, g3, g4]
  have e3 : neOut [] (dPr ps) (dPr qs) = .ok (.bl (deq (dPr ps) (dPr qs))) .non := by
    unfold dPr
    rw [neOut_dic, cokK_pr, Bool.or_true, if_pos rfl]
  cases hp : deq (dPr ps) (dPr qs) <;> rw [hp] at e3 <;> simp -dsimp -implicitDefEqProofs [fn_Book___eq__, bd_Book___eq__, dBook, obs, obsL, at_price_table, at_rule_tuple, at_values_kept, e1, e2, e3]
mutual
theorem deq_self : ∀ {n : Nat} {d : D}, plainB n d = true → deq d d = true
  | _, .non, _ => rfl
  | _, .bl b, _ => by simp
  | _, .int b, _ => by simp
  | _, .str b, _ => by simp
  | n, .lst xs, h => by
    cases n with
    | zero => simp [plainB] at h
    | succ n => rw [deq_lst]; exact deqL_self (n := n) (by simpa [plainB] using h)
  | n, .tup xs, h => by
    cases n with
    | zero => simp [plainB] at h
    | succ n => rw [deq_tup]; exact deqL_self (n := n) (by simpa [plainB] using h)
  | n, .dic _, h => by cases n <;> simp [plainB] at h
  | n, .kdic _, h => by cases n <;> simp [plainB] at h
  | n, .obj _ _, h => by cases n <;> simp [plainB] at h
  | n, .trk, h => by cases n <;> simp [plainB] at h
theorem deqL_self : ∀ {n : Nat} {xs : List D}, plainBs n xs = true → deqL xs xs = true
  | _, [], _ => rfl
  | n, x :: xs, h => by
    simp only [plainBs, Bool.and_eq_true] at h
    rw [deqL_cons, deq_self h.1, deqL_self h.2]
    rfl
end
theorem deq_pr_self {ps : List (Str × Int)} (nd : (ps.map (·.1)).Nodup) : deq (dPr ps) (dPr ps) = true := by
  have h : ∀ l : List (Str × Int), (∀ p ∈ l, p ∈ ps) → deqK (l.map fun q => (D.str q.1, D.int q.2)) (ps.map fun q => (D.str q.1, D.int q.2)) = true := by
    intro l
    induction l with
    | nil => exact fun _ => rfl
    | cons p r ih =>
      intro h
      rw [List.map_cons, deqK_cons, ih fun q hq => h q (List.mem_cons_of_mem _ hq), dlook_pr nd (h p List.mem_cons_self)]
      simp
  unfold dPr
  rw [deq_dic, h ps fun _ h => h]
  simp
theorem with_values_eq (ps : List (Str × Int)) {r d0 d1 d2 d3 d4 r' c0 c1 c2 c3 c4 : D} (hr : r' ≠ .trk) : fn_Book_with_values [dBook ps r d0 d1 d2 d3 d4, r', dVals c0 c1 c2 c3 c4] .non = initOut c_Book fn_Book___init__ [dPr ps, r', c0, c1, c2, c3, c4] := by
  have h1 : slotOf (dVals c0 c1 c2 c3 c4) = .val (dVals c0 c1 c2 c3 c4) := rfl
  simp -dsimp -implicitDefEqProofs [fn_Book_with_values, bd_Book_with_values, slotOf_dBook, h1, hr]
  simp -dsimp -implicitDefEqProofs [dBook, at_price_table]
  simp -dsimp -implicitDefEqProofs [dVals, c_Book]
  unfold initOut
  split <;> simp -dsimp -implicitDefEqProofs [*]
/-- the parts of a book with one changed -/
theorem changed_eq (ps : List (Str × Int)) {r d0 d1 d2 d3 d4 v : D} (hr : r ≠ .trk) (hv : v ≠ .trk) :
    fn_Book_changed [dBook ps r d0 d1 d2 d3 d4, .str "chain", v] .non = initOut c_Book fn_Book___init__ [dPr ps, r, v, d1, d2, d3, d4] ∧
    fn_Book_changed [dBook ps r d0 d1 d2 d3 d4, .str "rings", v] .non = initOut c_Book fn_Book___init__ [dPr ps, r, d0, v, d2, d3, d4] ∧
    fn_Book_changed [dBook ps r d0 d1 d2 d3 d4, .str "asks", v] .non = initOut c_Book fn_Book___init__ [dPr ps, r, d0, d1, v, d3, d4] ∧
    fn_Book_changed [dBook ps r d0 d1 d2 d3 d4, .str "pays", v] .non = initOut c_Book fn_Book___init__ [dPr ps, r, d0, d1, d2, v, d4] ∧
    fn_Book_changed [dBook ps r d0 d1 d2 d3 d4, .str "pieces", v] .non = initOut c_Book fn_Book___init__ [dPr ps, r, d0, d1, d2, d3, v] := by
  have w : ∀ c0 c1 c2 c3 c4 : D, fn_Book_with_values [.obj c_Book [dPr ps, r, .dic [(.str "chain", d0), (.str "rings", d1), (.str "asks", d2), (.str "pays", d3), (.str "pieces", d4)]], r, .dic [(.str "chain", c0), (.str "rings", c1), (.str "asks", c2), (.str "pays", c3), (.str "pieces", c4)]] .non = initOut c_Book fn_Book___init__ [dPr ps, r, c0, c1, c2, c3, c4] := fun c0 c1 c2 c3 c4 => with_values_eq ps (d0 := d0) (d1 := d1) (d2 := d2) (d3 := d3) (d4 := d4) (c0 := c0) (c1 := c1) (c2 := c2) (c3 := c3) (c4 := c4) hr
  refine ⟨?_, ?_, ?_, ?_, ?_⟩
  all_goals
    simp -dsimp -implicitDefEqProofs [fn_Book_changed, bd_Book_changed, dBook, dVals, hv, con_PARTS, kdD, kv_PARTS, at_values_kept, at_rule_tuple, me_with_values, w]
    unfold initOut
    split <;> simp -dsimp -implicitDefEqProofs [*]
theorem cutL_from1 {α : Type} (xs : List α) (k : Nat) : cutL xs (some ((k : Int) + 1)) none = xs.drop (k + 1) := cutL_from xs (k + 1)
theorem cutL_from2 {α : Type} (xs : List α) (k : Nat) : cutL xs (some ((k : Int) + 2)) none = xs.drop (k + 2) := cutL_from xs (k + 2)
theorem with_values_w (ps : List (Str × Int)) {r d0 d1 d2 d3 d4 r' : D} (hr : r' ≠ .trk) : fn_Book_with_values [.obj c_Book [dPr ps, r, .dic [(.str "chain", d0), (.str "rings", d1), (.str "asks", d2), (.str "pays", d3), (.str "pieces", d4)]], r', .dic [(.str "chain", d0), (.str "rings", d1), (.str "asks", d2), (.str "pays", d3), (.str "pieces", d4)]] .non = initOut c_Book fn_Book___init__ [dPr ps, r', d0, d1, d2, d3, d4] :=
  with_values_eq ps (d0 := d0) (d1 := d1) (d2 := d2) (d3 := d3) (d4 := d4) (c0 := d0) (c1 := d1) (c2 := d2) (c3 := d3) (c4 := d4) hr
/-- what an index is for n rules -/
inductive IndexV (n : Nat) : D → Prop
  | ok (k : Nat) (h : k < n) : IndexV n (.int k)
  | bad (i : Int) (h : i < 0 ∨ n ≤ i) : IndexV n (.int i)
  | non : IndexV n .non
  | bl (b : Bool) : IndexV n (.bl b)
theorem need_index_ok (b : D) (hb : slotOf b = .val b) (k n : Nat) (h : k < n) : fn_Book_need_index [b, .int k, .int n] .non = .ok .non .non := by
  have h1 : (k : Int) ≤ n - 1 := by omega
  simp -dsimp -implicitDefEqProofs [fn_Book_need_index, bd_Book_need_index, is_between_int, h1, hb]
theorem need_index_bad (b : D) (hb : slotOf b = .val b) {d : D} {n : Int} (h : d = .non ∨ (∃ b, d = .bl b) ∨ ∃ i, d = .int i ∧ (i < 0 ∨ n ≤ i)) : fn_Book_need_index [b, d, .int n] .non = .err c_UnknownRule [d] := by
  rcases h with rfl | ⟨x, rfl⟩ | ⟨i, rfl, h⟩
  · simp -dsimp -implicitDefEqProofs [fn_Book_need_index, bd_Book_need_index, is_between_non, hb]
  · simp -dsimp -implicitDefEqProofs [fn_Book_need_index, bd_Book_need_index, is_between_bl, hb]
  · have h1 : (decide (0 ≤ i) && decide (i ≤ n - 1)) = false := by
      simp only [Bool.and_eq_false_iff, decide_eq_false_iff_not]
      omega
    simp -dsimp -implicitDefEqProofs [fn_Book_need_index, bd_Book_need_index, is_between_int, h1, hb]
theorem without_ok (ps : List (Str × Int)) {ds : List D} {d0 d1 d2 d3 d4 : D} (k : Nat) (h : k < ds.length) (hl : ds.length ≤ 1000) : fn_Book_without [dBook ps (.tup ds) d0 d1 d2 d3 d4, .int k] .non = initOut c_Book fn_Book___init__ [dPr ps, .tup (ds.take k ++ ds.drop (k + 1)), d0, d1, d2, d3, d4] := by
  have hn := need_index_ok (dBook ps (.tup ds) d0 d1 d2 d3 d4) rfl k ds.length h
  unfold dBook dVals at hn
  have h2 : (ds.take k).length + (ds.drop (k + 1)).length ≤ 16777216 := by rw [List.length_take, List.length_drop]; omega
  have w := with_values_w ps (r := .tup ds) (d0 := d0) (d1 := d1) (d2 := d2) (d3 := d3) (d4 := d4) (r' := .tup (ds.take k ++ ds.drop (k + 1))) nofun
  have h2 : min k ds.length + (ds.length - (k + 1)) ≤ 16777216 := by omega
  simp -dsimp -implicitDefEqProofs [fn_Book_without, bd_Book_without, dBook, dVals, me_need_index, at_rule_tuple, at_values_kept, me_with_values, hn, cutL_to, cutL_from1, h2, w]
  unfold initOut
  split <;> simp -dsimp -implicitDefEqProofs [*]
theorem without_bad (ps : List (Str × Int)) {ds : List D} {d d0 d1 d2 d3 d4 : D} (h : d = .non ∨ (∃ b, d = .bl b) ∨ ∃ i, d = .int i ∧ (i < 0 ∨ (ds.length : Int) ≤ i)) : fn_Book_without [dBook ps (.tup ds) d0 d1 d2 d3 d4, d] .non = .err c_UnknownRule [d] := by
  have hn := need_index_bad (dBook ps (.tup ds) d0 d1 d2 d3 d4) rfl h
  unfold dBook dVals at hn
  have hd : d ≠ .trk := by rcases h with rfl | ⟨x, rfl⟩ | ⟨i, rfl, h⟩ <;> exact nofun
  simp -dsimp -implicitDefEqProofs [fn_Book_without, bd_Book_without, dBook, dVals, me_need_index, at_rule_tuple, hn, hd]
theorem exchanged_ok (ps : List (Str × Int)) {ds : List D} {d0 d1 d2 d3 d4 : D} (k : Nat) (h : k + 1 < ds.length) (hl : ds.length ≤ 1000) : fn_Book_exchanged [dBook ps (.tup ds) d0 d1 d2 d3 d4, .int k] .non = initOut c_Book fn_Book___init__ [dPr ps, .tup (ds.take k ++ [ds[k + 1], ds[k]] ++ ds.drop (k + 2)), d0, d1, d2, d3, d4] := by
  have hn := need_index_ok (dBook ps (.tup ds) d0 d1 d2 d3 d4) rfl k (ds.length - 1) (by omega)
  rw [show ((ds.length - 1 : Nat) : Int) = (ds.length : Int) - 1 by omega] at hn
  unfold dBook dVals at hn
  have w := with_values_w ps (r := .tup ds) (d0 := d0) (d1 := d1) (d2 := d2) (d3 := d3) (d4 := d4) (r' := .tup (ds.take k ++ [ds[k + 1], ds[k]] ++ ds.drop (k + 2))) nofun
  simp only [List.append_assoc, List.cons_append, List.nil_append] at w
  have h2 : min k ds.length + 2 + (ds.length - (k + 2)) ≤ 16777216 := by omega
  have h3 : min k ds.length + 2 ≤ 16777216 := by omega
  have i1 : ixD ds ((k : Int) + 1) = some ds[k + 1] := by rw [show ((k : Int) + 1) = ((k + 1 : Nat) : Int) from rfl, ixD_nat, List.getElem?_eq_getElem h]
  have i0 : ixD ds (k : Int) = some ds[k] := by rw [ixD_nat, List.getElem?_eq_getElem (by omega)]
  simp -dsimp -implicitDefEqProofs [fn_Book_exchanged, bd_Book_exchanged, dBook, dVals, me_need_index, at_rule_tuple, at_values_kept, me_with_values, hn, cutL_to, cutL_from2, h2, h3, i0, i1, w]
  unfold initOut
  split <;> simp -dsimp -implicitDefEqProofs [*]
theorem exchanged_bad (ps : List (Str × Int)) {ds : List D} {d d0 d1 d2 d3 d4 : D} (h : d = .non ∨ (∃ b, d = .bl b) ∨ ∃ i, d = .int i ∧ (i < 0 ∨ (ds.length : Int) - 1 ≤ i)) : fn_Book_exchanged [dBook ps (.tup ds) d0 d1 d2 d3 d4, d] .non = .err c_UnknownRule [d] := by
  have hn := need_index_bad (dBook ps (.tup ds) d0 d1 d2 d3 d4) rfl h
  unfold dBook dVals at hn
  have hd : d ≠ .trk := by rcases h with rfl | ⟨x, rfl⟩ | ⟨i, rfl, h⟩ <;> exact nofun
  simp -dsimp -implicitDefEqProofs [fn_Book_exchanged, bd_Book_exchanged, dBook, dVals, me_need_index, at_rule_tuple, hn, hd]
theorem eqs_self {ps : List (Str × Int)} {r d0 d1 d2 d3 d4 : D} (nd : (ps.map (·.1)).Nodup) (hr : plainB 40 r = true) (h0 : plainB 39 d0 = true) (h1 : plainB 39 d1 = true) (h2 : plainB 39 d2 = true) (h3 : plainB 39 d3 = true) (h4 : plainB 39 d4 = true) :
    eqOut eqs (dBook ps r d0 d1 d2 d3 d4) (dBook ps r d0 d1 d2 d3 d4) = .ok (.bl true) .non := by
  have h := book_eq (ps := ps) (qs := ps) hr hr h0 h1 h2 h3 h4 h0 h1 h2 h3 h4
  rw [deq_pr_self nd, deq_self hr, deq_self h0, deq_self h1, deq_self h2, deq_self h3, deq_self h4] at h
  unfold dBook at h ⊢
  simp -dsimp -implicitDefEqProofs [eqs, ownEq, h]
theorem plainBs_map {α : Type} {f : α → D} {n : Nat} (h : ∀ a, plainB n (f a) = true) : ∀ l : List α, plainBs n (l.map f) = true
  | [] => rfl
  | a :: l => by rw [List.map_cons]; simp only [plainBs, h, plainBs_map h l, Bool.and_self]
theorem rules_plain (rs : List Rule) : plainB 40 (.tup (rs.map dRule)) = true := by
  show plainBs 39 (rs.map dRule) = true
  exact plainBs_map (fun _ => rfl) rs
theorem Bk.Ok.eq_self {x : Bk} (h : x.Ok) : eqOut eqs x.book x.book = .ok (.bl true) .non := eqs_self h.names.nodup (rules_plain _) rfl rfl rfl rfl rfl
theorem Bk.Ok.rules' {x : Bk} (h : x.Ok) (rs : List Rule) (hm : ∀ r ∈ rs, r ∈ x.rules) (nd : rs.Nodup) (hl : rs.length ≤ 6) : Bk.Ok { x with rules := rs } :=
  ⟨h.names, h.pr, fun r hr => h.rules r (hm r hr), nd, hl, h.chain, h.rings, h.asks, h.pays, h.pieces⟩
def Bk.without (x : Bk) (k : Nat) : Bk := { x with rules := x.rules.take k ++ x.rules.drop (k + 1) }
theorem take_drop_get {α : Type} {l : List α} {k : Nat} (h : k < l.length) : l.take k ++ l[k] :: l.drop (k + 1) = l := by
  rw [← List.drop_eq_getElem_cons h, List.take_append_drop]
theorem Bk.Ok.without {x : Bk} (h : x.Ok) (k : Nat) : (x.without k).Ok := by
  have sub : List.Sublist (x.rules.take k ++ x.rules.drop (k + 1)) x.rules := by
    by_cases hk : k < x.rules.length
    · conv => rhs; rw [← take_drop_get hk]
      exact List.Sublist.append (List.Sublist.refl _) (List.sublist_cons_self _ _)
    · rw [List.drop_of_length_le (by omega), List.append_nil]
      exact List.take_sublist _ _
  exact h.rules' _ (fun r hr => sub.subset hr) (sub.nodup h.nd) (Nat.le_trans sub.length_le h.len)
def Bk.swapped (x : Bk) (k : Nat) (h : k + 1 < x.rules.length) : Bk := { x with rules := x.rules.take k ++ [x.rules[k + 1], x.rules[k]] ++ x.rules.drop (k + 2) }
theorem Bk.Ok.swapped {x : Bk} (h : x.Ok) (k : Nat) (hk : k + 1 < x.rules.length) : (x.swapped k hk).Ok := by
  have pm : List.Perm (x.rules.take k ++ [x.rules[k + 1], x.rules[k]] ++ x.rules.drop (k + 2)) x.rules := by
    conv => rhs; rw [← take_drop_get (l := x.rules) (k := k) (by omega), List.drop_eq_getElem_cons hk]
    rw [List.append_assoc]
    exact List.Perm.append_left _ (List.Perm.swap _ _ _)
  exact h.rules' _ (fun r hr => pm.subset hr) (pm.nodup_iff.mpr h.nd) (by rw [pm.length_eq]; exact h.len)
theorem Bk.Ok.without_eq {x : Bk} (h : x.Ok) (k : Nat) (hk : k < x.rules.length) : fn_Book_without [x.book, .int k] .non = .ok (x.without k).book .non := by
  have h1 := without_ok x.prices (ds := x.rules.map dRule) (d0 := .int x.chain) (d1 := .str x.rings) (d2 := .str x.asks) (d3 := .str x.pays) (d4 := .str x.pieces) k (by rw [List.length_map]; exact hk) (by rw [List.length_map]; have := h.len; omega)
  rw [← List.map_take, ← List.map_drop, ← List.map_append] at h1
  exact h1.trans (h.without k).init
theorem Bk.Ok.exchanged_eq {x : Bk} (h : x.Ok) (k : Nat) (hk : k + 1 < x.rules.length) : fn_Book_exchanged [x.book, .int k] .non = .ok (x.swapped k hk).book .non := by
  have h1 := exchanged_ok x.prices (ds := x.rules.map dRule) (d0 := .int x.chain) (d1 := .str x.rings) (d2 := .str x.asks) (d3 := .str x.pays) (d4 := .str x.pieces) k (by rw [List.length_map]; exact hk) (by rw [List.length_map]; have := h.len; omega)
  rw [List.getElem_map, List.getElem_map, show [dRule x.rules[k + 1], dRule x.rules[k]] = [x.rules[k + 1], x.rules[k]].map dRule from rfl, ← List.map_take, ← List.map_drop, ← List.map_append, ← List.map_append] at h1
  exact h1.trans (h.swapped k hk).init

end Gk01
set_option maxRecDepth 100000
set_option maxHeartbeats 4000000
namespace Gk01
open DI
open PySem (Str)
theorem is_swap_eq {gs : List Str} {d : D} (h : RuleV d) : fn__law_is_swap [d, dNames gs] .non = .ok (.bl (isRule gs d)) .non := by
  have hs : ∀ (a : Str) (l : List Str), inD (.str a) (.lst (l.map .str)) = some (decide (a ∈ l)) := fun a l => inD_lst_map (f := D.str) (fun _ => rfl) (fun _ _ => rfl) a l
  have hn : ∀ (a : Int) (l : List Str), inD (.int a) (.lst (l.map .str)) = some false := fun a l => by
    have h1 : ((l.map D.str).all fun z => cok z dep false (.int a)) = true := by
      rw [List.all_eq_true]
      intro z hz
      obtain ⟨s, _, rfl⟩ := List.mem_map.mp hz
      rfl
    have h2 : ((l.map D.str).any fun z => deq z (.int a)) = false := by
      rw [List.any_eq_false]
      intro z hz
      obtain ⟨s, _, rfl⟩ := List.mem_map.mp hz
      exact Bool.false_ne_true
    show (if _ then _ else _) = _
    rw [if_pos h1, h2]
  cases h with
  | tri a b m =>
    by_cases h1 : a ∈ gs <;> by_cases h2 : b ∈ gs <;> by_cases h3 : a = b <;> simp -dsimp -implicitDefEqProofs [fn__law_is_swap, bd__law_is_swap, dNames, hs, h1, h2, h3, isRule, inD_lst]
    by_cases h4 : 1 = m <;> by_cases h5 : 2 = m <;> by_cases h6 : 1 ≤ m <;> by_cases h7 : m ≤ 2 <;> simp [h4, h5, h6, h7] <;> omega
  | boo a b m =>
    by_cases h1 : a ∈ gs <;> by_cases h2 : b ∈ gs <;> by_cases h3 : a = b <;> simp -dsimp -implicitDefEqProofs [fn__law_is_swap, bd__law_is_swap, dNames, hs, h1, h2, h3, isRule, inD_lst]
  | non => simp -dsimp -implicitDefEqProofs [fn__law_is_swap, bd__law_is_swap, dNames, isRule]
  | two a b => simp -dsimp -implicitDefEqProofs [fn__law_is_swap, bd__law_is_swap, dNames, isRule]
  | lst a b m => simp -dsimp -implicitDefEqProofs [fn__law_is_swap, bd__law_is_swap, dNames, isRule]
  | odd k a m => simp -dsimp -implicitDefEqProofs [fn__law_is_swap, bd__law_is_swap, dNames, isRule, hn]
/-- what may be given as rules -/
inductive RulesV : D → Prop
  | tup (ds : List D) (h : ds.length ≤ 6 → ∀ d ∈ ds, RuleV d) : RulesV (.tup ds)
  | lst (ds : List D) : RulesV (.lst ds)
  | non : RulesV .non
  | str (s : Str) : RulesV (.str s)
def wrongOf (gs : List Str) (rules d0 d1 d2 d3 d4 : D) : D := match rules with
  | .tup ds => if 6 < ds.length then .lst [.str "rule", .int (-1)] else match firstN (badRule gs ds) 0 ds.length with
    | some k => .lst [.str "rule", .int (k : Nat)]
    | none => match badPart d0 d1 d2 d3 d4 with
      | some p => .lst [.str "part", .str p]
      | none => .non
  | _ => .lst [.str "rule", .int (-1)]
theorem RulesV.nt {d : D} (h : RulesV d) : d ≠ .trk := by cases h <;> exact nofun
theorem law_part {d : D} (h : PartV d) {vs : List D} (hv : ∀ v ∈ vs, plainB 40 v = true) (hn : ∀ v ∈ vs, (∃ i, v = .int i) ∨ ∃ s, v = .str s) :
    ((∃ b, d = .bl b) ∧ okVal d vs = false) ∨ ((∀ b, d ≠ .bl b) ∧ inD d (.lst vs) = some (okVal d vs)) := by
  have hin := fun x hx => (inD_plain (x := x) (xs := vs) hx hv).2
  have hf : ∀ x : D, x = .non ∨ (∃ s, x = .tup [.str s]) → inB x vs = false := by
    intro x hx
    unfold inB
    rw [List.any_eq_false]
    intro z hz
    rcases hn z hz with ⟨i, rfl⟩ | ⟨i, rfl⟩ <;> rcases hx with rfl | ⟨s, rfl⟩ <;> exact Bool.false_ne_true
  cases h with
  | int i => exact .inr ⟨nofun, hin _ rfl⟩
  | str i => exact .inr ⟨nofun, hin _ rfl⟩
  | non => exact .inr ⟨nofun, by rw [hin _ rfl, hf _ (.inl rfl)]; rfl⟩
  | bl b => exact .inl ⟨⟨b, rfl⟩, rfl⟩
  | tup s => exact .inr ⟨nofun, by rw [hin _ rfl, hf _ (.inr ⟨s, rfl⟩)]; rfl⟩
theorem part_case {d : D} (h : PartV d) {vs : List D} (hv : ∀ v ∈ vs, plainB 40 v = true) (hn : ∀ v ∈ vs, (∃ i, v = .int i) ∨ ∃ s, v = .str s) :
    (okVal d vs = true ∧ pIsF (fun d => isTy d .bool) [] d = some (.bl false) ∧ inD d (.lst vs) = some true) ∨ (okVal d vs = false ∧ pIsF (fun d => isTy d .bool) [] d = some (.bl true)) ∨ (okVal d vs = false ∧ pIsF (fun d => isTy d .bool) [] d = some (.bl false) ∧ inD d (.lst vs) = some false) := by
  rcases law_part h hv hn with ⟨⟨x, rfl⟩, h2⟩ | ⟨h1, h2⟩
  · exact .inr (.inl ⟨h2, rfl⟩)
  · have hp : pIsF (fun d => isTy d .bool) [] d = some (.bl false) := by cases h <;> first | rfl | exact absurd rfl (h1 _)
    cases ho : okVal d vs with
    | true => exact .inl ⟨rfl, hp, by rw [h2, ho]⟩
    | false => exact .inr (.inr ⟨rfl, hp, by rw [h2, ho]⟩)
theorem getD_of {ds : List D} {k : Nat} (hk : k < ds.length) : ds.getD k .non = ds[k] := by rw [List.getD_eq_getElem?_getD, List.getElem?_eq_getElem hk]; rfl
theorem wrong_eq {ps : List (Str × Int)} {rules d0 d1 d2 d3 d4 : D} (hr : RulesV rules) (h0 : PartV d0) (h1 : PartV d1) (h2 : PartV d2) (h3 : PartV d3) (h4 : PartV d4) :
    fn__law_wrong [dB ps rules d0 d1 d2 d3 d4] .non = .ok (wrongOf (ps.map (·.1)) rules d0 d1 d2 d3 d4) .non := by
  have hd : isNon (dPr ps) = false := rfl
  cases hr with
  | lst ds => simp -dsimp -implicitDefEqProofs [fn__law_wrong, bd__law_wrong, dB, wrongOf, hd]
  | non => simp -dsimp -implicitDefEqProofs [fn__law_wrong, bd__law_wrong, dB, wrongOf, hd]
  | str s => simp -dsimp -implicitDefEqProofs [fn__law_wrong, bd__law_wrong, dB, wrongOf, hd]
  | tup ds h =>
    by_cases hl : 6 < ds.length
    · have hl2 : (6 : Int) < ds.length := by omega
      simp -dsimp -implicitDefEqProofs [fn__law_wrong, bd__law_wrong, dB, wrongOf, hd, hl, hl2]
    have hl2 : ¬ (6 : Int) < ds.length := by omega
    have hv := h (by omega)
    simp -dsimp -implicitDefEqProofs [fn__law_wrong, bd__law_wrong, dB, wrongOf, hd, hl, hl2, rangeR_ok (n := (ds.length : Int)) _ _ (by omega) (by omega)]
    have := for_stop (g := .one 1) (body := sIf (mOr (m2 pIn (m2 pItem (m2 pItem (mVar 0) (mConst (.int 1))) (mVar 1)) (mSlice (m2 pItem (mVar 0) (mConst (.int 1))) none (some (mVar 1)))) (mNot (mCall fn__law_is_swap [m2 pItem (m2 pItem (mVar 0) (mConst (.int 1))) (mVar 1), mN (g1 pList) [m2 pItem (mVar 0) (mConst (.int 0))]]))) (sRet (mLst [mConst (.str "rule"), mVar 1])) (sPass)) (t := .non) (badRule (ps.map (·.1)) ds)
      (fun k e => ∃ s1, e = [.val (.lst [dPr ps, .tup ds, .lst [d0, d1, d2, d3, d4]]), s1, .none, .none]) (fun k => .ok (.lst [.str "rule", .int (k : Nat)]) .non) (ds := rangeN ds.length) (e := [.val (.lst [dPr ps, .tup ds, .lst [d0, d1, d2, d3, d4]]), .none, .none, .none]) 0 ⟨_, rfl⟩ ?_
    · rw [rangeN_length] at this
      cases hf : firstN (badRule (ps.map (·.1)) ds) 0 ds.length with
      | some k =>
        rw [hf] at this
        exact stops_seq this _
      | none =>
        rw [hf] at this
        obtain ⟨e', he, s1, rfl⟩ := this
        rw [he]
        simp -dsimp -implicitDefEqProofs [parts_eq]
        have c0 := part_case h0 (vs := [.int 0, .int 1, .int 2, .int 3]) (by decide) (by simp)
        have c1 := part_case h1 (vs := [.str "let", .str "barred"]) (by decide) (by simp)
        have c2 := part_case h2 (vs := [.str "first", .str "each", .str "none"]) (by decide) (by simp)
        have c3 := part_case h3 (vs := [.str "told", .str "given", .str "lesser"]) (by decide) (by simp)
        have c4 := part_case h4 (vs := [.str "split", .str "alike"]) (by decide) (by simp)
        simp only [badPart, v0, v1, v2, v3, v4]
        rcases c0 with ⟨a0, b0, c0⟩ | ⟨a0, b0⟩ | ⟨a0, b0, c0⟩
        · rcases c1 with ⟨a1, b1, c1⟩ | ⟨a1, b1⟩ | ⟨a1, b1, c1⟩
          · rcases c2 with ⟨a2, b2, c2⟩ | ⟨a2, b2⟩ | ⟨a2, b2, c2⟩
            · rcases c3 with ⟨a3, b3, c3⟩ | ⟨a3, b3⟩ | ⟨a3, b3, c3⟩
              · rcases c4 with ⟨a4, b4, c4⟩ | ⟨a4, b4⟩ | ⟨a4, b4, c4⟩ <;> simp -dsimp -implicitDefEqProofs [parts_eq, *]
              · simp -dsimp -implicitDefEqProofs [parts_eq, *]
              · simp -dsimp -implicitDefEqProofs [parts_eq, *]
            · simp -dsimp -implicitDefEqProofs [parts_eq, *]
            · simp -dsimp -implicitDefEqProofs [parts_eq, *]
          · simp -dsimp -implicitDefEqProofs [parts_eq, *]
          · simp -dsimp -implicitDefEqProofs [parts_eq, *]
        · simp -dsimp -implicitDefEqProofs [parts_eq, *]
        · simp -dsimp -implicitDefEqProofs [parts_eq, *]
    · rintro k d e hd ⟨s1, rfl⟩
      have hk : k < ds.length := by have := (List.getElem?_eq_some_iff.mp hd).1; rwa [rangeN_length] at this
      obtain rfl : d = .int (k : Nat) := by
        unfold rangeN at hd
        rw [List.getElem?_map, List.getElem?_range hk] at hd
        exact (Option.some.inj hd).symm
      have hg := getD_of hk
      have hvk : RuleV ds[k] := hv _ (List.getElem_mem hk)
      have hin := (inD_plain hvk.plain fun z hz => (hv z (List.mem_of_mem_take (i := k) hz)).plain).1
      have hsw := is_swap_eq (gs := ps.map (·.1)) hvk
      unfold dNames at hsw
      rw [List.map_map] at hsw
      have hix : ixD ds (k : Int) = some ds[k] := by rw [ixD_nat, List.getElem?_eq_getElem hk]
      refine ⟨_, rfl, ?_⟩
      rw [Nat.zero_add]
      simp only [badRule, hg]
      constructor
      · intro hp
        simp only [Bool.or_eq_false_iff, Bool.not_eq_false'] at hp
        simp -dsimp -implicitDefEqProofs [hix, cutL_to, hin, hp, hsw]
        exact Hid.mk ⟨_, rfl⟩
      · intro hp
        rw [Bool.or_eq_true, Bool.not_eq_true'] at hp
        by_cases h1 : inB ds[k] (ds.take k) = true
        · simp -dsimp -implicitDefEqProofs [hix, cutL_to, hin, h1]
          rfl
        · rcases hp with hp | hp
          · simp -dsimp -implicitDefEqProofs [hix, cutL_to, hin, h1, hsw, hp]
            rfl
          · exact absurd hp h1
theorem init_bad {ps : List (Str × Int)} (h : Names (ps.map (·.1))) (hp : ∀ p ∈ ps, 0 ≤ p.2 ∧ p.2 ≤ 99) {rules d0 d1 d2 d3 d4 : D} {c : Nat} {fs : List D} (hr : fn_need_rules [rules, dPr ps] .non = .err c fs) (hrt : rules ≠ .trk) (h0 : PartV d0) (h1 : PartV d1) (h2 : PartV d2) (h3 : PartV d3) (h4 : PartV d4) :
    initOut c_Book fn_Book___init__ [dPr ps, rules, d0, d1, d2, d3, d4] = .err c fs := by
  unfold initOut
  simp -dsimp -implicitDefEqProofs [fn_Book___init__, bd_Book___init__, are_prices_ok h hp, hr, hrt, h0.nt, h1.nt, h2.nt, h3.nt, h4.nt]
theorem made_prices {b : D} (hb : b ≠ .trk) (h : fn__law_book [b] .non = .err c_BadPrices []) : fn__law_made [b] .non = .ok (.lst [.str "prices"]) .non := by
  simp -dsimp -implicitDefEqProofs [fn__law_made, bd__law_made, hb, h, excs, excL]
theorem made_rule {b d : D} (hb : b ≠ .trk) (h : fn__law_book [b] .non = .err c_BadRule [d]) : fn__law_made [b] .non = .ok (.lst [.str "rule", d]) .non := by
  simp -dsimp -implicitDefEqProofs [fn__law_made, bd__law_made, hb, h, excs, excL]
theorem made_part {b d : D} (hb : b ≠ .trk) (h : fn__law_book [b] .non = .err c_BadPart [d]) : fn__law_made [b] .non = .ok (.lst [.str "part", d]) .non := by
  simp -dsimp -implicitDefEqProofs [fn__law_made, bd__law_made, hb, h, excs, excL]
theorem made_ok {b d : D} (hb : b ≠ .trk) (h : fn__law_book [b] .non = .ok d .non) : fn__law_made [b] .non = .ok d .non := by
  simp -dsimp -implicitDefEqProofs [fn__law_made, bd__law_made, hb, h]
theorem made_eq {ps : List (Str × Int)} (h : Names (ps.map (·.1))) (hp : ∀ p ∈ ps, 0 ≤ p.2 ∧ p.2 ≤ 99) {rules d0 d1 d2 d3 d4 : D} (hr : RulesV rules) (h0 : PartV d0) (h1 : PartV d1) (h2 : PartV d2) (h3 : PartV d3) (h4 : PartV d4) :
    fn__law_made [dB ps rules d0 d1 d2 d3 d4] .non = .ok (match wrongOf (ps.map (·.1)) rules d0 d1 d2 d3 d4 with
      | .non => dBook ps rules d0 d1 d2 d3 d4
      | w => w) .non := by
  have hb : dB ps rules d0 d1 d2 d3 d4 ≠ .trk := nofun
  have bad : ∀ k : D, fn_need_rules [rules, dPr ps] .non = .err c_BadRule [k] → fn__law_made [dB ps rules d0 d1 d2 d3 d4] .non = .ok (.lst [.str "rule", k]) .non := fun k e => by
    exact made_rule hb ((law_book_eq ps).trans (init_bad h hp e hr.nt h0 h1 h2 h3 h4))
  cases hr with
  | lst ds => exact bad _ (need_rules_not ps (.inl ⟨_, rfl⟩))
  | non => exact bad _ (need_rules_not ps (.inr (.inl rfl)))
  | str s => exact bad _ (need_rules_not ps (.inr (.inr (.inl ⟨_, rfl⟩))))
  | tup ds hv =>
    by_cases hl : 6 < ds.length
    · rw [bad _ (need_rules_not ps (.inr (.inr (.inr ⟨_, rfl, hl⟩))))]
      simp only [wrongOf, hl, if_true]
    · simp only [wrongOf, hl, if_false]
      have hn := need_rules_eq ps (by omega) (hv (by omega))
      cases hf : firstN (badRule (ps.map (·.1)) ds) 0 ds.length with
      | some k =>
        rw [hf] at hn
        exact bad _ hn
      | none =>
        rw [hf] at hn
        have hi := init_ok h hp hn nofun h0 h1 h2 h3 h4
        cases hbp : badPart d0 d1 d2 d3 d4 with
        | some p =>
          rw [hbp] at hi
          exact made_part hb ((law_book_eq ps).trans hi)
        | none =>
          rw [hbp] at hi
          exact made_ok hb ((law_book_eq ps).trans hi)

end Gk01
set_option maxRecDepth 100000
set_option maxHeartbeats 4000000
namespace Gk01
open DI
open PySem (Str)
section
variable {ps : List (Str × Int)} {r d0 d1 d2 d3 d4 : D}
theorem later_changed_ok {p v d : D} (hp : p ≠ .trk) (hv : v ≠ .trk) (h : fn_Book_changed [dBook ps r d0 d1 d2 d3 d4, p, v] .non = .ok d .non) : fn__law_later [dBook ps r d0 d1 d2 d3 d4, .str "changed", p, v] .non = .ok d .non := by
  unfold dBook at h ⊢
  simp -dsimp -implicitDefEqProofs [fn__law_later, bd__law_later, hp, hv, me_changed, h]
theorem later_changed_bad {p v d : D} (hp : p ≠ .trk) (hv : v ≠ .trk) (h : fn_Book_changed [dBook ps r d0 d1 d2 d3 d4, p, v] .non = .err c_BadPart [d]) : fn__law_later [dBook ps r d0 d1 d2 d3 d4, .str "changed", p, v] .non = .ok (.lst [.str "bad", d]) .non := by
  unfold dBook at h ⊢
  simp -dsimp -implicitDefEqProofs [fn__law_later, bd__law_later, hp, hv, me_changed, h, excs, excL]
theorem later_changed_unk {p v d : D} (hp : p ≠ .trk) (hv : v ≠ .trk) (h : fn_Book_changed [dBook ps r d0 d1 d2 d3 d4, p, v] .non = .err c_UnknownPart [d]) : fn__law_later [dBook ps r d0 d1 d2 d3 d4, .str "changed", p, v] .non = .ok (.lst [.str "part", d]) .non := by
  unfold dBook at h ⊢
  simp -dsimp -implicitDefEqProofs [fn__law_later, bd__law_later, hp, hv, me_changed, h, excs, excL]
theorem later_without_ok {v d : D} (hv : v ≠ .trk) (h : fn_Book_without [dBook ps r d0 d1 d2 d3 d4, v] .non = .ok d .non) : fn__law_later [dBook ps r d0 d1 d2 d3 d4, .str "without", v, .non] .non = .ok d .non := by
  unfold dBook at h ⊢
  simp -dsimp -implicitDefEqProofs [fn__law_later, bd__law_later, hv, me_without, h]
theorem later_without_bad {v d : D} (hv : v ≠ .trk) (h : fn_Book_without [dBook ps r d0 d1 d2 d3 d4, v] .non = .err c_UnknownRule [d]) : fn__law_later [dBook ps r d0 d1 d2 d3 d4, .str "without", v, .non] .non = .ok (.lst [.str "rule", d]) .non := by
  unfold dBook at h ⊢
  simp -dsimp -implicitDefEqProofs [fn__law_later, bd__law_later, hv, me_without, h, excs, excL]
theorem later_exchanged_ok {v d : D} (hv : v ≠ .trk) (h : fn_Book_exchanged [dBook ps r d0 d1 d2 d3 d4, v] .non = .ok d .non) : fn__law_later [dBook ps r d0 d1 d2 d3 d4, .str "exchanged", v, .non] .non = .ok d .non := by
  unfold dBook at h ⊢
  simp -dsimp -implicitDefEqProofs [fn__law_later, bd__law_later, hv, me_exchanged, h]
theorem later_exchanged_bad {v d : D} (hv : v ≠ .trk) (h : fn_Book_exchanged [dBook ps r d0 d1 d2 d3 d4, v] .non = .err c_UnknownRule [d]) : fn__law_later [dBook ps r d0 d1 d2 d3 d4, .str "exchanged", v, .non] .non = .ok (.lst [.str "rule", d]) .non := by
  unfold dBook at h ⊢
  simp -dsimp -implicitDefEqProofs [fn__law_later, bd__law_later, hv, me_exchanged, h, excs, excL]
end
/-- what isRule says -/
theorem isRule_of {gs : List Str} {d : D} (h : isRule gs d = true) : ∃ r : Rule, d = dRule r ∧ RuleOk gs r := by
  unfold isRule at h
  split at h
  · rename_i a b m
    simp only [Bool.and_eq_true, decide_eq_true_eq, Bool.not_eq_true', decide_eq_false_iff_not] at h
    exact ⟨(a, b, m), rfl, h.2.2.1, h.2.2.2, h.2.1, by show m = 1 ∨ m = 2; omega⟩
  · cases h
theorem firstN_none_of {p : Nat → Bool} : ∀ {n i : Nat}, firstN p i n = none → ∀ k, i ≤ k → k < i + n → p k = false
  | 0, _, _, k, h1, h2 => by omega
  | n + 1, i, h, k, h1, h2 => by
    unfold firstN at h
    split at h
    · cases h
    · rename_i hp
      rcases Nat.lt_or_ge i k with hk | hk
      · exact firstN_none_of h k hk (by omega)
      · obtain rfl : i = k := by omega
        simpa using hp
theorem rules_of {gs : List Str} : ∀ {ds : List D}, (∀ d ∈ ds, isRule gs d = true) → ∃ rs : List Rule, ds = rs.map dRule ∧ ∀ r ∈ rs, RuleOk gs r
  | [], _ => ⟨[], rfl, by simp⟩
  | d :: r, h => by
    obtain ⟨q, rfl, hq⟩ := isRule_of (h d List.mem_cons_self)
    obtain ⟨rs, rfl, hr⟩ := rules_of fun x hx => h x (List.mem_cons_of_mem _ hx)
    exact ⟨q :: rs, rfl, fun r hr' => by
      rcases List.mem_cons.mp hr' with rfl | h
      · exact hq
      · exact hr _ h⟩
theorem okVal0 {d : D} (h : okVal d v0 = true) : ∃ c : Int, d = .int c ∧ 0 ≤ c ∧ c ≤ 3 := by
  cases d <;> simp [okVal, inB, v0] at h
  · rename_i i
    exact ⟨i, rfl, by omega⟩
  · simp [deq] at h
theorem okVal1 {d : D} (h : okVal d v1 = true) : ∃ c : Str, d = .str c ∧ (c = "let" ∨ c = "barred") := by
  cases d <;> simp [okVal, inB, v1] at h
  · simp [deq] at h
  · exact ⟨_, rfl, by simpa [eq_comm] using h⟩
theorem okVal2 {d : D} (h : okVal d v2 = true) : ∃ c : Str, d = .str c ∧ (c = "first" ∨ c = "each" ∨ c = "none") := by
  cases d <;> simp [okVal, inB, v2] at h
  · simp [deq] at h
  · exact ⟨_, rfl, by simpa [eq_comm] using h⟩
theorem okVal3 {d : D} (h : okVal d v3 = true) : ∃ c : Str, d = .str c ∧ (c = "told" ∨ c = "given" ∨ c = "lesser") := by
  cases d <;> simp [okVal, inB, v3] at h
  · simp [deq] at h
  · exact ⟨_, rfl, by simpa [eq_comm] using h⟩
theorem okVal4 {d : D} (h : okVal d v4 = true) : ∃ c : Str, d = .str c ∧ (c = "split" ∨ c = "alike") := by
  cases d <;> simp [okVal, inB, v4] at h
  · simp [deq] at h
  · exact ⟨_, rfl, by simpa [eq_comm] using h⟩
theorem wrong_none {ps : List (Str × Int)} (h : Names (ps.map (·.1))) (hp : ∀ p ∈ ps, 0 ≤ p.2 ∧ p.2 ≤ 99) {rules d0 d1 d2 d3 d4 : D} (hw : isNon (wrongOf (ps.map (·.1)) rules d0 d1 d2 d3 d4) = true) :
    ∃ x : Bk, x.Ok ∧ x.prices = ps ∧ rules = .tup (x.rules.map dRule) ∧ d0 = .int x.chain ∧ d1 = .str x.rings ∧ d2 = .str x.asks ∧ d3 = .str x.pays ∧ d4 = .str x.pieces := by
  unfold wrongOf at hw
  split at hw
  · rename_i ds
    split at hw
    · cases hw
    · rename_i hl
      split at hw
      · cases hw
      · rename_i hf
        split at hw
        · cases hw
        · rename_i hb
          have hf := firstN_none_of hf
          have hd : ∀ d ∈ ds, isRule (ps.map (·.1)) d = true := by
            intro d hd
            obtain ⟨k, hk, rfl⟩ := List.getElem_of_mem hd
            have := hf k (Nat.zero_le _) (by omega)
            unfold badRule at this
            rw [getD_of hk] at this
            simp only [Bool.or_eq_false_iff, Bool.not_eq_false'] at this
            exact this.1
          obtain ⟨rs, rfl, hrs⟩ := rules_of hd
          have nd : rs.Nodup := by
            rw [List.nodup_iff_pairwise_ne, List.pairwise_iff_getElem]
            intro i j hi hj hij e
            have := hf j (Nat.zero_le _) (by rw [List.length_map]; omega)
            unfold badRule at this
            rw [getD_of (by rw [List.length_map]; exact hj), List.getElem_map, ← List.map_take, inB_map] at this
            simp only [Bool.or_eq_false_iff, Bool.not_eq_false', decide_eq_false_iff_not] at this
            refine this.2 ?_
            rw [← e]
            exact List.mem_take_iff_getElem.mpr ⟨i, by omega, rfl⟩
          unfold badPart at hb
          split at hb
          · rename_i k0
            split at hb
            · rename_i k1
              split at hb
              · rename_i k2
                split at hb
                · rename_i k3
                  split at hb
                  · rename_i k4
                    obtain ⟨c0, rfl, h0⟩ := okVal0 k0
                    obtain ⟨c1, rfl, h1⟩ := okVal1 k1
                    obtain ⟨c2, rfl, h2⟩ := okVal2 k2
                    obtain ⟨c3, rfl, h3⟩ := okVal3 k3
                    obtain ⟨c4, rfl, h4⟩ := okVal4 k4
                    exact ⟨⟨ps, rs, c0, c1, c2, c3, c4⟩, ⟨h, hp, hrs, nd, by simp at hl; exact hl, h0, h1, h2, h3, h4⟩, rfl, rfl, rfl, rfl, rfl, rfl, rfl⟩
                  · cases hb
                · cases hb
              · cases hb
            · cases hb
          · cases hb
  · cases hw

end Gk01
set_option maxRecDepth 100000
set_option maxHeartbeats 4000000
namespace Gk01
open DI
open PySem (Str)
structure SpV (rules d0 d1 d2 d3 d4 : D) : Prop where
  r : RulesV rules
  h0 : PartV d0
  h1 : PartV d1
  h2 : PartV d2
  h3 : PartV d3
  h4 : PartV d4
  len : ∀ ds, rules = .tup ds → 1 ≤ ds.length ∧ ds.length ≤ 100
theorem spoiled_sat {t : D} (g : GD t) {x : Bk} (hx : x.Drawn) {P : D → D → Prop} (h : ∀ r d0 d1 d2 d3 d4 t', SpV r d0 d1 d2 d3 d4 → GD t' → P (dB x.prices r d0 d1 d2 d3 d4) t') : (fn__law_spoiled [.trk, x.b] t).call P := by
  have hrl1 := hx.one
  have hrl5 := hx.five
  have hpl : 2 ≤ x.prices.length := by have := hx.names.len; rw [List.length_map] at this; omega
  obtain ⟨n0, n1, hn0, hn1⟩ : ∃ n0 n1 : Str × Int, x.prices[0]? = some n0 ∧ x.prices[1]? = some n1 := ⟨_, _, List.getElem?_eq_getElem (by omega), List.getElem?_eq_getElem (by omega)⟩
  obtain ⟨r0, hr0⟩ : ∃ r0, x.rules[0]? = some r0 := ⟨_, List.getElem?_eq_getElem (by omega)⟩
  unfold Bk.b Bk.vals
  simp -dsimp -implicitDefEqProofs [fn__law_spoiled, bd__law_spoiled, Out.call]
  refine ⟨g.ne, below_sat (by omega) (by omega) g fun k t hk hk' g => ?_⟩
  by_cases k0 : k = 0
  · subst k0
    simp -dsimp -implicitDefEqProofs [hn0, hn1, hr0]
    refine ⟨g.ne, below_sat (by omega) (by omega) g fun a t ha ha' g => ?_⟩
    obtain ⟨a, rfl⟩ := Int.eq_ofNat_of_zero_le ha
    have ha : a ≤ x.rules.length := by omega
    simp -dsimp -implicitDefEqProofs [hn0, hn1, hr0]
    refine ⟨g.ne, pick_sat (by simp) (by simp) g fun d t hd g => ?_⟩
    have hv : RuleV d := by
      simp at hd
      rcases hd with rfl | rfl | rfl | rfl | rfl | rfl | rfl | rfl | rfl
      · exact .tri _ _ _
      · exact .tri _ _ _
      · exact .tri _ _ _
      · exact .boo _ _ _
      · exact .non
      · exact .two _ _
      · exact .lst _ _ _
      · exact ruleV _
      · exact .odd _ _ _
    have l1 : min a x.rules.length + 1 ≤ 16777216 := by omega
    have l2 : min a x.rules.length + 1 + (x.rules.length - a) ≤ 16777216 := by omega
    simp -dsimp -implicitDefEqProofs [cutL_to, cutL_from, l1, l2]
    refine ⟨g.ne, h (.tup (((x.rules.map dRule).take a) ++ d :: (x.rules.map dRule).drop a)) _ _ _ _ _ t ⟨.tup _ fun _ q hq => ?_, .int _, .str _, .str _, .str _, .str _, fun ds e => ?_⟩ g |> fun z => by simpa [dB] using z⟩
    · rcases List.mem_append.mp hq with hq | hq
      · obtain ⟨r, _, rfl⟩ := List.mem_map.mp (List.mem_of_mem_take hq); exact ruleV r
      · rcases List.mem_cons.mp hq with rfl | hq
        · exact hv
        · obtain ⟨r, _, rfl⟩ := List.mem_map.mp (List.mem_of_mem_drop hq); exact ruleV r
    · cases e
      simp
      omega
  · by_cases k1 : k = 1
    · subst k1
      have m2 : x.rules.length + x.rules.length ≤ 16777216 := by omega
      have m3 : x.rules.length + x.rules.length + x.rules.length ≤ 16777216 := by omega
      have m4 : x.rules.length + x.rules.length + x.rules.length + x.rules.length ≤ 16777216 := by omega
      have m5 : x.rules.length + x.rules.length + x.rules.length + x.rules.length + x.rules.length ≤ 16777216 := by omega
      have m6 : x.rules.length + x.rules.length + x.rules.length + x.rules.length + x.rules.length + x.rules.length ≤ 16777216 := by omega
      have m7 : x.rules.length + x.rules.length + x.rules.length + x.rules.length + x.rules.length + x.rules.length + x.rules.length ≤ 16777216 := by omega
      simp -dsimp -implicitDefEqProofs [-List.append_assoc, m2, m3, m4, m5, m6, m7]
      refine ⟨g.ne, pick_sat (by simp) (by simp) g fun d t hd g => ?_⟩
      have hv : RulesV d ∧ ∀ ds, d = .tup ds → 1 ≤ ds.length ∧ ds.length ≤ 100 := by
        simp only [List.mem_cons, List.not_mem_nil, or_false] at hd
        rcases hd with rfl | rfl | rfl | rfl
        · exact ⟨.lst _, nofun⟩
        · exact ⟨.non, nofun⟩
        · refine ⟨.tup _ fun z => ?_, fun ds e => ?_⟩
          · simp at z; omega
          · cases e; simp; omega
        · exact ⟨.str _, nofun⟩
      have hd := hv.1.nt
      simp -dsimp -implicitDefEqProofs
      exact ⟨g.ne, h _ _ _ _ _ _ t ⟨hv.1, .int _, .str _, .str _, .str _, .str _, hv.2⟩ g⟩
    · simp -dsimp -implicitDefEqProofs [k0, k1]
      refine ⟨g.ne, pick_sat (by simp) (by simp) g fun d t hd g => ?_⟩
      have hv : PartV d := by
        simp at hd
        rcases hd with rfl | rfl | rfl | rfl | rfl | rfl | rfl | rfl | rfl | rfl
        · exact .non
        · exact .str _
        · exact .int _
        · exact .int _
        · exact .bl _
        · exact .str _
        · exact .str _
        · exact .str _
        · exact .int _
        · exact .tup _
      simp -dsimp -implicitDefEqProofs
      refine ⟨g.ne, below_sat (by omega) (by omega) g fun a t ha ha' g => ?_⟩
      have hlen : ∀ ds, D.tup (x.rules.map dRule) = .tup ds → 1 ≤ ds.length ∧ ds.length ≤ 100 := by
        intro ds e; cases e; rw [List.length_map]; omega
      have hrv : RulesV (.tup (x.rules.map dRule)) := .tup _ fun _ q hq => by obtain ⟨r, _, rfl⟩ := List.mem_map.mp hq; exact ruleV r
      have ha5 : a = 0 ∨ a = 1 ∨ a = 2 ∨ a = 3 ∨ a = 4 := by omega
      rcases ha5 with rfl | rfl | rfl | rfl | rfl
      · simp -dsimp -implicitDefEqProofs; exact ⟨g.ne, h _ _ _ _ _ _ t ⟨hrv, hv, .str _, .str _, .str _, .str _, hlen⟩ g⟩
      · simp -dsimp -implicitDefEqProofs; exact ⟨g.ne, h _ _ _ _ _ _ t ⟨hrv, .int _, hv, .str _, .str _, .str _, hlen⟩ g⟩
      · simp -dsimp -implicitDefEqProofs; exact ⟨g.ne, h _ _ _ _ _ _ t ⟨hrv, .int _, .str _, hv, .str _, .str _, hlen⟩ g⟩
      · simp -dsimp -implicitDefEqProofs; exact ⟨g.ne, h _ _ _ _ _ _ t ⟨hrv, .int _, .str _, .str _, hv, .str _, hlen⟩ g⟩
      · simp -dsimp -implicitDefEqProofs; exact ⟨g.ne, h _ _ _ _ _ _ t ⟨hrv, .int _, .str _, .str _, .str _, hv, hlen⟩ g⟩

end Gk01
set_option maxRecDepth 100000
set_option maxHeartbeats 4000000
namespace Gk01
open DI
open PySem (Str)
theorem book_nt (x : Bk) : slotOf x.book = .val x.book := rfl
theorem b_nt (x : Bk) : slotOf x.b = .val x.b := rfl
theorem later_w_ok {x y : Bk} {k : D} (hk : k ≠ .trk) (h : fn_Book_without [x.book, k] .non = .ok y.book .non) : fn__law_later [x.book, .str "without", k, .non] .non = .ok y.book .non := later_without_ok hk h
theorem later_e_ok {x y : Bk} {k : D} (hk : k ≠ .trk) (h : fn_Book_exchanged [x.book, k] .non = .ok y.book .non) : fn__law_later [x.book, .str "exchanged", k, .non] .non = .ok y.book .non := later_exchanged_ok hk h
theorem later_w_bad {x : Bk} {k : D} (hk : k ≠ .trk) (h : fn_Book_without [x.book, k] .non = .err c_UnknownRule [k]) : fn__law_later [x.book, .str "without", k, .non] .non = .ok (.lst [.str "rule", k]) .non := later_without_bad hk h
theorem later_e_bad {x : Bk} {k : D} (hk : k ≠ .trk) (h : fn_Book_exchanged [x.book, k] .non = .err c_UnknownRule [k]) : fn__law_later [x.book, .str "exchanged", k, .non] .non = .ok (.lst [.str "rule", k]) .non := later_exchanged_bad hk h
theorem placed_bad {x : Bk} (h : x.Ok) {k : D} (hk : k = .non ∨ (∃ b, k = .bl b) ∨ ∃ i, k = .int i ∧ (i < 0 ∨ (x.rules.length : Int) ≤ i)) : fn__law_placed [x.book, x.b, k] .non = .ok (.bl true) .non := by
  have nt : k ≠ .trk := by rcases hk with rfl | ⟨x, rfl⟩ | ⟨i, rfl, h⟩ <;> exact nofun
  have h1 : fn_Book_without [x.book, k] .non = .err c_UnknownRule [k] := without_bad x.prices (ds := x.rules.map dRule) (by rw [List.length_map]; exact hk)
  have h2 : fn_Book_exchanged [x.book, k] .non = .err c_UnknownRule [k] := exchanged_bad x.prices (ds := x.rules.map dRule) (by
    rw [List.length_map]
    rcases hk with rfl | ⟨x, rfl⟩ | ⟨i, rfl, h⟩
    · exact .inl rfl
    · exact .inr (.inl ⟨_, rfl⟩)
    · exact .inr (.inr ⟨_, rfl, by omega⟩))
  have l1 := later_w_bad nt h1
  have l2 := later_e_bad nt h2
  have pk : plainB 38 k = true := by rcases hk with rfl | ⟨x, rfl⟩ | ⟨i, rfl, h⟩ <;> rfl
  have e1 : eqOut eqs (.lst [.str "rule", k]) (.lst [.str "rule", k]) = .ok (.bl true) .non := by
    have hp : plainB 40 (.lst [.str "rule", k]) = true := by
      rcases hk with rfl | ⟨x, rfl⟩ | ⟨i, rfl, h⟩ <;> rfl
    rw [eqOut_plain hp hp, deq_self hp]
  simp -dsimp -implicitDefEqProofs [fn__law_placed, bd__law_placed, book_nt, b_nt, nt]
  rcases hk with rfl | ⟨x, rfl⟩ | ⟨i, rfl, h⟩
  · simp -dsimp -implicitDefEqProofs [Bk.b]
    simp -dsimp -implicitDefEqProofs [l1, l2, -eqOut_lst, e1]
  · simp -dsimp -implicitDefEqProofs [Bk.b]
    simp -dsimp -implicitDefEqProofs [l1, l2, -eqOut_lst, e1]
  · have : ¬ (0 ≤ i ∧ i < (x.rules.length : Int)) := by omega
    simp -dsimp -implicitDefEqProofs [Bk.b, this]
    simp -dsimp -implicitDefEqProofs [l1, l2, -eqOut_lst, e1]
theorem placed_ok {x : Bk} (h : x.Ok) {k : Nat} (hk : k < x.rules.length) : fn__law_placed [x.book, x.b, .int k] .non = .ok (.bl true) .non := by
  have hl := h.len
  have w1 := h.without_eq k hk
  have l1 := later_w_ok (x := x) (y := x.without k) (k := .int k) nofun w1
  have e1 := (h.without k).eq_self
  have m1 : fn__law_book [.lst [dPr x.prices, .tup ((x.without k).rules.map dRule), .lst x.vals]] .non = .ok (x.without k).book .non := (h.without k).made
  have c0 : 0 ≤ (k : Int) ∧ (k : Int) < x.rules.length := by omega
  have h2 : min k x.rules.length + (x.rules.length - (k + 1)) ≤ 16777216 := by omega
  have er : (x.rules.map dRule).take k ++ (x.rules.map dRule).drop (k + 1) = (x.without k).rules.map dRule := by rw [← List.map_take, ← List.map_drop, ← List.map_append]; rfl
  by_cases hk1 : k + 1 < x.rules.length
  · have c1 : (k : Int) < x.rules.length - 1 := by omega
    have w2 := h.exchanged_eq k hk1
    have l2 := later_e_ok (x := x) (y := x.swapped k hk1) (k := .int k) nofun w2
    have e2 := (h.swapped k hk1).eq_self
    have m2 : fn__law_book [.lst [dPr x.prices, .tup ((x.swapped k hk1).rules.map dRule), .lst x.vals]] .non = .ok (x.swapped k hk1).book .non := (h.swapped k hk1).made
    have er2 : (x.rules.map dRule).take k ++ (dRule x.rules[k + 1] :: dRule x.rules[k] :: (x.rules.map dRule).drop (k + 2)) = (x.swapped k hk1).rules.map dRule := by
      unfold Bk.swapped
      simp
    have h3 : min k x.rules.length + 2 + (x.rules.length - (k + 2)) ≤ 16777216 := by omega
    have h4 : min k x.rules.length + 2 ≤ 16777216 := by omega
    have i1 : ixD (x.rules.map dRule) ((k : Int) + 1) = some (dRule x.rules[k + 1]) := by rw [show ((k : Int) + 1) = ((k + 1 : Nat) : Int) from rfl, ixD_nat, List.getElem?_map, List.getElem?_eq_getElem hk1]; rfl
    have i0 : ixD (x.rules.map dRule) (k : Int) = some (dRule x.rules[k]) := by rw [ixD_nat, List.getElem?_map, List.getElem?_eq_getElem hk]; rfl
    simp -dsimp -implicitDefEqProofs [fn__law_placed, bd__law_placed, book_nt, b_nt]
    simp -dsimp -implicitDefEqProofs [Bk.b, c0, cutL_to, cutL_from1, cutL_from2, h2, h3, h4, er, er2, m1, m2, c1, i0, i1]
    simp -dsimp -implicitDefEqProofs [l1, l2, e1, e2]
  · have c1 : ¬ (k : Int) < x.rules.length - 1 := by omega
    have w2 : fn_Book_exchanged [x.book, .int k] .non = .err c_UnknownRule [.int k] := exchanged_bad x.prices (ds := x.rules.map dRule) (.inr (.inr ⟨_, rfl, by rw [List.length_map]; omega⟩))
    have l2 := later_e_bad (k := .int k) nofun w2
    have e2 : eqOut eqs (.lst [.str "rule", .int k]) (.lst [.str "rule", .int k]) = .ok (.bl true) .non := by
      rw [eqOut_plain (by rfl) (by rfl), deq_self (n := 40) (by rfl)]
    simp -dsimp -implicitDefEqProofs [fn__law_placed, bd__law_placed, book_nt, b_nt]
    simp -dsimp -implicitDefEqProofs [Bk.b, c0, cutL_to, cutL_from1, h2, er, m1, c1]
    simp -dsimp -implicitDefEqProofs [l1, l2, e1, -eqOut_lst, e2]

end Gk01
set_option maxRecDepth 100000
set_option maxHeartbeats 4000000
namespace Gk01
open DI
open PySem (Str)
theorem GD.start (ns : List Int) (salt : Int) : GD (.lst ((randI ns salt).map D.int)) := ⟨seedI salt ns, 0, ns.filter bigI, rfl⟩
/-- the books that are refused for their prices -/
theorem bad_made {d : D} (h : d = .dic [(.str "a", .int 1)] ∨ d = .dic [(.str "a", .int 1), (.str "B", .int 2)] ∨ d = .dic [(.str "a", .int 1), (.str "b", .int 100)] ∨ d = .dic [(.str "a", .int 1), (.str "b", .bl true)] ∨ d = .non ∨ d = .lst [.tup [.str "a", .int 1]]) :
    fn__law_made [.lst [d, .tup [], .lst [.int 0, .str "let", .str "first", .str "told", .str "split"]]] .non = .ok (.lst [.str "prices"]) .non := by
  rcases h with rfl | rfl | rfl | rfl | rfl | rfl <;> rfl
theorem eqD_names (n : Nat) (g : List Str) (h : g.length < 1000) : EqD (n + 1) (dNames g) := by
  refine .lst (fun x hx => ?_) (by rw [List.length_map]; omega)
  obtain ⟨s, _, rfl⟩ := List.mem_map.mp hx
  exact .atom rfl
theorem eqD_pr (n : Nat) {ps : List (Str × Int)} (h : Names (ps.map (·.1))) : EqD (n + 1) (dPr ps) := by
  have e : dPr ps = .dic ((ps.map fun q => (q.1, D.int q.2)).map fun q => (D.str q.1, q.2)) := by unfold dPr; rw [List.map_map]; rfl
  have e2 : (ps.map fun q => (q.1, D.int q.2)).map (·.1) = ps.map (·.1) := by rw [List.map_map]; rfl
  rw [e]
  refine .dic (fun p hp => ?_) (by have := h.len; simp only [List.length_map] at this ⊢; omega) (by rw [e2, sorted_names h]) (by rw [e2]; exact h.nodup)
  obtain ⟨q, _, rfl⟩ := List.mem_map.mp hp
  exact .atom rfl
theorem eqD_rules (n : Nat) (rs : List Rule) (h : rs.length < 1000) : EqD (n + 2) (.tup (rs.map dRule)) := by
  refine .tup (fun x hx => ?_) (by rw [List.length_map]; omega)
  obtain ⟨r, _, rfl⟩ := List.mem_map.mp hx
  refine .tup (fun y hy => ?_) (by simp)
  simp only [List.mem_cons, List.not_mem_nil, or_false] at hy
  rcases hy with rfl | rfl | rfl <;> exact .atom rfl
/-- what is told of a book -/
def toldL (x : Bk) : List D := [dPr x.prices, .tup (x.rules.map dRule), .int x.chain, .str x.rings, .str x.asks, .str x.pays, .str x.pieces, dNames x.goods]
theorem told_eq {x : Bk} (h : x.Ok) : fn__law_equal 12 [.lst (toldL x), .lst (toldL x)] .non = .ok (.bl true) .non := by
  refine equal_self (n := 11) (.lst (fun d hd => ?_) (by simp [toldL]))
  unfold toldL at hd
  simp only [List.mem_cons, List.not_mem_nil, or_false] at hd
  rcases hd with rfl | rfl | rfl | rfl | rfl | rfl | rfl | rfl
  · exact eqD_pr 9 h.names
  · exact eqD_rules 8 _ (by have := h.len; omega)
  · exact .atom rfl
  · exact .atom rfl
  · exact .atom rfl
  · exact .atom rfl
  · exact .atom rfl
  · exact eqD_names 9 _ (by have := h.names.len; omega)
def eqBk (x y : Bk) : Bool := deq (dPr x.prices) (dPr y.prices) && (deq (.tup (x.rules.map dRule)) (.tup (y.rules.map dRule)) && (decide (x.chain = y.chain) && (decide (x.rings = y.rings) && (decide (x.asks = y.asks) && (decide (x.pays = y.pays) && decide (x.pieces = y.pieces))))))
theorem eqs_book (x y : Bk) : eqOut eqs x.book y.book = .ok (.bl (eqBk x y)) .non := by
  have h := book_eq (ps := x.prices) (qs := y.prices) (r := .tup (x.rules.map dRule)) (r' := .tup (y.rules.map dRule)) (d0 := .int x.chain) (d1 := .str x.rings) (d2 := .str x.asks) (d3 := .str x.pays) (d4 := .str x.pieces) (c0 := .int y.chain) (c1 := .str y.rings) (c2 := .str y.asks) (c3 := .str y.pays) (c4 := .str y.pieces) (rules_plain _) (rules_plain _) rfl rfl rfl rfl rfl rfl rfl rfl rfl rfl
  unfold Bk.book
  unfold dBook at h ⊢
  simp -dsimp -implicitDefEqProofs [eqs, ownEq, h]
  rfl
theorem eqs_b (x y : Bk) : eqOut eqs x.b y.b = .ok (.bl (eqBk x y)) .non := by
  have hr := rules_plain x.rules
  have hr' := rules_plain y.rules
  have hc : cok x.b dep true y.b = true := by
    have h1 : cok (dPr x.prices) 39 true (dPr y.prices) = true := by
      unfold dPr
      rw [cok_dic, cokK_pr]
      simp
    have h2 : cok (.tup (x.rules.map dRule)) 39 true (.tup (y.rules.map dRule)) = true := cok_plain (n := 39) rfl (show plainB 39 (.tup (y.rules.map dRule)) = true from plainBs_map (n := 38) (fun _ => rfl) _) (show plainB 39 (.tup (x.rules.map dRule)) = true from plainBs_map (n := 38) (fun _ => rfl) _)
    unfold Bk.b
    rw [cok_lst, Bool.or_eq_true]
    refine .inr ?_
    rw [cokL_cons, h1, cokL_cons, h2]
    rfl
  rw [show x.b = .lst [dPr x.prices, .tup (x.rules.map dRule), .lst x.vals] from rfl] at hc ⊢
  rw [eqOut_lst, if_pos hc]
  unfold eqBk Bk.b Bk.vals
  simp only [deq_lst, deqL_cons, deqL_nil, deq_int, deq_str, Bool.and_true]
theorem eqs_bb (x : Bk) : eqOut eqs x.book x.b = .ok (.bl false) .non := by
  have h : fn_Book___eq__ [x.book, x.b] .non = .ok (.bl false) .non := by
    unfold Bk.b
    simp -dsimp -implicitDefEqProofs [fn_Book___eq__, bd_Book___eq__, show slotOf x.book = .val x.book from rfl]
  unfold Bk.book at h ⊢
  unfold dBook at h ⊢
  unfold Bk.b at h ⊢
  simp -dsimp -implicitDefEqProofs [eqs, ownEq, h]
theorem later_chain {x : Bk} (hx : x.Ok) {v : D} (hv : PartV v) :
    (okVal v v0 = true ∧ ∃ y : Bk, y.Ok ∧ fn__law_later [x.book, .str "changed", .str "chain", v] .non = .ok y.book .non ∧ fn__law_book [.lst [dPr x.prices, .tup (x.rules.map dRule), .lst [v, .str x.rings, .str x.asks, .str x.pays, .str x.pieces]]] .non = .ok y.book .non) ∨
    (okVal v v0 = false ∧ fn__law_later [x.book, .str "changed", .str "chain", v] .non = .ok (.lst [.str "bad", .str "chain"]) .non) := by
  have hc := (changed_eq x.prices (r := .tup (x.rules.map dRule)) (d0 := .int x.chain) (d1 := .str x.rings) (d2 := .str x.asks) (d3 := .str x.pays) (d4 := .str x.pieces) (v := v) nofun hv.nt).1
  cases ho : okVal v v0 with
  | true =>
    obtain ⟨c, rfl, h⟩ := okVal0 ho
    have hy : Bk.Ok { x with chain := c } := { hx with chain := h }
    exact .inl ⟨rfl, _, hy, later_changed_ok nofun nofun (hc.trans hy.init), hy.made⟩
  | false =>
    refine .inr ⟨rfl, later_changed_bad nofun hv.nt (hc.trans ?_)⟩
    have hb := hx.bad
    rw [init_ok hx.names hx.pr hx.need nofun hv (.str _) (.str _) (.str _) (.str _)]
    have : badPart (v) (.str x.rings) (.str x.asks) (.str x.pays) (.str x.pieces) = some ("chain" : Str) := by
      unfold badPart at hb ⊢
      revert hb
      rw [ho]
      cases okVal (.int x.chain) v0 <;> cases okVal (.str x.rings) v1 <;> cases okVal (.str x.asks) v2 <;> cases okVal (.str x.pays) v3 <;> cases okVal (.str x.pieces) v4 <;> simp
    rw [this]
theorem later_rings {x : Bk} (hx : x.Ok) {v : D} (hv : PartV v) :
    (okVal v v1 = true ∧ ∃ y : Bk, y.Ok ∧ fn__law_later [x.book, .str "changed", .str "rings", v] .non = .ok y.book .non ∧ fn__law_book [.lst [dPr x.prices, .tup (x.rules.map dRule), .lst [.int x.chain, v, .str x.asks, .str x.pays, .str x.pieces]]] .non = .ok y.book .non) ∨
    (okVal v v1 = false ∧ fn__law_later [x.book, .str "changed", .str "rings", v] .non = .ok (.lst [.str "bad", .str "rings"]) .non) := by
  have hc := (changed_eq x.prices (r := .tup (x.rules.map dRule)) (d0 := .int x.chain) (d1 := .str x.rings) (d2 := .str x.asks) (d3 := .str x.pays) (d4 := .str x.pieces) (v := v) nofun hv.nt).2.1
  cases ho : okVal v v1 with
  | true =>
    obtain ⟨c, rfl, h⟩ := okVal1 ho
    have hy : Bk.Ok { x with rings := c } := { hx with rings := h }
    exact .inl ⟨rfl, _, hy, later_changed_ok nofun nofun (hc.trans hy.init), hy.made⟩
  | false =>
    refine .inr ⟨rfl, later_changed_bad nofun hv.nt (hc.trans ?_)⟩
    have hb := hx.bad
    rw [init_ok hx.names hx.pr hx.need nofun (.int _) hv (.str _) (.str _) (.str _)]
    have : badPart (.int x.chain) (v) (.str x.asks) (.str x.pays) (.str x.pieces) = some ("rings" : Str) := by
      unfold badPart at hb ⊢
      revert hb
      rw [ho]
      cases okVal (.int x.chain) v0 <;> cases okVal (.str x.rings) v1 <;> cases okVal (.str x.asks) v2 <;> cases okVal (.str x.pays) v3 <;> cases okVal (.str x.pieces) v4 <;> simp
    rw [this]
theorem later_asks {x : Bk} (hx : x.Ok) {v : D} (hv : PartV v) :
    (okVal v v2 = true ∧ ∃ y : Bk, y.Ok ∧ fn__law_later [x.book, .str "changed", .str "asks", v] .non = .ok y.book .non ∧ fn__law_book [.lst [dPr x.prices, .tup (x.rules.map dRule), .lst [.int x.chain, .str x.rings, v, .str x.pays, .str x.pieces]]] .non = .ok y.book .non) ∨
    (okVal v v2 = false ∧ fn__law_later [x.book, .str "changed", .str "asks", v] .non = .ok (.lst [.str "bad", .str "asks"]) .non) := by
  have hc := (changed_eq x.prices (r := .tup (x.rules.map dRule)) (d0 := .int x.chain) (d1 := .str x.rings) (d2 := .str x.asks) (d3 := .str x.pays) (d4 := .str x.pieces) (v := v) nofun hv.nt).2.2.1
  cases ho : okVal v v2 with
  | true =>
    obtain ⟨c, rfl, h⟩ := okVal2 ho
    have hy : Bk.Ok { x with asks := c } := { hx with asks := h }
    exact .inl ⟨rfl, _, hy, later_changed_ok nofun nofun (hc.trans hy.init), hy.made⟩
  | false =>
    refine .inr ⟨rfl, later_changed_bad nofun hv.nt (hc.trans ?_)⟩
    have hb := hx.bad
    rw [init_ok hx.names hx.pr hx.need nofun (.int _) (.str _) hv (.str _) (.str _)]
    have : badPart (.int x.chain) (.str x.rings) (v) (.str x.pays) (.str x.pieces) = some ("asks" : Str) := by
      unfold badPart at hb ⊢
      revert hb
      rw [ho]
      cases okVal (.int x.chain) v0 <;> cases okVal (.str x.rings) v1 <;> cases okVal (.str x.asks) v2 <;> cases okVal (.str x.pays) v3 <;> cases okVal (.str x.pieces) v4 <;> simp
    rw [this]
theorem later_pays {x : Bk} (hx : x.Ok) {v : D} (hv : PartV v) :
    (okVal v v3 = true ∧ ∃ y : Bk, y.Ok ∧ fn__law_later [x.book, .str "changed", .str "pays", v] .non = .ok y.book .non ∧ fn__law_book [.lst [dPr x.prices, .tup (x.rules.map dRule), .lst [.int x.chain, .str x.rings, .str x.asks, v, .str x.pieces]]] .non = .ok y.book .non) ∨
    (okVal v v3 = false ∧ fn__law_later [x.book, .str "changed", .str "pays", v] .non = .ok (.lst [.str "bad", .str "pays"]) .non) := by
  have hc := (changed_eq x.prices (r := .tup (x.rules.map dRule)) (d0 := .int x.chain) (d1 := .str x.rings) (d2 := .str x.asks) (d3 := .str x.pays) (d4 := .str x.pieces) (v := v) nofun hv.nt).2.2.2.1
  cases ho : okVal v v3 with
  | true =>
    obtain ⟨c, rfl, h⟩ := okVal3 ho
    have hy : Bk.Ok { x with pays := c } := { hx with pays := h }
    exact .inl ⟨rfl, _, hy, later_changed_ok nofun nofun (hc.trans hy.init), hy.made⟩
  | false =>
    refine .inr ⟨rfl, later_changed_bad nofun hv.nt (hc.trans ?_)⟩
    have hb := hx.bad
    rw [init_ok hx.names hx.pr hx.need nofun (.int _) (.str _) (.str _) hv (.str _)]
    have : badPart (.int x.chain) (.str x.rings) (.str x.asks) (v) (.str x.pieces) = some ("pays" : Str) := by
      unfold badPart at hb ⊢
      revert hb
      rw [ho]
      cases okVal (.int x.chain) v0 <;> cases okVal (.str x.rings) v1 <;> cases okVal (.str x.asks) v2 <;> cases okVal (.str x.pays) v3 <;> cases okVal (.str x.pieces) v4 <;> simp
    rw [this]
theorem later_pieces {x : Bk} (hx : x.Ok) {v : D} (hv : PartV v) :
    (okVal v v4 = true ∧ ∃ y : Bk, y.Ok ∧ fn__law_later [x.book, .str "changed", .str "pieces", v] .non = .ok y.book .non ∧ fn__law_book [.lst [dPr x.prices, .tup (x.rules.map dRule), .lst [.int x.chain, .str x.rings, .str x.asks, .str x.pays, v]]] .non = .ok y.book .non) ∨
    (okVal v v4 = false ∧ fn__law_later [x.book, .str "changed", .str "pieces", v] .non = .ok (.lst [.str "bad", .str "pieces"]) .non) := by
  have hc := (changed_eq x.prices (r := .tup (x.rules.map dRule)) (d0 := .int x.chain) (d1 := .str x.rings) (d2 := .str x.asks) (d3 := .str x.pays) (d4 := .str x.pieces) (v := v) nofun hv.nt).2.2.2.2
  cases ho : okVal v v4 with
  | true =>
    obtain ⟨c, rfl, h⟩ := okVal4 ho
    have hy : Bk.Ok { x with pieces := c } := { hx with pieces := h }
    exact .inl ⟨rfl, _, hy, later_changed_ok nofun nofun (hc.trans hy.init), hy.made⟩
  | false =>
    refine .inr ⟨rfl, later_changed_bad nofun hv.nt (hc.trans ?_)⟩
    have hb := hx.bad
    rw [init_ok hx.names hx.pr hx.need nofun (.int _) (.str _) (.str _) (.str _) hv]
    have : badPart (.int x.chain) (.str x.rings) (.str x.asks) (.str x.pays) (v) = some ("pieces" : Str) := by
      unfold badPart at hb ⊢
      revert hb
      rw [ho]
      cases okVal (.int x.chain) v0 <;> cases okVal (.str x.rings) v1 <;> cases okVal (.str x.asks) v2 <;> cases okVal (.str x.pays) v3 <;> cases okVal (.str x.pieces) v4 <;> simp
    rw [this]
abbrev I01 (e : Env) (t : D) : Prop := GD t ∧ LEnv 14 e
theorem law_true (ns : List Int) (hl : ns.length ≤ 900) : ∃ e t, bd_law (lawE ["_law_script", "_law_d", "_law_lap", "_law_b", "_law_found", "_law_bad", "_law_told", "_law_c", "_law_k", "_law_value", "_law_due", "_law_at", "_law_part", "_law_some"]) (.lst ((randI ns 1).map D.int)) = .ok (.ret (.bl true)) e t := by
  refine sat_true ?_
  have hE : LEnv 14 (lawE ["_law_script", "_law_d", "_law_lap", "_law_b", "_law_found", "_law_bad", "_law_told", "_law_c", "_law_k", "_law_value", "_law_due", "_law_at", "_law_part", "_law_some"]) := ⟨rfl, rfl⟩
  have g := GD.start ns 1
  generalize lawE _ = e at *
  generalize D.lst ((randI ns 1).map D.int) = t at *
  unfold bd_law
  refine seq_sat I01 ?_ fun e t _ => by simp -dsimp -implicitDefEqProofs
  simp -dsimp -implicitDefEqProofs [-rangeN_4]
  refine for_satC I01 ⟨g, hE⟩ (fun e t h => Hid.mk h) ?_
  rintro d - e t ⟨g, hE⟩
  obtain ⟨f, hf, rfl⟩ := hE.f
  refine ⟨_, rfl, ?_⟩
  rw [show (List.range 14).map f = [f 0, .trk, f 2, f 3, f 4, f 5, f 6, f 7, f 8, f 9, f 10, f 11, f 12, f 13] by rw [← hf]; rfl]
  simp -dsimp -implicitDefEqProofs [-sSeq_eq]
  rw [sSeq_assoc]
  refine seq_sat (fun e t => GD t ∧ ∃ (ps : List (Str × Int)) (r d0 d1 d2 d3 d4 : D), Names (ps.map (·.1)) ∧ (∀ p ∈ ps, 0 ≤ p.2 ∧ p.2 ≤ 99) ∧ SpV r d0 d1 d2 d3 d4 ∧ e = [f 0, .trk, .val d, .val (dB ps r d0 d1 d2 d3 d4), f 4, f 5, f 6, f 7, f 8, f 9, f 10, f 11, f 12, f 13]) ?_ ?_
  · simp -dsimp -implicitDefEqProofs
    refine ⟨g.ne, drawn_sat g fun x t hx g => ?_⟩
    simp -dsimp -implicitDefEqProofs [b_nt]
    refine ⟨g.ne, below_sat (by omega) (by omega) g fun k t hk hk' g => ?_⟩
    by_cases k0 : k = 0
    · simp -dsimp -implicitDefEqProofs [k0]
      refine ⟨g.ne, spoiled_sat g hx fun r d0 d1 d2 d3 d4 t hv g => ?_⟩
      simp -dsimp -implicitDefEqProofs
      exact Hid.mk ⟨g, _, _, _, _, _, _, _, hx.names, hx.pr, hv, rfl⟩
    · simp -dsimp -implicitDefEqProofs [k0]
      refine Hid.mk ⟨g, x.prices, .tup (x.rules.map dRule), .int x.chain, .str x.rings, .str x.asks, .str x.pays, .str x.pieces, hx.names, hx.pr, ⟨.tup _ fun _ q hq => by obtain ⟨r, _, rfl⟩ := List.mem_map.mp hq; exact ruleV r, .int _, .str _, .str _, .str _, .str _, fun ds e => ?_⟩, rfl⟩
      cases e
      have := hx.one
      have := hx.five
      rw [List.length_map]
      omega
  · rintro e t ⟨g, ps, r, d0, d1, d2, d3, d4, hn, hp, hv, rfl⟩
    have hmade := made_eq hn hp hv.r hv.h0 hv.h1 hv.h2 hv.h3 hv.h4
    have hwrong := wrong_eq (ps := ps) hv.r hv.h0 hv.h1 hv.h2 hv.h3 hv.h4
    have hbn : slotOf (dB ps r d0 d1 d2 d3 d4) = .val (dB ps r d0 d1 d2 d3 d4) := rfl
    rw [sSeq_assoc]
    refine seq_sat I01 ?_ ?_
    · by_cases hw : isNon (wrongOf (ps.map (·.1)) r d0 d1 d2 d3 d4) = true
      · obtain ⟨x, hx, rfl, rfl, rfl, rfl, rfl, rfl, rfl⟩ := wrong_none hn hp hw
        have hwn : wrongOf (x.prices.map (·.1)) (.tup (x.rules.map dRule)) (.int x.chain) (.str x.rings) (.str x.asks) (.str x.pays) (.str x.pieces) = .non := by
          revert hw
          cases wrongOf (x.prices.map (·.1)) (.tup (x.rules.map dRule)) (.int x.chain) (.str x.rings) (.str x.asks) (.str x.pays) (.str x.pieces) <;> first | exact fun _ => rfl | exact nofun
        rw [hwn] at hmade hwrong
        rw [sSeq_eq]
        simp -dsimp -implicitDefEqProofs [hmade, hwrong, -sSeq_eq]
        rw [show dB x.prices (D.tup (List.map dRule x.rules)) (D.int x.chain) (D.str x.rings) (D.str x.asks) (D.str x.pays) (D.str x.pieces) = x.b from rfl, show dBook x.prices (D.tup (List.map dRule x.rules)) (D.int x.chain) (D.str x.rings) (D.str x.asks) (D.str x.pays) (D.str x.pieces) = x.book from rfl]
        rw [sSeq_assoc, sSeq_assoc]
        refine seq_sat (fun e t => GD t ∧ ∃ s6, e = [f 0, .trk, .val d, .val x.b, .val x.book, f 5, s6, f 7, f 8, f 9, f 10, f 11, f 12, f 13]) ?_ ?_
        · have q1 := prices_eq x.prices (.tup (x.rules.map dRule)) (.int x.chain) (.str x.rings) (.str x.asks) (.str x.pays) (.str x.pieces)
          have q2 := rules_eq x.prices (.tup (x.rules.map dRule)) (.int x.chain) (.str x.rings) (.str x.asks) (.str x.pays) (.str x.pieces)
          have q3 := chain_eq x.prices (.tup (x.rules.map dRule)) (.int x.chain) (.str x.rings) (.str x.asks) (.str x.pays) (.str x.pieces)
          have q4 := rings_eq x.prices (.tup (x.rules.map dRule)) (.int x.chain) (.str x.rings) (.str x.asks) (.str x.pays) (.str x.pieces)
          have q5 := asks_eq x.prices (.tup (x.rules.map dRule)) (.int x.chain) (.str x.rings) (.str x.asks) (.str x.pays) (.str x.pieces)
          have q6 := pays_eq x.prices (.tup (x.rules.map dRule)) (.int x.chain) (.str x.rings) (.str x.asks) (.str x.pays) (.str x.pieces)
          have q7 := pieces_eq x.prices (.tup (x.rules.map dRule)) (.int x.chain) (.str x.rings) (.str x.asks) (.str x.pays) (.str x.pieces)
          have q8 := goods_eq x.prices (.tup (x.rules.map dRule)) (.int x.chain) (.str x.rings) (.str x.asks) (.str x.pays) (.str x.pieces)
          have hte := told_eq hx
          have hs := sorted_names hx.names
          have hl64 : x.prices.length < 64 := by have := hx.names.len; rw [List.length_map] at this; omega
          have hcut : ∀ a b c : D, cutL [a, b, c] none (some 2) = [a, b] := fun _ _ _ => rfl
          unfold dBook at q1 q2 q3 q4 q5 q6 q7 q8
          simp only [Bk.b, Bk.vals, Bk.book, dBook]
          unfold toldL at hte
          have hps : pSorted (.lst ((x.prices.map (·.1)).map D.str)) = some (dNames x.goods) := by
            rw [pSorted_lst, strsD_str]
            simp only [List.length_map, hl64, if_true, hs]
            rfl
          simp -dsimp -implicitDefEqProofs [-List.map_map, at_prices, at_rules, at_chain, at_rings, at_asks, at_pays, at_pieces, me_goods, q1, q2, q3, q4, q5, q6, q7, q8, hcut, -pSorted_lst, hps, hte]
          exact Hid.mk ⟨g, _, rfl⟩
        · rintro e t ⟨g, s6, rfl⟩
          rw [sSeq_assoc]
          refine seq_sat (fun e t => GD t ∧ ∃ s7, e = [f 0, .trk, .val d, .val x.b, .val x.book, f 5, s6, s7, f 8, f 9, f 10, f 11, f 12, f 13]) ?_ ?_
          · simp -dsimp -implicitDefEqProofs
            refine ⟨g.ne, drawn_sat g fun y t hy g => ?_⟩
            have c1 : asB (.ok (.bl false) [] .non) = .ok false [] .non := rfl
            cases hxy : eqBk x y <;> simp -dsimp -implicitDefEqProofs [b_nt, hy.made, eqs_book, eqs_b, eqs_bb, hxy] <;> exact Hid.mk ⟨g, _, rfl⟩
          · rintro e t ⟨g, s7, rfl⟩
            rw [sSeq_assoc, sSeq_assoc, sSeq_assoc, sSeq_assoc, sSeq_assoc, sSeq_assoc]
            have hunk : ∀ v : D, v ≠ .trk → fn__law_later [x.book, .str "changed", .str "prices", v] .non = .ok (.lst [.str "part", .str "prices"]) .non := fun v hv => later_changed_unk nofun hv (by
              simp -dsimp -implicitDefEqProofs [fn_Book_changed, bd_Book_changed, show slotOf x.book = .val x.book from rfl, hv, con_PARTS, kdD, kv_PARTS])
            have hne : ∀ y : Bk, y.Ok → neOut eqs y.book y.book = .ok (.bl true) .non := fun y hy => hy.eq_self
            have heq1 : neOut eqs (.lst [.str "part", .str "prices"]) (.lst [.str "part", .str "prices"]) = .ok (.bl true) .non := by rfl
            refine seq_sat (fun e t => GD t ∧ ∃ s8 s9 s10 s12 s13, e = [f 0, .trk, .val d, .val x.b, .val x.book, f 5, s6, s7, s8, s9, s10, f 11, s12, s13]) ?_ ?_
            · simp -dsimp -implicitDefEqProofs
              refine ⟨g.ne, below_sat (by omega) (by omega) g fun k t hk hk' g => ?_⟩
              have hk5 : k = 0 ∨ k = 1 ∨ k = 2 ∨ k = 3 ∨ k = 4 := by omega
              rcases hk5 with rfl | rfl | rfl | rfl | rfl
              · simp -dsimp -implicitDefEqProofs [parts_eq]
                refine ⟨g.ne, pick_sat (by simp) (by simp) g fun v t hd g => ?_⟩
                have hv : PartV v ∧ inD v (.lst [.int 0, .int 1, .int 2, .int 3]) = some (okVal v v0) := by
                  simp only [List.cons_append, List.nil_append, List.mem_cons, List.not_mem_nil, or_false] at hd
                  rcases hd with rfl | rfl | rfl | rfl | rfl | rfl | rfl <;> exact ⟨by constructor, by rfl⟩
                have heq2 : neOut eqs (.lst [.str "bad", .str "chain"]) (.lst [.str "bad", .str "chain"]) = .ok (.bl true) .non := by rfl
                have hvt := hv.1.nt
                have hin := hv.2
                rcases later_chain hx hv.1 with ⟨ho, y, hy, hla, hbk⟩ | ⟨ho, hla⟩
                · rw [ho] at hin
                  simp -dsimp -implicitDefEqProofs [hvt, b_nt, book_nt, hin, Bk.b, Bk.vals, cutL, hbk, hla, hunk v hvt, hne y hy, -neOut_lst, heq1]
                  exact Hid.mk ⟨g, _, _, _, _, _, rfl⟩
                · rw [ho] at hin
                  simp -dsimp -implicitDefEqProofs [hvt, b_nt, book_nt, hin, hla, hunk v hvt, -neOut_lst, heq1, heq2]
                  exact Hid.mk ⟨g, _, _, _, _, _, rfl⟩
              · simp -dsimp -implicitDefEqProofs [parts_eq]
                refine ⟨g.ne, pick_sat (by simp) (by simp) g fun v t hd g => ?_⟩
                have hv : PartV v ∧ inD v (.lst [.str "let", .str "barred"]) = some (okVal v v1) := by
                  simp only [List.cons_append, List.nil_append, List.mem_cons, List.not_mem_nil, or_false] at hd
                  rcases hd with rfl | rfl | rfl | rfl | rfl <;> exact ⟨by constructor, by rfl⟩
                have heq2 : neOut eqs (.lst [.str "bad", .str "rings"]) (.lst [.str "bad", .str "rings"]) = .ok (.bl true) .non := by rfl
                have hvt := hv.1.nt
                have hin := hv.2
                rcases later_rings hx hv.1 with ⟨ho, y, hy, hla, hbk⟩ | ⟨ho, hla⟩
                · rw [ho] at hin
                  simp -dsimp -implicitDefEqProofs [hvt, b_nt, book_nt, hin, Bk.b, Bk.vals, cutL, hbk, hla, hunk v hvt, hne y hy, -neOut_lst, heq1]
                  exact Hid.mk ⟨g, _, _, _, _, _, rfl⟩
                · rw [ho] at hin
                  simp -dsimp -implicitDefEqProofs [hvt, b_nt, book_nt, hin, hla, hunk v hvt, -neOut_lst, heq1, heq2]
                  exact Hid.mk ⟨g, _, _, _, _, _, rfl⟩
              · simp -dsimp -implicitDefEqProofs [parts_eq]
                refine ⟨g.ne, pick_sat (by simp) (by simp) g fun v t hd g => ?_⟩
                have hv : PartV v ∧ inD v (.lst [.str "first", .str "each", .str "none"]) = some (okVal v v2) := by
                  simp only [List.cons_append, List.nil_append, List.mem_cons, List.not_mem_nil, or_false] at hd
                  rcases hd with rfl | rfl | rfl | rfl | rfl | rfl <;> exact ⟨by constructor, by rfl⟩
                have heq2 : neOut eqs (.lst [.str "bad", .str "asks"]) (.lst [.str "bad", .str "asks"]) = .ok (.bl true) .non := by rfl
                have hvt := hv.1.nt
                have hin := hv.2
                rcases later_asks hx hv.1 with ⟨ho, y, hy, hla, hbk⟩ | ⟨ho, hla⟩
                · rw [ho] at hin
                  simp -dsimp -implicitDefEqProofs [hvt, b_nt, book_nt, hin, Bk.b, Bk.vals, cutL, hbk, hla, hunk v hvt, hne y hy, -neOut_lst, heq1]
                  exact Hid.mk ⟨g, _, _, _, _, _, rfl⟩
                · rw [ho] at hin
                  simp -dsimp -implicitDefEqProofs [hvt, b_nt, book_nt, hin, hla, hunk v hvt, -neOut_lst, heq1, heq2]
                  exact Hid.mk ⟨g, _, _, _, _, _, rfl⟩
              · simp -dsimp -implicitDefEqProofs [parts_eq]
                refine ⟨g.ne, pick_sat (by simp) (by simp) g fun v t hd g => ?_⟩
                have hv : PartV v ∧ inD v (.lst [.str "told", .str "given", .str "lesser"]) = some (okVal v v3) := by
                  simp only [List.cons_append, List.nil_append, List.mem_cons, List.not_mem_nil, or_false] at hd
                  rcases hd with rfl | rfl | rfl | rfl | rfl | rfl <;> exact ⟨by constructor, by rfl⟩
                have heq2 : neOut eqs (.lst [.str "bad", .str "pays"]) (.lst [.str "bad", .str "pays"]) = .ok (.bl true) .non := by rfl
                have hvt := hv.1.nt
                have hin := hv.2
                rcases later_pays hx hv.1 with ⟨ho, y, hy, hla, hbk⟩ | ⟨ho, hla⟩
                · rw [ho] at hin
                  simp -dsimp -implicitDefEqProofs [hvt, b_nt, book_nt, hin, Bk.b, Bk.vals, cutL, hbk, hla, hunk v hvt, hne y hy, -neOut_lst, heq1]
                  exact Hid.mk ⟨g, _, _, _, _, _, rfl⟩
                · rw [ho] at hin
                  simp -dsimp -implicitDefEqProofs [hvt, b_nt, book_nt, hin, hla, hunk v hvt, -neOut_lst, heq1, heq2]
                  exact Hid.mk ⟨g, _, _, _, _, _, rfl⟩
              · simp -dsimp -implicitDefEqProofs [parts_eq]
                refine ⟨g.ne, pick_sat (by simp) (by simp) g fun v t hd g => ?_⟩
                have hv : PartV v ∧ inD v (.lst [.str "split", .str "alike"]) = some (okVal v v4) := by
                  simp only [List.cons_append, List.nil_append, List.mem_cons, List.not_mem_nil, or_false] at hd
                  rcases hd with rfl | rfl | rfl | rfl | rfl <;> exact ⟨by constructor, by rfl⟩
                have heq2 : neOut eqs (.lst [.str "bad", .str "pieces"]) (.lst [.str "bad", .str "pieces"]) = .ok (.bl true) .non := by rfl
                have hvt := hv.1.nt
                have hin := hv.2
                rcases later_pieces hx hv.1 with ⟨ho, y, hy, hla, hbk⟩ | ⟨ho, hla⟩
                · rw [ho] at hin
                  simp -dsimp -implicitDefEqProofs [hvt, b_nt, book_nt, hin, Bk.b, Bk.vals, cutL, hbk, hla, hunk v hvt, hne y hy, -neOut_lst, heq1]
                  exact Hid.mk ⟨g, _, _, _, _, _, rfl⟩
                · rw [ho] at hin
                  simp -dsimp -implicitDefEqProofs [hvt, b_nt, book_nt, hin, hla, hunk v hvt, -neOut_lst, heq1, heq2]
                  exact Hid.mk ⟨g, _, _, _, _, _, rfl⟩
            · rintro e t ⟨g, s8, s9, s10, s12, s13, rfl⟩
              have hlen := hv.len _ rfl
              rw [List.length_map] at hlen
              simp -dsimp -implicitDefEqProofs
              simp -dsimp -implicitDefEqProofs [Bk.b]
              refine ⟨g.ne, below_sat (by omega) (by omega) g fun k t hk hk' g => ?_⟩
              simp -dsimp -implicitDefEqProofs
              refine ⟨g.ne, pick_sat (by simp) (by simp) g fun v t hd g => ?_⟩
              simp only [List.mem_cons, List.not_mem_nil, or_false] at hd
              have hpl : fn__law_placed [x.book, x.b, v] .non = .ok (.bl true) .non := by
                rcases hd with rfl | rfl | rfl | rfl | rfl
                · obtain ⟨k, rfl⟩ := Int.eq_ofNat_of_zero_le hk
                  exact placed_ok hx (by omega)
                · exact placed_bad hx (.inr (.inr ⟨_, rfl, by omega⟩))
                · exact placed_bad hx (.inr (.inr ⟨_, rfl, by omega⟩))
                · exact placed_bad hx (.inl rfl)
                · exact placed_bad hx (.inr (.inl ⟨_, rfl⟩))
              unfold Bk.b at hpl
              simp -dsimp -implicitDefEqProofs [hpl]
              exact Hid.mk ⟨g, rfl, rfl⟩
      · have hne : ∃ w, wrongOf (ps.map (·.1)) r d0 d1 d2 d3 d4 = .lst w ∧ EqD 5 (.lst w) := by
          have two : ∀ a b : D, plainB 0 a = true → plainB 0 b = true → EqD 5 (.lst [a, b]) := fun a b ha hb => .lst (fun d hd => by
            simp only [List.mem_cons, List.not_mem_nil, or_false] at hd
            rcases hd with rfl | rfl
            · exact .atom ha
            · exact .atom hb) (by simp)
          unfold wrongOf at hw ⊢
          cases hv.r with
          | tup ds _ =>
            simp only at hw ⊢
            split
            · exact ⟨_, rfl, two _ _ rfl rfl⟩
            · rename_i h6
              rw [if_neg h6] at hw
              cases hf : firstN (badRule (ps.map (·.1)) ds) 0 ds.length with
              | some k => exact ⟨_, rfl, two _ _ rfl rfl⟩
              | none =>
                rw [hf] at hw
                cases hb : badPart d0 d1 d2 d3 d4 with
                | some p => exact ⟨_, rfl, two _ _ rfl rfl⟩
                | none => rw [hb] at hw; exact absurd rfl hw
          | lst ds => exact ⟨_, rfl, two _ _ rfl rfl⟩
          | non => exact ⟨_, rfl, two _ _ rfl rfl⟩
          | str s => exact ⟨_, rfl, two _ _ rfl rfl⟩
        obtain ⟨w, hw2, he⟩ := hne
        rw [hw2] at hmade hwrong hw
        have heq := equal_self (he.le (m := 11) (by omega))
        simp -dsimp -implicitDefEqProofs [hmade, hwrong, hw]
        simp -dsimp -implicitDefEqProofs [heq]
        exact Hid.mk ⟨g, rfl, rfl⟩
    · rintro e t ⟨g, hE⟩
      obtain ⟨f, hf, rfl⟩ := hE.f
      rw [show (List.range 14).map f = [f 0, .trk, f 2, f 3, f 4, f 5, f 6, f 7, f 8, f 9, f 10, f 11, f 12, f 13] by rw [← hf]; rfl]
      simp -dsimp -implicitDefEqProofs
      refine ⟨g.ne, pick_sat (by simp) (by simp) g fun d t hd g => ?_⟩
      simp only [List.mem_cons, List.not_mem_nil, or_false] at hd
      have hm := bad_made hd
      have hd : d ≠ .trk := by rcases hd with rfl | rfl | rfl | rfl | rfl | rfl <;> exact nofun
      simp -dsimp -implicitDefEqProofs [hm]
      exact Hid.mk ⟨g, rfl, rfl⟩

end Gk01
set_option linter.all false
set_option Elab.async false
set_option maxRecDepth 100000
set_option maxHeartbeats 0
namespace Gk01
open DI PySem PySem.Spec PyProof.Rows L2 LamX
def names0 : List PySem.Str := ["__name__", "PutError", "BadPrices", "BadRule", "BadPart", "UnknownPart", "UnknownRule", "LETTERS", "MOST_LETTERS", "MOST_PRICE", "MOST_RULES", "PARTS", "is_integer", "is_between", "is_good", "are_prices", "is_rule", "need_rules", "is_value", "Book", "_law_random", "_law_below", "_law_pick", "_law_equal", "_law_parts", "_law_names", "_law_swap", "_law_drawn", "_law_book", "_law_made"]
def names1 : List PySem.Str := ["_law_later", "_law_wrong", "_law_is_swap", "_law_spoiled", "_law_placed"]
def names : List PySem.Str := names0 ++ names1
abbrev RR : PySem.W.OpenRow := PySem.W.OpenLaw.row PySem.Challenge.rw_insteads_k01_books_kept_and_refused
abbrev hk : PySem.W.Hook := hookZ 6 psF dsF tsF
def ob (s : PySem.W.SharedT) : AlZ := obsZ 6 psF dsF tsF (HandSHeadRun.getT s)
theorem ob_eq (s : PySem.W.SharedT) : ob s = hk.obs s.abs := obsZ_eq (HandSHeadRun.getT_eq s)
theorem run_top (w : World) : HandSHeadRun.RunEq RR (PySem.W.view RR.prog [37]) hk ob 4000 names w :=
  PySem.W.byRow2 "special-get-raises" (P := fun w => HandSHeadRun.RunEq RR (PySem.W.view RR.prog [37]) hk ob 4000 names w) (fun w os => by kernel_rfl) (fun w os => by kernel_rfl) w
theorem at_top {w : World} {K : PySem.W.Frag} {h : Heap} {mg : Str → Option Value} {f : Addr} (hin : K.In h) (G : h.Ns mainGlobals mg) (hf : mg ("law" : Str) = some (.ref f)) (c : SaysZ psF dsF tsF w K) : LawAtS PySem.Challenge.rw_insteads_k01_books_kept_and_refused w K (L2.CX (PySem.Challenge.rw_insteads_k01_books_kept_and_refused).prog w) 22 63 "_law_script" mg f h := by
  have Z : Zs mg w K := ⟨⟨h, hin, G⟩, c⟩
  have e := hf.symm.trans (g_law Z)
  cases e
  obtain ⟨fd, hbi, k⟩ : ∃ fd, (∀ (s : Shared) (u : Value), BindsTo s fd ⟨[u], []⟩ [("_law_script", u)]) ∧ ∀ base : Heap, FnOk (PySem.Challenge.rw_insteads_k01_books_kept_and_refused).prog w K mg base (L2.CX (PySem.Challenge.rw_insteads_k01_books_kept_and_refused).prog w) 22 (He.ga K "law") fd ["_law_script"] (spLaw K) := by
    obtain ⟨fd, F⟩ := (Zh.s Z |>.def_ 41 (d := da_law)).ex
    have b := FunD.bindsA (ps := ["_law_script"]) F fun _ _ _ _ _ _ us hl => match us, hl with | [_], _ => rfl
    refine ⟨fd, fun s u => b s [u] rfl, fun base => ?_⟩
    obtain ⟨fd2, F2, k⟩ := F_law (P := (PySem.Challenge.rw_insteads_k01_books_kept_and_refused).prog) (base := base) Z law_true
    have e : fd2 = fd := funD_one F2 F
    exact e ▸ k
  exact ⟨fd, [], spLaw K, (fun _ q => absurd q List.not_mem_nil), (fun _ q => absurd q List.not_mem_nil), (fun _ q => absurd q List.not_mem_nil), hbi, fun H a ns hl _ _ hS => ⟨a, ns, rfl, hS, Nat.le_trans hl (by decide), fun _ => rfl⟩, fun base _ _ _ => k base⟩
end Gk01

open PySem PySem.W PySem.Calls PyProof.Rows
set_option maxRecDepth 100000 in
set_option maxHeartbeats 0 in
theorem PySem.Challenge.cw_insteads_k01_books_kept_and_refused_holds : PySem.Challenge.rw_insteads_k01_books_kept_and_refused.Holds := by
  w_on; o_law
  refine HandSHeadRun.head_any (r := Gk01.RR) (q := view Gk01.RR.prog [37]) (H := Gk01.hk) (ob := Gk01.ob) (M := 4000) (loose := Gk01.names) (d := HandSHeadRun.topDef Gk01.RR.prog 37) (kwd := []) Gk01.ob_eq (by kernel_rfl) (fun s => by kernel_rfl) Gk01.run_top
    (by kernel_rfl) (by kernel_rfl) (by kernel_rfl) (by rfl) (by first | assumption | decide +kernel) (by decide +kernel) ⟨rfl, rfl, rfl, rfl, rfl, by decide +kernel⟩ ?hw ?hc
  case hw => w_witness2
  case hc =>
    refine LamX.walk_ofTsE (l := PySem.Challenge.rw_insteads_k01_books_kept_and_refused) (n := 63) (k := 22) (x := "_law_script") (CX := fun w => L2.CX (PySem.Challenge.rw_insteads_k01_books_kept_and_refused).prog w) rfl (by decide) (by kernel_rfl) ⟨rfl, by decide, by decide⟩ ?F fun w H s e s' q => (by obtain ⟨_, _, _, _, _, _, _, _, _, _, _, _, z⟩ := q; exact z)
    intro w mg fa h Y G hm
    obtain ⟨K, KX, c⟩ := Y
    have en : (HandSHeadRun.topDef Gk01.RR.prog 37).name = ("law" : PySem.Str) := by kernel_rfl
    rw [en] at hm
    exact ⟨K, KX, Gk01.at_top KX G hm c⟩
