import PyProof.Rows.All
import Wide.All
import OpenK.AllK
import Open.Row
import KE.KItem
import KE.KDictLaws
import KE.KDictList
import PyProof.Rows.SortRuns
import KE.KSortTup
import OpenK.KWalk
import Wide.FinOn
import PySem.Challenge.RW_uf050028_07
set_option Elab.async false
namespace Mine
open PySem

/-- values without tokens; what cannot be changed is a tree -/
inductive Val where
  | none
  | bool (b : Bool)
  | int (i : Int)
  | str (s : Str)
  | tup (vs : List Val)
  | rng (lo hi : Int)
  | scr (l : List Int)
  | keys (d : Addr)
  | ref (a : Addr)
  | fn (n : Str)
  | cls (n : Str)
  | blt (id : String)
  | typ (n : String)

inductive AObj where
  | list (xs : List Val)
  | dictP (es : List ((Int × Int) × Val))
  | dictR (es : List ((Int × Int) × Val))
  | dictI (es : List (Int × Val))
  | inst (c : Str) (dx : Addr)
  | attrs (fs : List (Str × Val))
  | exc (c : Str)

abbrev Rho := Str → Option Val
def upd (ρ : Rho) (x : Str) (v : Val) : Rho := fun y => if y = x then some v else ρ y
abbrev Store := Addr → Option AObj
def Store.set (σ : Store) (a : Addr) (o : AObj) : Store := fun b => if b = a then some o else σ b

inductive Fl where
  | next
  | ret (v : Val)

/-- lists stay below this length -/
def cap : Nat := 1000000

/-- ints, bools, None, tuples of these, not too deep -/
def flat : Nat → Val → Bool
  | _, .none => true
  | _, .bool _ => true
  | _, .int _ => true
  | n + 1, .tup xs => xs.all (flat n)
  | _, _ => false
def eqList (f : Val → Val → Bool) : List Val → List Val → Bool
  | [], [] => true
  | x :: xs, y :: ys => f x y && eqList f xs ys
  | _, _ => false
/-- Python's == on these -/
def veq : Nat → Val → Val → Bool
  | _, .none, .none => true
  | _, .bool a, .bool b => a == b
  | _, .bool a, .int j => (if a then 1 else 0) == j
  | _, .int i, .bool b => i == (if b then 1 else 0)
  | _, .int i, .int j => i == j
  | n + 1, .tup xs, .tup ys => eqList (veq n) xs ys
  | _, _, _ => false

/-- == where lists are looked up -/
def deq (σ : Store) (a b : Val) : Option Bool :=
  match a, b with
  | .ref p, .ref q => match σ p, σ q with
    | some (.list xs), some (.list ys) => if xs.all (flat 3) && ys.all (flat 3) then some (eqList (veq 3) xs ys) else Option.none
    | _, _ => Option.none
  | _, _ => if flat 4 a && flat 4 b then some (veq 4 a b) else Option.none

def intsOf : List Val → Option (List Int)
  | [] => some []
  | .int i :: r => (intsOf r).map (i :: ·)
  | _ :: _ => Option.none
def ofInts (l : List Int) : List Val := l.map Val.int
def pairV (p : Int × Int) : Val := .tup [.int p.1, .int p.2]
def pairOf : Val → Option (Int × Int)
  | .tup [.int a, .int b] => some (a, b)
  | _ => Option.none

def lookP (k : Int × Int) : List ((Int × Int) × Val) → Option Val
  | [] => Option.none
  | (j, v) :: r => if j = k then some v else lookP k r
def putP (k : Int × Int) (v : Val) : List ((Int × Int) × Val) → List ((Int × Int) × Val)
  | [] => [(k, v)]
  | (j, u) :: r => if j = k then (j, v) :: r else (j, u) :: putP k v r
def lookI (k : Int) : List (Int × Val) → Option Val
  | [] => Option.none
  | (j, v) :: r => if j = k then some v else lookI k r
def putI (k : Int) (v : Val) : List (Int × Val) → List (Int × Val)
  | [] => [(k, v)]
  | (j, u) :: r => if j = k then (j, v) :: r else (j, u) :: putI k v r
def lookS (k : Str) : List (Str × Val) → Option Val
  | [] => Option.none
  | (j, v) :: r => if j = k then some v else lookS k r
def putS (k : Str) (v : Val) : List (Str × Val) → List (Str × Val)
  | [] => [(k, v)]
  | (j, u) :: r => if j = k then (j, v) :: r else (j, u) :: putS k v r

def rangeL (lo hi : Int) : List Int := (List.range (hi - lo).toNat).map fun (k : Nat) => lo + (k : Int)

/-- the items that a loop takes -/
def itemsOf (σ : Store) : Val → Option (List Val)
  | .ref a => match σ a with
    | some (.list xs) => some xs
    | _ => Option.none
  | .rng lo hi => some (ofInts (rangeL lo hi))
  | _ => Option.none
def still (σ : Store) (v : Val) (σ' : Store) : Prop :=
  match v with
  | .ref a => σ' a = σ a
  | _ => True

abbrev VPost := Val → Store → Prop
abbrev BPost := Bool → Store → Prop

def truth (v : Val) (σ : Store) (Q : BPost) : Prop :=
  match v with
  | .none => Q false σ
  | .bool b => Q b σ
  | .int i => Q (i != 0) σ
  | .ref a => match σ a with
    | some (.list xs) => Q (!xs.isEmpty) σ
    | _ => False
  | _ => False

/-- ints whose products and quotients the machine takes -/
def short (x : Int) : Prop := x.natAbs < 18446744073709551616

def intOp (f : Int → Int → Prop) (a b : Val) : Prop := match a with
  | .int x => (match b with
    | .int y => f x y
    | _ => False)
  | _ => False
theorem intOp_is {f : Int → Int → Prop} {a b : Val} (h : intOp f a b) : ∃ x y, a = .int x ∧ b = .int y ∧ f x y := by
  cases a with
  | int x => cases b with
    | int y => exact ⟨x, y, rfl, rfl, h⟩
    | _ => exact False.elim h
  | _ => exact False.elim h
def listsAt (σ : Store) (p q : Addr) (K : List Val → List Val → Prop) : Prop := match σ p with
  | some (.list xs) => (match σ q with
    | some (.list ys) => K xs ys
    | _ => False)
  | _ => False
theorem listsAt_is {σ : Store} {p q : Addr} {K : List Val → List Val → Prop} (h : listsAt σ p q K) : ∃ xs ys, σ p = some (.list xs) ∧ σ q = some (.list ys) ∧ K xs ys := by
  unfold listsAt at h
  cases hp : σ p with
  | none => rw [hp] at h; exact False.elim h
  | some o =>
    rw [hp] at h
    cases o with
    | list xs =>
      cases hq : σ q with
      | none => rw [hq] at h; exact False.elim h
      | some o =>
        rw [hq] at h
        cases o with
        | list ys => exact ⟨xs, ys, rfl, rfl, h⟩
        | _ => exact False.elim h
    | _ => exact False.elim h
def binop (op : Operator) (a b : Val) (σ : Store) (Q : VPost) : Prop :=
  match op with
  | .Add => (match a with
    | .ref p => (match b with
      | .ref q => listsAt σ p q fun xs ys => xs.length + ys.length ≤ cap ∧ ∀ c, σ c = Option.none → Q (.ref c) (σ.set c (.list (xs ++ ys)))
      | _ => False)
    | a => intOp (fun x y => Q (.int (x + y)) σ) a b)
  | .Sub => intOp (fun x y => Q (.int (x - y)) σ) a b
  | .Mult => intOp (fun x y => (short x ∨ short y) ∧ Q (.int (x * y)) σ) a b
  | .FloorDiv => intOp (fun x y => (0 < y ∧ short y) ∧ Q (.int (x / y)) σ) a b
  | .Mod => intOp (fun x y => 0 < y ∧ Q (.int (x % y)) σ) a b
  | .Pow => intOp (fun x y => (x = 10 ∧ 0 ≤ y ∧ y ≤ 30) ∧ Q (.int (10 ^ y.toNat)) σ) a b
  | _ => False

def unop (op : UnaryOp) (a : Val) (σ : Store) (Q : VPost) : Prop :=
  match op, a with
  | .USub, .int x => Q (.int (-x)) σ
  | .Not, v => truth v σ fun b σ' => Q (.bool !b) σ'
  | _, _ => False

def memV (σ : Store) (x c : Val) : Option Bool :=
  match c with
  | .ref d => match σ d with
    | some (.dictP es) => (pairOf x).map fun k => (lookP k es).isSome
    | some (.dictR es) => (pairOf x).map fun k => (lookP k es).isSome
    | some (.list ys) => if flat 3 x && ys.all (flat 3) then some (ys.any fun y => veq 3 y x) else Option.none
    | _ => Option.none
  | _ => Option.none

def cmpI (f : Int → Int → Bool) (a b : Val) : Option Bool := match a with
  | .int x => (match b with
    | .int y => some (f x y)
    | _ => Option.none)
  | _ => Option.none
theorem cmpI_is {f : Int → Int → Bool} {a b : Val} {r : Bool} (h : cmpI f a b = some r) : ∃ x y, a = .int x ∧ b = .int y ∧ r = f x y := by
  cases a with
  | int x => cases b with
    | int y => exact ⟨x, y, rfl, rfl, (Option.some.inj h).symm⟩
    | _ => cases h
  | _ => cases h
def cmpB (op : CmpOp) (a b : Val) (σ : Store) : Option Bool :=
  match op with
  | .Lt => cmpI (fun x y => decide (x < y)) a b
  | .LtE => cmpI (fun x y => decide (x ≤ y)) a b
  | .Gt => cmpI (fun x y => decide (x > y)) a b
  | .GtE => cmpI (fun x y => decide (x ≥ y)) a b
  | .Eq => deq σ a b
  | .NotEq => (deq σ a b).map (!·)
  | .In => memV σ a b
  | .NotIn => (memV σ a b).map (!·)
  | _ => Option.none

def cmpop (op : CmpOp) (a b : Val) (σ : Store) (Q : BPost) : Prop :=
  match cmpB op a b σ with
  | some r => Q r σ
  | Option.none => False

def normIdx (i : Int) (n : Nat) : Option Nat :=
  if 0 ≤ i then (if i < n then some i.toNat else Option.none)
  else if 0 ≤ i + n then some (i + n).toNat else Option.none

def subscr (a i : Val) (σ : Store) (Q : VPost) : Prop :=
  match a with
  | .tup vs => (match i with
    | .int k => (match (normIdx k vs.length).bind fun j => vs[j]? with
      | some v => Q v σ
      | Option.none => False)
    | _ => False)
  | .scr l => (match i with
    | .int k => (match (normIdx k l.length).bind fun j => l[j]? with
      | some v => Q (.int v) σ
      | Option.none => False)
    | _ => False)
  | _ => False

def setitem (a i v : Val) (σ : Store) (Q : Store → Prop) : Prop :=
  match a with
  | .ref p => (match σ p with
    | some (.dictP es) => (match pairOf i with
      | some k => es.length < cap ∧ Q (σ.set p (.dictP (putP k v es)))
      | Option.none => False)
    | _ => False)
  | _ => False

def getattr (a : Val) (n : Str) (σ : Store) (Q : VPost) : Prop :=
  match a with
  | .ref p => match σ p with
    | some (.inst _ dx) => match σ dx with
      | some (.attrs fs) => match lookS n fs with
        | some v => Q v σ
        | Option.none => False
      | _ => False
    | _ => False
  | _ => False

def setattr (a : Val) (n : Str) (v : Val) (σ : Store) (Q : Store → Prop) : Prop :=
  match a with
  | .ref p => match σ p with
    | some (.inst _ dx) => match σ dx with
      | some (.attrs fs) => Q (σ.set dx (.attrs (putS n v fs)))
      | _ => False
    | _ => False
  | _ => False

def everySecond : List Val → List Val
  | [] => []
  | [x] => [x]
  | x :: _ :: r => x :: everySecond r

def lexLt : List Int → List Int → Bool
  | [], [] => false
  | [], _ :: _ => true
  | _ :: _, [] => false
  | a :: as, b :: bs => if a = b then lexLt as bs else decide (a < b)
def tupInts : Val → Option (List Int)
  | .tup vs => intsOf vs
  | _ => Option.none
def keyV (v : Val) : List Int := (tupInts v).getD []
def vLt (a b : Val) : Bool := lexLt (keyV a) (keyV b)
def vLe (a b : Val) : Bool := !vLt b a
def sortV (xs : List Val) : List Val := xs.mergeSort vLe
def minV : List Val → Val → Val
  | [], m => m
  | x :: r, m => minV r (if vLt x m then x else m)
/-- tuples of ints, none of them empty -/
def sortable (xs : List Val) : Prop := ∀ x ∈ xs, ∃ i is, x = .tup (ofInts (i :: is))

def isInst (σ : Store) (v c : Val) : Option Bool :=
  match c with
  | .typ T =>
    if T = "int" then (match v with | .int _ => some true | .bool _ => some true | .tup _ => some false | _ => Option.none)
    else if T = "bool" then (match v with | .int _ => some false | .bool _ => some true | .tup _ => some false | _ => Option.none)
    else if T = "tuple" then (match v with | .int _ => some false | .bool _ => some false | .tup _ => some true | _ => Option.none)
    else if T = "list" then (match v with
      | .ref p => match σ p with
        | some (.list _) => some true
        | _ => Option.none
      | _ => Option.none)
    else Option.none
  | _ => Option.none

def callBlt (calm : Bool) (id : String) (vs : List Val) (σ : Store) (Q : VPost) : Prop :=
  if id = "len" then (match vs with
    | [.tup ys] => Q (.int ys.length) σ
    | [.scr l] => Q (.int l.length) σ
    | _ => False)
  else if id = "isinstance" then (match vs with
    | [v, c] => match isInst σ v c with
      | some b => Q (.bool b) σ
      | Option.none => False
    | _ => False)
  else if id = "sorted" then (match vs with
    | [.ref p] => match σ p with
      | some (.list xs) => (calm = true ∧ sortable xs ∧ xs.length < 64) ∧ ∀ c, σ c = Option.none → Q (.ref c) (σ.set c (.list (sortV xs)))
      | _ => False
    | _ => False)
  else False

def callTyp (calm : Bool) (T : String) (vs : List Val) (σ : Store) (Q : VPost) : Prop :=
  if T = "range" then (match vs with
    | [.int n] => (-(cap : Int) ≤ n ∧ n ≤ cap) ∧ Q (.rng 0 n) σ
    | _ => False)
  else if T = "list" then (match vs with
    | [.ref p] => match σ p with
      | some (.list xs) => ∀ c, σ c = Option.none → Q (.ref c) (σ.set c (.list xs))
      | _ => False
    | _ => False)
  else if T = "tuple" then (match vs with
    | [.ref p] => match σ p with
      | some (.list xs) => Q (.tup xs) σ
      | _ => False
    | _ => False)
  else False

def listMeth (p : Addr) (n : Str) (vs : List Val) (σ : Store) (Q : VPost) : Prop :=
  match σ p with
  | some (.list xs) =>
    if n = "append" then (match vs with
      | [v] => xs.length < cap ∧ Q .none (σ.set p (.list (xs ++ [v])))
      | _ => False)
    else False
  | _ => False
def dictMeth (p : Addr) (n : Str) (vs : List Val) (σ : Store) (Q : VPost) : Prop :=
  match σ p with
  | some (.dictP es) =>
    if n = "keys" then (match vs with
      | [] => Q (.keys p) σ
      | _ => False)
    else if n = "get" then (match vs with
      | [.int _, d] => es = [] ∧ Q d σ
      | _ => False)
    else if n = "setdefault" then (match vs with
      | [.int k, d] => es = [] ∧ Q d (σ.set p (.dictI [(k, d)]))
      | _ => False)
    else False
  | some (.dictI es) =>
    if n = "get" then (match vs with
      | [.int k, d] => Q ((lookI k es).getD d) σ
      | _ => False)
    else if n = "setdefault" then (match vs with
      | [.int k, d] => match lookI k es with
        | some v => Q v σ
        | Option.none => es.length < cap ∧ Q d (σ.set p (.dictI (es ++ [(k, d)])))
      | _ => False)
    else False
  | _ => False

/-- whose method it is, as the object stands ahead of the arguments -/
inductive MK where
  | list (p : Addr)
  | dict (p : Addr)
  | inst (c : Str) (p : Addr)
def methKind (o : Val) (n : Str) (σ : Store) : Option MK :=
  match o with
  | .ref p => match σ p with
    | some (.list _) => some (.list p)
    | some (.dictP _) => some (.dict p)
    | some (.dictI _) => some (.dict p)
    | some (.inst c dx) => match σ dx with
      | some (.attrs fs) => if lookS n fs = Option.none then some (.inst c p) else Option.none
      | _ => Option.none
    | _ => Option.none
  | _ => Option.none

inductive Fn where
  | top (n : Str)
  | meth (c n : Str)
structure Cx where
  gl : Str → Option Val
  call : Fn → List Val → Store → VPost → VPost → Prop
  exc : VPost
  calm : Bool
  mth : Str → Str → Bool

/-- nothing may be raised -/
def Cx.hush (C : Cx) : Cx := { C with exc := fun _ _ => False }
/-- what is raised is told of another store -/
def Cx.pull (C : Cx) (f : Store → Store) : Cx := { C with exc := fun a σ => C.exc a (f σ) }

def newInst (C : Cx) (c : Str) (vs : List Val) (σ : Store) (Q : VPost) : Prop :=
  ∀ p dx, σ p = Option.none → σ dx = Option.none → p ≠ dx →
    C.call (.meth c "__init__") (.ref p :: vs) ((σ.set dx (.attrs [])).set p (.inst c dx)) (fun r σ' => r = .none ∧ Q (.ref p) σ') C.exc

def callV (C : Cx) (f : Val) (vs : List Val) (σ : Store) (Q : VPost) : Prop :=
  match f with
  | .fn n => C.call (.top n) vs σ Q C.exc
  | .cls c => newInst C c vs σ Q
  | .blt id => callBlt C.calm id vs σ Q
  | .typ T => callTyp C.calm T vs σ Q
  | _ => False

def methV (C : Cx) (k : MK) (n : Str) (vs : List Val) (σ : Store) (Q : VPost) : Prop :=
  match k with
  | .list p => listMeth p n vs σ Q
  | .dict p => dictMeth p n vs σ Q
  | .inst c p => C.call (.meth c n) (.ref p :: vs) σ Q C.exc

def methOk (C : Cx) : MK → Str → Bool
  | .list _, n => n == "append"
  | .dict _, n => n == "keys" || n == "get" || n == "setdefault"
  | .inst c _, n => C.mth c n
/-- the arguments bear no star and are few -/
def fewArgs : List Expr → Bool
  | [] => true
  | .Starred _ _ :: _ => false
  | _ :: r => fewArgs r && decide (r.length < 20)
/-- no call of super -/
def plainBase (o : Expr) : Bool := match o with
  | .Name _ _ => true
  | .Call f _ _ _ => (match f with
    | .Attribute _ _ _ => true
    | _ => false)
  | _ => false

def isLoc (sc : Scope) (x : Str) : Bool := match sc.names.lookup x with
  | some .local | some .cell => true
  | _ => false

/-- names taken by a target -/
def nameOf (t : Expr) : Option Str := match t with
  | .Name x _ => some x
  | _ => Option.none
theorem nameOf_is {t : Expr} {x : Str} (h : nameOf t = some x) : ∃ p, t = .Name x p := by
  cases t with
  | Name y p => exact ⟨p, congrArg (Expr.Name · p) (Option.some.inj h)⟩
  | _ => cases h
def partsOf2 (t : Expr) : Option (Expr × Expr) := match t with
  | .Tuple tl _ _ => (match tl with
    | [] => Option.none
    | a :: r => (match r with
      | [] => Option.none
      | b :: r => (match r with
        | [] => some (a, b)
        | _ :: _ => Option.none)))
  | _ => Option.none
theorem partsOf2_is {t a b : Expr} (h : partsOf2 t = some (a, b)) : ∃ k p, t = .Tuple [a, b] k p := by
  cases t with
  | Tuple tl k p =>
    cases tl with
    | nil => cases h
    | cons a r => cases r with
      | nil => cases h
      | cons b r => cases r with
        | nil => cases h; exact ⟨k, p, rfl⟩
        | cons _ _ => cases h
  | _ => cases h
def pairIn (v : Val) : Option (Val × Val) := match v with
  | .tup vs => (match vs with
    | [] => Option.none
    | u :: r => (match r with
      | [] => Option.none
      | w :: r => (match r with
        | [] => some (u, w)
        | _ :: _ => Option.none)))
  | _ => Option.none
theorem pairIn_is {v u w : Val} (h : pairIn v = some (u, w)) : v = .tup [u, w] := by
  cases v with
  | tup vs =>
    cases vs with
    | nil => cases h
    | cons u r => cases r with
      | nil => cases h
      | cons w r => cases r with
        | nil => cases h; rfl
        | cons _ _ => cases h
  | _ => cases h
def bindT (calm : Bool) (sc : Scope) (t : Expr) (v : Val) (ρ : Rho) : Option Rho :=
  match nameOf t with
  | some x => if isLoc sc x then some (upd ρ x v) else Option.none
  | Option.none => (partsOf2 t).bind fun ab => (nameOf ab.1).bind fun x => (nameOf ab.2).bind fun y => (pairIn v).bind fun uw =>
      if calm && isLoc sc x && isLoc sc y && x != y then some (upd (upd ρ x uw.1) y uw.2) else Option.none
/-- what a target is that takes names -/
theorem bindT_is {calm : Bool} {sc : Scope} {t : Expr} {v : Val} {ρ ρ' : Rho} (h : bindT calm sc t v ρ = some ρ') :
    (∃ x p, t = .Name x p ∧ isLoc sc x = true ∧ ρ' = upd ρ x v) ∨
    (∃ x p y q k r u w, t = .Tuple [.Name x p, .Name y q] k r ∧ v = .tup [u, w] ∧ (calm && isLoc sc x && isLoc sc y && x != y) = true ∧ ρ' = upd (upd ρ x u) y w) := by
  unfold bindT at h
  cases hn : nameOf t with
  | some x =>
    rw [hn] at h
    obtain ⟨p, rfl⟩ := nameOf_is hn
    have h : (if isLoc sc x then some (upd ρ x v) else Option.none) = some ρ' := h
    by_cases hl : isLoc sc x = true
    · rw [if_pos hl] at h; exact .inl ⟨x, p, rfl, hl, (Option.some.inj h).symm⟩
    · rw [if_neg hl] at h; cases h
  | none =>
    rw [hn] at h
    obtain ⟨⟨a, b⟩, h1, g1⟩ := Option.bind_eq_some_iff.mp h
    obtain ⟨x, h2, g2⟩ := Option.bind_eq_some_iff.mp g1
    obtain ⟨y, h3, g3⟩ := Option.bind_eq_some_iff.mp g2
    obtain ⟨⟨u, w⟩, h4, g4⟩ := Option.bind_eq_some_iff.mp g3
    clear h g1 g2 g3
    dsimp only at h2 h3
    obtain ⟨p, rfl⟩ := nameOf_is h2
    obtain ⟨q, rfl⟩ := nameOf_is h3
    obtain ⟨k, r, rfl⟩ := partsOf2_is h1
    have h : (if calm && isLoc sc x && isLoc sc y && x != y then some (upd (upd ρ x u) y w) else Option.none) = some ρ' := g4
    by_cases hl : (calm && isLoc sc x && isLoc sc y && x != y) = true
    · rw [if_pos hl] at h; exact .inr ⟨x, p, y, q, k, r, u, w, rfl, pairIn_is h4, hl, (Option.some.inj h).symm⟩
    · rw [if_neg hl] at h; cases h

def forLoop (step : Val → Rho → Store → (Fl → Rho → Store → Prop) → Prop) (calm : Bool) (ok : Store → Prop) : List Val → Rho → Store → (Fl → Rho → Store → Prop) → Prop
  | [], ρ, σ, Q => calm = true ∧ Q .next ρ σ
  | x :: xs, ρ, σ, Q => step x ρ σ fun fl ρ' σ' => match fl with
    | .next => ok σ' ∧ forLoop step calm ok xs ρ' σ' Q
    | .ret v => Q (.ret v) ρ' σ'

def compLoop (step : Val → Store → (Option Val → Store → Prop) → Prop) (ok : Store → Prop) : List Val → List Val → Store → (List Val → Store → Prop) → Prop
  | [], acc, σ, K => K acc σ
  | x :: xs, acc, σ, K => step x σ fun r σ' => ok σ' ∧ compLoop step ok xs (match r with | some y => acc ++ [y] | Option.none => acc) σ' K

def compRho (csc : Scope) (ρ : Rho) : Rho := fun y => match csc.names.lookup y with
  | some .free => ρ y
  | _ => Option.none

def compOk (sc csc : Scope) : Bool := csc.kind == .function && (csc.names.lookup ("__debug__" : Str)).isNone && (csc.names.lookup ("__classdict__" : Str)).isNone && csc.names.all (fun x => x.2 != .cell && (x.2 != .local || csc.names.lookup x.1 == some .local) && (x.2 != .free || sc.names.lookup x.1 == some .cell))

def sliceV (xs : List Val) (l u s : Option Int) (σ : Store) (Q : VPost) : Prop :=
  match l with
  | Option.none => match u with
    | Option.none => match s with
      | some k => k = 2 ∧ ∀ c, σ c = Option.none → Q (.ref c) (σ.set c (.list (everySecond xs)))
      | Option.none => False
    | some _ => False
  | some _ => False

/-- one turn of a loop -/
def forStep (run : Rho → Store → (Fl → Rho → Store → Prop) → Prop) (calm : Bool) (sc : Scope) (t : Expr) (x : Val) (ρ : Rho) (σ : Store) (K : Fl → Rho → Store → Prop) : Prop :=
  match bindT calm sc t x ρ with
  | some ρ' => run ρ' σ K
  | Option.none => False
/-- one turn of a comprehension -/
def compStep (tests : Rho → Store → BPost → Prop) (elt : Rho → Store → VPost → Prop) (calm : Bool) (sc : Scope) (t : Expr) (ρ : Rho) (x : Val) (σ : Store) (k : Option Val → Store → Prop) : Prop :=
  match bindT calm sc t x ρ with
  | some ρ' => tests ρ' σ fun b σ₁ => (b = true → elt ρ' σ₁ fun y σ₂ => k (some y) σ₂) ∧ (b = false → k Option.none σ₁)
  | Option.none => False

mutual
def ev : Cx → Nat → Scope → Expr → Rho → Store → VPost → Prop
  | _, 0, _, _, _, _, _ => False
  | C, n + 1, sc, e, ρ, σ, Q => match e with
    | .Constant c _ _ => match c with
      | .int i => Q (.int i) σ
      | .bool b => Q (.bool b) σ
      | .none => Q .none σ
      | .str s => Q (.str s) σ
      | _ => False
    | .Name x _ => match sc.names.lookup x with
      | some .globalImplicit => match C.gl x with
        | some v => Q v σ
        | Option.none => False
      | some .local | some .cell | some .free => match ρ x with
        | some v => Q v σ
        | Option.none => False
      | _ => False
    | .BinOp l op r _ => ev C n sc l ρ σ fun a σ₁ => ev C n sc r ρ σ₁ fun b σ₂ => binop op a b σ₂ Q
    | .UnaryOp op x _ => ev C n sc x ρ σ fun a σ₁ => unop op a σ₁ Q
    | .BoolOp op vs _ => evBool C n sc op vs ρ σ Q
    | .Compare l ops rs _ => ev C n sc l ρ σ fun a σ₁ => evCmp C n sc a ops rs ρ σ₁ fun b σ₂ => Q (.bool b) σ₂
    | .Call (.Attribute o m ap) args [] cp => (plainBase o = true ∧ fewArgs args = true ∧ (ap.endLine == cp.line) = true) ∧ ev C n sc o ρ σ fun ov σ₁ => match methKind ov m σ₁ with
        | some k => methOk C k m = true ∧ evs C n sc args ρ σ₁ fun vs σ₂ => methV C k m vs σ₂ Q
        | Option.none => False
    | .Call (.Name f p) args [] _ => fewArgs args = true ∧ ev C n sc (.Name f p) ρ σ fun fv σ₁ => evs C n sc args ρ σ₁ fun vs σ₂ => callV C fv vs σ₂ Q
    | .Subscript o (.Slice l u s _) _ => ev C n sc o ρ σ fun ov σ₁ => evOpt C n sc l ρ σ₁ fun lv σ₂ => evOpt C n sc u ρ σ₂ fun uv σ₃ => evOpt C n sc s ρ σ₃ fun sv σ₄ =>
        match ov with
        | .ref p => match σ₄ p with
          | some (.list xs) => sliceV xs lv uv sv σ₄ Q
          | _ => False
        | _ => False
    | .Subscript o i _ => ev C n sc o ρ σ fun ov σ₁ => ev C n sc i ρ σ₁ fun iv σ₂ => subscr ov iv σ₂ Q
    | .List es _ => fewArgs es = true ∧ evs C n sc es ρ σ fun vs σ₁ => ∀ c, σ₁ c = Option.none → Q (.ref c) (σ₁.set c (.list vs))
    | .Tuple es _ _ => fewArgs es = true ∧ evs C n sc es ρ σ fun vs σ₁ => Q (.tup vs) σ₁
    | .Dict [] [] _ => ∀ c, σ c = Option.none → Q (.ref c) (σ.set c (.dictP []))
    | .ListComp elt [⟨target, iter, ifs, 0⟩] csc _ => (C.calm = true ∧ compOk sc csc = true) ∧ ev C n sc iter ρ σ fun v σ₁ => match itemsOf σ₁ v with
        | some items => compLoop (compStep (evIfs C.hush n csc ifs) (ev C.hush n csc elt) C.calm csc target (compRho csc ρ)) (still σ₁ v) items [] σ₁ fun acc σ₂ => ∀ c, σ₂ c = Option.none → Q (.ref c) (σ₂.set c (.list acc))
        | Option.none => False
    | _ => False
def evOpt : Cx → Nat → Scope → Option Expr → Rho → Store → (Option Int → Store → Prop) → Prop
  | _, _, _, Option.none, _, σ, Q => Q Option.none σ
  | _, 0, _, some _, _, _, _ => False
  | C, n + 1, sc, some e, ρ, σ, Q => ev C n sc e ρ σ fun v σ₁ => match v with
    | .int i => Q (some i) σ₁
    | _ => False
def evs : Cx → Nat → Scope → List Expr → Rho → Store → (List Val → Store → Prop) → Prop
  | _, _, _, [], _, σ, Q => Q [] σ
  | _, 0, _, _ :: _, _, _, _ => False
  | C, n + 1, sc, e :: r, ρ, σ, Q => ev C n sc e ρ σ fun v σ₁ => evs C n sc r ρ σ₁ fun vs σ₂ => Q (v :: vs) σ₂
def evBool : Cx → Nat → Scope → BoolOp → List Expr → Rho → Store → VPost → Prop
  | _, 0, _, _, _, _, _, _ => False
  | C, n + 1, sc, op, es, ρ, σ, Q => match es with
    | [] => False
    | [e] => ev C n sc e ρ σ Q
    | e :: r => ev C n sc e ρ σ fun v σ₁ => truth v σ₁ fun b σ₂ => match op with
      | .And => (b = false → Q v σ₂) ∧ (b = true → evBool C n sc op r ρ σ₂ Q)
      | .Or => (b = true → Q v σ₂) ∧ (b = false → evBool C n sc op r ρ σ₂ Q)
def evCmp : Cx → Nat → Scope → Val → List CmpOp → List Expr → Rho → Store → BPost → Prop
  | _, 0, _, _, _, _, _, _, _ => False
  | C, n + 1, sc, a, ops, rs, ρ, σ, Q => match ops, rs with
    | [op], [r] => ev C n sc r ρ σ fun b σ₁ => cmpop op a b σ₁ Q
    | op :: op' :: ops, r :: r' :: rs => ev C n sc r ρ σ fun b σ₁ => cmpop op a b σ₁ fun c σ₂ => (c = true → evCmp C n sc b (op' :: ops) (r' :: rs) ρ σ₂ Q) ∧ (c = false → Q false σ₂)
    | _, _ => False
/-- a test: the truth of an expression -/
def tst : Cx → Nat → Scope → Expr → Rho → Store → BPost → Prop
  | _, 0, _, _, _, _, _ => False
  | C, n + 1, sc, e, ρ, σ, Q => match e with
    | .UnaryOp .Not x _ => tst C n sc x ρ σ fun b σ₁ => Q (!b) σ₁
    | .BoolOp op vs _ => tstAll C n sc op vs ρ σ Q
    | .Compare l ops rs _ => ev C n sc l ρ σ fun a σ₁ => evCmp C n sc a ops rs ρ σ₁ Q
    | e => ev C n sc e ρ σ fun v σ₁ => truth v σ₁ Q
def tstAll : Cx → Nat → Scope → BoolOp → List Expr → Rho → Store → BPost → Prop
  | _, 0, _, _, _, _, _, _ => False
  | C, n + 1, sc, op, es, ρ, σ, Q => match es with
    | [] => match op with
      | .And => Q true σ
      | .Or => Q false σ
    | e :: r => tst C n sc e ρ σ fun b σ₁ => match op with
      | .And => (b = false → Q false σ₁) ∧ (b = true → tstAll C n sc op r ρ σ₁ Q)
      | .Or => (b = true → Q true σ₁) ∧ (b = false → tstAll C n sc op r ρ σ₁ Q)
/-- the tests of a comprehension -/
def evIfs : Cx → Nat → Scope → List Expr → Rho → Store → BPost → Prop
  | _, 0, _, _, _, _, _ => False
  | C, n + 1, sc, es, ρ, σ, Q => match es with
    | [] => Q true σ
    | [c] => tst C n sc c ρ σ Q
    | _ => False
end

mutual
def ex : Cx → Nat → Scope → Stmt → Rho → Store → (Fl → Rho → Store → Prop) → Prop
  | _, 0, _, _, _, _, _ => False
  | C, n + 1, sc, st, ρ, σ, Q => match st with
    | .Pass _ => Q .next ρ σ
    | .Expr (.Call f as ks p) _ => ev C n sc (.Call f as ks p) ρ σ fun _ σ₁ => Q .next ρ σ₁
    | .Return (some e) _ => ev C n sc e ρ σ fun v σ₁ => Q (.ret v) ρ σ₁
    | .Return Option.none _ => Q (.ret .none) ρ σ
    | .Assign ts e _ => match ts with
      | [t] => match t with
        | .Name x _ => isLoc sc x = true ∧ ev C n sc e ρ σ fun v σ₁ => Q .next (upd ρ x v) σ₁
        | .Tuple tl k p => match tl with
          | [a, b] => match a with
            | .Name x px => match b with
              | .Name y py => match e with
                | .Name z pz => ev C n sc (.Name z pz) ρ σ fun v σ₁ => match bindT C.calm sc (.Tuple [.Name x px, .Name y py] k p) v ρ with
                  | some ρ' => Q .next ρ' σ₁
                  | Option.none => False
                | .Call f as ks pc => ev C n sc (.Call f as ks pc) ρ σ fun v σ₁ => match bindT C.calm sc (.Tuple [.Name x px, .Name y py] k p) v ρ with
                  | some ρ' => Q .next ρ' σ₁
                  | Option.none => False
                | _ => False
              | _ => False
            | _ => False
          | _ => False
        | .Subscript o i _ => ev C n sc e ρ σ fun v σ₁ => ev C n sc o ρ σ₁ fun ov σ₂ => ev C n sc i ρ σ₂ fun iv σ₃ => setitem ov iv v σ₃ fun σ₄ => Q .next ρ σ₄
        | _ => False
      | _ => False
    | .If t b o _ => tst C n sc t ρ σ fun c σ₁ => (c = true → exs C n sc b ρ σ₁ Q) ∧ (c = false → exs C n sc o ρ σ₁ Q)
    | .For t it b [] _ => ev C n sc it ρ σ fun v σ₁ => match v with
      | .keys d => match σ₁ d with
        | some (.dictP es) => forLoop (forStep (exs (C.pull fun σ => σ.set d (.dictP es)) n sc b) C.calm sc t) C.calm (fun _ => True) (es.map fun e => pairV e.1) ρ (σ₁.set d (.dictR es)) fun fl ρ' σ' => Q fl ρ' (σ'.set d (.dictP es))
        | _ => False
      | v => match itemsOf σ₁ v with
        | some items => forLoop (forStep (exs C n sc b) C.calm sc t) C.calm (still σ₁ v) items ρ σ₁ Q
        | Option.none => False
    | _ => False
def exs : Cx → Nat → Scope → List Stmt → Rho → Store → (Fl → Rho → Store → Prop) → Prop
  | _, _, _, [], ρ, σ, Q => Q .next ρ σ
  | _, 0, _, _ :: _, _, _, _ => False
  | C, n + 1, sc, st :: r, ρ, σ, Q => ex C n sc st ρ σ fun fl ρ₁ σ₁ => match fl with
    | .next => exs C n sc r ρ₁ σ₁ Q
    | .ret v => Q (.ret v) ρ₁ σ₁
end
end Mine

set_option linter.unusedVariables false
namespace Mine
open PySem

theorem lexLt_irrefl : ∀ a : List Int, lexLt a a = false
  | [] => rfl
  | x :: a => by simp [lexLt, lexLt_irrefl a]
theorem lexLt_asymm : ∀ a b : List Int, lexLt a b = true → lexLt b a = false
  | [], [], h => by simp [lexLt] at h
  | [], _ :: _, _ => rfl
  | _ :: _, [], h => by simp [lexLt] at h
  | x :: a, y :: b, h => by
    unfold lexLt at h ⊢
    by_cases e : x = y
    · subst e; simp only [if_true] at h ⊢; exact lexLt_asymm a b h
    · rw [if_neg e] at h; rw [if_neg (Ne.symm e)]
      simp only [decide_eq_true_eq] at h; simp only [decide_eq_false_iff_not]; omega
theorem lexLt_antisymm : ∀ a b : List Int, lexLt a b = false → lexLt b a = false → a = b
  | [], [], _, _ => rfl
  | [], _ :: _, h, _ => by simp [lexLt] at h
  | _ :: _, [], _, h => by simp [lexLt] at h
  | x :: a, y :: b, h1, h2 => by
    unfold lexLt at h1 h2
    by_cases e : x = y
    · subst e; simp only [if_true] at h1 h2; rw [lexLt_antisymm a b h1 h2]
    · rw [if_neg e] at h1; rw [if_neg (Ne.symm e)] at h2
      simp only [decide_eq_false_iff_not] at h1 h2; omega
theorem lexLt_trans : ∀ a b c : List Int, lexLt a b = true → lexLt b c = true → lexLt a c = true
  | [], [], _, h, _ => by simp [lexLt] at h
  | [], _ :: _, [], _, h => by simp [lexLt] at h
  | [], _ :: _, _ :: _, _, _ => rfl
  | _ :: _, [], _, h, _ => by simp [lexLt] at h
  | _ :: _, _ :: _, [], _, h => by simp [lexLt] at h
  | x :: a, y :: b, z :: c, h1, h2 => by
    unfold lexLt at h1 h2 ⊢
    by_cases e : x = y
    · subst e
      simp only [if_true] at h1
      by_cases e2 : x = z
      · subst e2; simp only [if_true] at h2 ⊢; exact lexLt_trans a b c h1 h2
      · rw [if_neg e2] at h2 ⊢; exact h2
    · rw [if_neg e] at h1
      by_cases e2 : y = z
      · subst e2; rw [if_neg e]; exact h1
      · rw [if_neg e2] at h2
        simp only [decide_eq_true_eq] at h1 h2
        rw [if_neg (by omega)]; simp only [decide_eq_true_eq]; omega
theorem lexLe_trans (a b c : List Int) (h1 : lexLt b a = false) (h2 : lexLt c b = false) : lexLt c a = false := by
  cases h : lexLt c a with
  | false => rfl
  | true =>
    cases h3 : lexLt a b with
    | true => rw [lexLt_trans c a b h h3] at h2; cases h2
    | false => rw [lexLt_antisymm a b h3 h1] at h; rw [h] at h2; cases h2

theorem vLe_trans (a b c : Val) (h1 : vLe a b = true) (h2 : vLe b c = true) : vLe a c = true := by
  unfold vLe vLt at *
  simp only [Bool.not_eq_true'] at *
  exact lexLe_trans _ _ _ h1 h2
theorem vLe_total (a b : Val) : (vLe a b || vLe b a) = true := by
  unfold vLe vLt
  cases h : lexLt (keyV b) (keyV a) with
  | false => rfl
  | true => rw [lexLt_asymm _ _ h]; rfl
theorem intsOf_ofInts : ∀ l : List Int, intsOf (ofInts l) = some l
  | [] => rfl
  | x :: l => by simp only [ofInts, List.map_cons, intsOf]; have := intsOf_ofInts l; simp only [ofInts] at this; rw [this]; rfl
theorem keyV_tup (l : List Int) : keyV (.tup (ofInts l)) = l := by simp [keyV, tupInts, intsOf_ofInts]
theorem vLe_antisymm {a b : Val} (ha : ∃ l, a = .tup (ofInts l)) (hb : ∃ l, b = .tup (ofInts l)) (h1 : vLe a b = true) (h2 : vLe b a = true) : a = b := by
  obtain ⟨l, rfl⟩ := ha
  obtain ⟨m, rfl⟩ := hb
  unfold vLe vLt at *
  simp only [Bool.not_eq_true', keyV_tup] at *
  rw [lexLt_antisymm _ _ h2 h1]
theorem sortV_perm (xs : List Val) : (sortV xs).Perm xs := List.mergeSort_perm xs vLe
theorem sortV_sorted (xs : List Val) : (sortV xs).Pairwise fun a b => vLe a b = true := List.pairwise_mergeSort vLe_trans vLe_total xs
theorem sortable_tup {xs : List Val} (h : sortable xs) : ∀ x ∈ xs, ∃ l, x = .tup (ofInts l) := fun x hx => let ⟨i, is, e⟩ := h x hx; ⟨_, e⟩
/-- what is sorted is the sorting -/
theorem sorted_unique {xs ys : List Val} (hs : sortable xs) (hp : ys.Perm xs) (ho : ys.Pairwise fun a b => vLe a b = true) : ys = sortV xs := by
  refine List.Perm.eq_of_pairwise (le := fun a b => vLe a b = true) (fun a b ha hb h1 h2 => ?_) ho (sortV_sorted xs) (hp.trans (sortV_perm xs).symm)
  exact vLe_antisymm (sortable_tup hs a (hp.mem_iff.mp ha)) (sortable_tup hs b ((sortV_perm xs).mem_iff.mp hb)) h1 h2
theorem sortV_congr {xs ys : List Val} (hs : sortable ys) (hp : xs.Perm ys) : sortV xs = sortV ys := sorted_unique hs ((sortV_perm xs).trans hp) (sortV_sorted xs)
end Mine

set_option linter.unusedVariables false
namespace Mine
open PySem

/-- a loop's body, kept shut -/
def lateX (C : Cx) (n : Nat) (sc : Scope) (b : List Stmt) : Rho → Store → (Fl → Rho → Store → Prop) → Prop := exs C n sc b
def lateT (C : Cx) (n : Nat) (sc : Scope) (e : Expr) : Rho → Store → BPost → Prop := tst C n sc e
def lateI (C : Cx) (n : Nat) (sc : Scope) (es : List Expr) : Rho → Store → BPost → Prop := evIfs C n sc es
def lateV (C : Cx) (n : Nat) (sc : Scope) (e : Expr) : Rho → Store → VPost → Prop := ev C n sc e
section
variable {C : Cx} {n : Nat} {sc : Scope} {ρ : Rho} {σ : Store} {Q : VPost} {R : Fl → Rho → Store → Prop}
theorem ev_int {i : Int} {k p} : ev C (n + 1) sc (.Constant (.int i) k p) ρ σ Q = Q (.int i) σ := rfl
theorem ev_bool {i : Bool} {k p} : ev C (n + 1) sc (.Constant (.bool i) k p) ρ σ Q = Q (.bool i) σ := rfl
theorem ev_none {k p} : ev C (n + 1) sc (.Constant .none k p) ρ σ Q = Q .none σ := rfl
theorem ev_str {x : Str} {k p} : ev C (n + 1) sc (.Constant (.str x) k p) ρ σ Q = Q (.str x) σ := rfl
theorem ev_Name {x : Str} {p} : ev C (n + 1) sc (.Name x p) ρ σ Q = (match sc.names.lookup x with
      | some .globalImplicit => match C.gl x with
        | some v => Q v σ
        | Option.none => False
      | some .local | some .cell | some .free => match ρ x with
        | some v => Q v σ
        | Option.none => False
      | _ => False) := rfl
theorem ev_BinOp {l op r p} : ev C (n + 1) sc (.BinOp l op r p) ρ σ Q = ev C n sc l ρ σ fun a σ₁ => ev C n sc r ρ σ₁ fun b σ₂ => binop op a b σ₂ Q := rfl
theorem ev_UnaryOp {op x p} : ev C (n + 1) sc (.UnaryOp op x p) ρ σ Q = ev C n sc x ρ σ fun a σ₁ => unop op a σ₁ Q := rfl
theorem ev_BoolOp {op vs p} : ev C (n + 1) sc (.BoolOp op vs p) ρ σ Q = evBool C n sc op vs ρ σ Q := rfl
theorem ev_Compare {l ops rs p} : ev C (n + 1) sc (.Compare l ops rs p) ρ σ Q = ev C n sc l ρ σ fun a σ₁ => evCmp C n sc a ops rs ρ σ₁ fun b σ₂ => Q (.bool b) σ₂ := rfl
/-- a method's call, kept shut -/
def lateM (C : Cx) (n : Nat) (sc : Scope) (args : List Expr) (ρ : Rho) (ov : Val) (m : Str) (σ₁ : Store) (Q : VPost) : Prop :=
  match methKind ov m σ₁ with
  | some k => methOk C k m = true ∧ evs C n sc args ρ σ₁ fun vs σ₂ => methV C k m vs σ₂ Q
  | Option.none => False
theorem ev_CallA {o : Expr} {m : Str} {ap cp : Pos} {args : List Expr} : ev C (n + 1) sc (.Call (.Attribute o m ap) args [] cp) ρ σ Q = ((plainBase o = true ∧ fewArgs args = true ∧ (ap.endLine == cp.line) = true) ∧ ev C n sc o ρ σ fun ov σ₁ => lateM C n sc args ρ ov m σ₁ Q) := rfl
theorem lateM_list {args : List Expr} {p : Addr} {xs : List Val} {m : Str} (h : σ p = some (.list xs)) (hm : (m == "append") = true) : lateM C n sc args ρ (.ref p) m σ Q = evs C n sc args ρ σ fun vs σ₂ => listMeth p m vs σ₂ Q := by
  simp only [lateM, methKind, h, methOk, hm, methV, true_and]
theorem lateM_dictP {args : List Expr} {p : Addr} {es : List ((Int × Int) × Val)} {m : Str} (h : σ p = some (.dictP es)) (hm : (m == "keys" || m == "get" || m == "setdefault") = true) : lateM C n sc args ρ (.ref p) m σ Q = evs C n sc args ρ σ fun vs σ₂ => dictMeth p m vs σ₂ Q := by
  simp only [lateM, methKind, h, methOk, hm, methV, true_and]
theorem lateM_dictI {args : List Expr} {p : Addr} {es : List (Int × Val)} {m : Str} (h : σ p = some (.dictI es)) (hm : (m == "keys" || m == "get" || m == "setdefault") = true) : lateM C n sc args ρ (.ref p) m σ Q = evs C n sc args ρ σ fun vs σ₂ => dictMeth p m vs σ₂ Q := by
  simp only [lateM, methKind, h, methOk, hm, methV, true_and]
theorem lateM_set {args : List Expr} {p : Addr} {xs : List Val} : lateM C n sc args ρ (.ref p) "append" (σ.set p (.list xs)) Q = evs C n sc args ρ (σ.set p (.list xs)) fun vs σ₂ => listMeth p "append" vs σ₂ Q :=
  lateM_list (xs := xs) (by simp [Store.set]) (by decide)
theorem ev_CallN {f : Str} {p cp : Pos} {args : List Expr} : ev C (n + 1) sc (.Call (.Name f p) args [] cp) ρ σ Q = (fewArgs args = true ∧ ev C n sc (.Name f p) ρ σ fun fv σ₁ => evs C n sc args ρ σ₁ fun vs σ₂ => callV C fv vs σ₂ Q) := rfl
theorem ev_Slice {o : Expr} {l u s : Option Expr} {q p : Pos} : ev C (n + 1) sc (.Subscript o (.Slice l u s q) p) ρ σ Q = ev C n sc o ρ σ fun ov σ₁ => evOpt C n sc l ρ σ₁ fun lv σ₂ => evOpt C n sc u ρ σ₂ fun uv σ₃ => evOpt C n sc s ρ σ₃ fun sv σ₄ =>
        match ov with
        | .ref p => match σ₄ p with
          | some (.list xs) => sliceV xs lv uv sv σ₄ Q
          | _ => False
        | _ => False := rfl
theorem ev_SubN {o : Expr} {x : Str} {q : Pos} {p : Pos} : ev C (n + 1) sc (.Subscript o (.Name x q) p) ρ σ Q = ev C n sc o ρ σ fun ov σ₁ => ev C n sc (.Name x q) ρ σ₁ fun iv σ₂ => subscr ov iv σ₂ Q := rfl
theorem ev_SubC {o : Expr} {x k} {q : Pos} {p : Pos} : ev C (n + 1) sc (.Subscript o (.Constant x k q) p) ρ σ Q = ev C n sc o ρ σ fun ov σ₁ => ev C n sc (.Constant x k q) ρ σ₁ fun iv σ₂ => subscr ov iv σ₂ Q := rfl
theorem ev_SubB {o : Expr} {a op b} {q : Pos} {p : Pos} : ev C (n + 1) sc (.Subscript o (.BinOp a op b q) p) ρ σ Q = ev C n sc o ρ σ fun ov σ₁ => ev C n sc (.BinOp a op b q) ρ σ₁ fun iv σ₂ => subscr ov iv σ₂ Q := rfl
theorem ev_SubU {o : Expr} {op a} {q : Pos} {p : Pos} : ev C (n + 1) sc (.Subscript o (.UnaryOp op a q) p) ρ σ Q = ev C n sc o ρ σ fun ov σ₁ => ev C n sc (.UnaryOp op a q) ρ σ₁ fun iv σ₂ => subscr ov iv σ₂ Q := rfl
theorem ev_SubF {o : Expr} {f as ks} {q : Pos} {p : Pos} : ev C (n + 1) sc (.Subscript o (.Call f as ks q) p) ρ σ Q = ev C n sc o ρ σ fun ov σ₁ => ev C n sc (.Call f as ks q) ρ σ₁ fun iv σ₂ => subscr ov iv σ₂ Q := rfl
theorem ev_SubS {o : Expr} {a b} {q : Pos} {p : Pos} : ev C (n + 1) sc (.Subscript o (.Subscript a b q) p) ρ σ Q = ev C n sc o ρ σ fun ov σ₁ => ev C n sc (.Subscript a b q) ρ σ₁ fun iv σ₂ => subscr ov iv σ₂ Q := rfl
theorem ev_SubT {o : Expr} {es k} {q : Pos} {p : Pos} : ev C (n + 1) sc (.Subscript o (.Tuple es k q) p) ρ σ Q = ev C n sc o ρ σ fun ov σ₁ => ev C n sc (.Tuple es k q) ρ σ₁ fun iv σ₂ => subscr ov iv σ₂ Q := rfl
theorem ev_SubA {o : Expr} {a b} {q : Pos} {p : Pos} : ev C (n + 1) sc (.Subscript o (.Attribute a b q) p) ρ σ Q = ev C n sc o ρ σ fun ov σ₁ => ev C n sc (.Attribute a b q) ρ σ₁ fun iv σ₂ => subscr ov iv σ₂ Q := rfl
theorem ev_List {es : List Expr} {p : Pos} : ev C (n + 1) sc (.List es p) ρ σ Q = (fewArgs es = true ∧ evs C n sc es ρ σ fun vs σ₁ => ∀ c, σ₁ c = Option.none → Q (.ref c) (σ₁.set c (.list vs))) := rfl
theorem ev_Tuple {es : List Expr} {k : Nat} {p : Pos} : ev C (n + 1) sc (.Tuple es k p) ρ σ Q = (fewArgs es = true ∧ evs C n sc es ρ σ fun vs σ₁ => Q (.tup vs) σ₁) := rfl
theorem ev_Dict0 {p : Pos} : ev C (n + 1) sc (.Dict [] [] p) ρ σ Q = ∀ c, σ c = Option.none → Q (.ref c) (σ.set c (.dictP [])) := rfl
theorem ev_Comp {elt target iter : Expr} {ifs : List Expr} {csc : Scope} {p : Pos} : ev C (n + 1) sc (.ListComp elt [⟨target, iter, ifs, 0⟩] csc p) ρ σ Q = ((C.calm = true ∧ compOk sc csc = true) ∧ ev C n sc iter ρ σ fun v σ₁ => match itemsOf σ₁ v with
        | some items => compLoop (compStep (lateI C.hush n csc ifs) (lateV C.hush n csc elt) C.calm csc target (compRho csc ρ)) (still σ₁ v) items [] σ₁ fun acc σ₂ => ∀ c, σ₂ c = Option.none → Q (.ref c) (σ₂.set c (.list acc))
        | Option.none => False) := rfl
theorem ex_Pass {p : Pos} : ex C (n + 1) sc (.Pass p) ρ σ R = R .next ρ σ := rfl
theorem ex_Expr {f as ks p q} : ex C (n + 1) sc (.Expr (.Call f as ks p) q) ρ σ R = ev C n sc (.Call f as ks p) ρ σ fun _ σ₁ => R .next ρ σ₁ := rfl
theorem ex_RetS {e p} : ex C (n + 1) sc (.Return (some e) p) ρ σ R = ev C n sc e ρ σ fun v σ₁ => R (.ret v) ρ σ₁ := rfl
theorem ex_RetN {p} : ex C (n + 1) sc (.Return none p) ρ σ R = R (.ret .none) ρ σ := rfl
theorem ex_AName {x q e p} : ex C (n + 1) sc (.Assign [.Name x q] e p) ρ σ R = (isLoc sc x = true ∧ ev C n sc e ρ σ fun v σ₁ => R .next (upd ρ x v) σ₁) := rfl
theorem ex_ATupN {x px y py k p z pz q} : ex C (n + 1) sc (.Assign [.Tuple [.Name x px, .Name y py] k p] (.Name z pz) q) ρ σ R = ev C n sc (.Name z pz) ρ σ fun v σ₁ => match bindT C.calm sc (.Tuple [.Name x px, .Name y py] k p) v ρ with
        | some ρ' => R .next ρ' σ₁
        | Option.none => False := rfl
theorem ex_ATupC {x px y py k p f as ks pc q} : ex C (n + 1) sc (.Assign [.Tuple [.Name x px, .Name y py] k p] (.Call f as ks pc) q) ρ σ R = ev C n sc (.Call f as ks pc) ρ σ fun v σ₁ => match bindT C.calm sc (.Tuple [.Name x px, .Name y py] k p) v ρ with
        | some ρ' => R .next ρ' σ₁
        | Option.none => False := rfl
theorem ex_ASub {o i q e p} : ex C (n + 1) sc (.Assign [.Subscript o i q] e p) ρ σ R = ev C n sc e ρ σ fun v σ₁ => ev C n sc o ρ σ₁ fun ov σ₂ => ev C n sc i ρ σ₂ fun iv σ₃ => setitem ov iv v σ₃ fun σ₄ => R .next ρ σ₄ := rfl
theorem ex_If {t b o p} : ex C (n + 1) sc (.If t b o p) ρ σ R = tst C n sc t ρ σ fun c σ₁ => (c = true → exs C n sc b ρ σ₁ R) ∧ (c = false → exs C n sc o ρ σ₁ R) := rfl
/-- what follows, kept shut -/
def seqK (C : Cx) (n : Nat) (sc : Scope) (r : List Stmt) (R : Fl → Rho → Store → Prop) (fl : Fl) (ρ₁ : Rho) (σ₁ : Store) : Prop :=
  match fl with
  | .next => exs C n sc r ρ₁ σ₁ R
  | .ret v => R (.ret v) ρ₁ σ₁
theorem seqK_next {r : List Stmt} : seqK C n sc r R .next ρ σ = exs C n sc r ρ σ R := rfl
theorem seqK_ret {r : List Stmt} {v : Val} : seqK C n sc r R (.ret v) ρ σ = R (.ret v) ρ σ := rfl
theorem exs_nil' : exs C n sc [] ρ σ R = R .next ρ σ := by cases n <;> rfl
theorem exs_one {st : Stmt} : exs C (n + 2) sc [st] ρ σ R = ex C (n + 1) sc st ρ σ R := by
  show ex C (n + 1) sc st ρ σ _ = _
  congr 1
  funext fl ρ₁ σ₁
  cases fl <;> rfl
theorem exs_cons' {st st' : Stmt} {r : List Stmt} : exs C (n + 1) sc (st :: st' :: r) ρ σ R = ex C n sc st ρ σ (seqK C n sc (st' :: r) R) := rfl
/-- a loop over a value -/
def forV (C : Cx) (n : Nat) (sc : Scope) (t : Expr) (b : List Stmt) (v : Val) (ρ : Rho) (σ₁ : Store) (R : Fl → Rho → Store → Prop) : Prop :=
  match v with
      | .keys d => match σ₁ d with
        | some (.dictP es) => forLoop (forStep (lateX (C.pull fun σ => σ.set d (.dictP es)) n sc b) C.calm sc t) C.calm (fun _ => True) (es.map fun e => pairV e.1) ρ (σ₁.set d (.dictR es)) fun fl ρ' σ' => R fl ρ' (σ'.set d (.dictP es))
        | _ => False
      | v => match itemsOf σ₁ v with
        | some items => forLoop (forStep (lateX C n sc b) C.calm sc t) C.calm (still σ₁ v) items ρ σ₁ R
        | Option.none => False
theorem ex_For {t it b p} : ex C (n + 1) sc (.For t it b [] p) ρ σ R = ev C n sc it ρ σ fun v σ₁ => forV C n sc t b v ρ σ₁ R := rfl
theorem forV_list {t : Expr} {b : List Stmt} {p : Addr} {xs : List Val} (h : σ p = some (.list xs)) : forV C n sc t b (.ref p) ρ σ R = forLoop (forStep (lateX C n sc b) C.calm sc t) C.calm (still σ (.ref p)) xs ρ σ R := by
  simp only [forV, itemsOf, h]
theorem forV_rng {t : Expr} {b : List Stmt} {lo hi : Int} : forV C n sc t b (.rng lo hi) ρ σ R = forLoop (forStep (lateX C n sc b) C.calm sc t) C.calm (still σ (.rng lo hi)) (ofInts (rangeL lo hi)) ρ σ R := rfl
theorem forV_keys {t : Expr} {b : List Stmt} {d : Addr} {es : List ((Int × Int) × Val)} (h : σ d = some (.dictP es)) : forV C n sc t b (.keys d) ρ σ R =
    forLoop (forStep (lateX (C.pull fun σ => σ.set d (.dictP es)) n sc b) C.calm sc t) C.calm (fun _ => True) (es.map fun e => pairV e.1) ρ (σ.set d (.dictR es)) fun fl ρ' σ' => R fl ρ' (σ'.set d (.dictP es)) := by
  simp only [forV, h]
end


/-! the rest of the words, by unfolding alone -/
section
variable {C : Cx} {n : Nat} {sc : Scope} {ρ : Rho} {σ : Store} {Q : VPost} {R : BPost} {e : Expr}
theorem evs_0 {K : List Val → Store → Prop} : evs C (n + 1) sc [] ρ σ K = K [] σ := rfl
theorem evs_1 {K : List Val → Store → Prop} {r : List Expr} : evs C (n + 1) sc (e :: r) ρ σ K = ev C n sc e ρ σ fun v σ₁ => evs C n sc r ρ σ₁ fun vs σ₂ => K (v :: vs) σ₂ := rfl
theorem evOpt_0 {K : Option Int → Store → Prop} : evOpt C (n + 1) sc none ρ σ K = K none σ := rfl
theorem evOpt_1 {K : Option Int → Store → Prop} : evOpt C (n + 1) sc (some e) ρ σ K = ev C n sc e ρ σ fun v σ₁ => match v with
    | .int i => K (some i) σ₁
    | _ => False := rfl
theorem evBool_1 {op : BoolOp} : evBool C (n + 1) sc op [e] ρ σ Q = ev C n sc e ρ σ Q := rfl
theorem evBool_and {e' : Expr} {r : List Expr} : evBool C (n + 1) sc .And (e :: e' :: r) ρ σ Q = ev C n sc e ρ σ fun v σ₁ => truth v σ₁ fun b σ₂ => (b = false → Q v σ₂) ∧ (b = true → evBool C n sc .And (e' :: r) ρ σ₂ Q) := rfl
theorem evBool_or {e' : Expr} {r : List Expr} : evBool C (n + 1) sc .Or (e :: e' :: r) ρ σ Q = ev C n sc e ρ σ fun v σ₁ => truth v σ₁ fun b σ₂ => (b = true → Q v σ₂) ∧ (b = false → evBool C n sc .Or (e' :: r) ρ σ₂ Q) := rfl
theorem evCmp_1 {a : Val} {op : CmpOp} : evCmp C (n + 1) sc a [op] [e] ρ σ R = ev C n sc e ρ σ fun b σ₁ => cmpop op a b σ₁ R := rfl
theorem evCmp_2 {a : Val} {op op' : CmpOp} {ops : List CmpOp} {r' : Expr} {rs : List Expr} : evCmp C (n + 1) sc a (op :: op' :: ops) (e :: r' :: rs) ρ σ R = ev C n sc e ρ σ fun b σ₁ => cmpop op a b σ₁ fun c σ₂ => (c = true → evCmp C n sc b (op' :: ops) (r' :: rs) ρ σ₂ R) ∧ (c = false → R false σ₂) := rfl
theorem tst_Not {p : Pos} : tst C (n + 1) sc (.UnaryOp .Not e p) ρ σ R = tst C n sc e ρ σ fun b σ₁ => R (!b) σ₁ := rfl
theorem tst_Bool {op : BoolOp} {vs : List Expr} {p : Pos} : tst C (n + 1) sc (.BoolOp op vs p) ρ σ R = tstAll C n sc op vs ρ σ R := rfl
theorem tst_Cmp {ops rs p} : tst C (n + 1) sc (.Compare e ops rs p) ρ σ R = ev C n sc e ρ σ fun a σ₁ => evCmp C n sc a ops rs ρ σ₁ R := rfl
theorem tst_Name {x p} : tst C (n + 1) sc (.Name x p) ρ σ R = ev C n sc (.Name x p) ρ σ fun v σ₁ => truth v σ₁ R := rfl
theorem tst_Call {f as ks p} : tst C (n + 1) sc (.Call f as ks p) ρ σ R = ev C n sc (.Call f as ks p) ρ σ fun v σ₁ => truth v σ₁ R := rfl
theorem tst_Sub {o i p} : tst C (n + 1) sc (.Subscript o i p) ρ σ R = ev C n sc (.Subscript o i p) ρ σ fun v σ₁ => truth v σ₁ R := rfl
theorem tst_Const {o i p} : tst C (n + 1) sc (.Constant o i p) ρ σ R = ev C n sc (.Constant o i p) ρ σ fun v σ₁ => truth v σ₁ R := rfl
theorem tstAll_0a : tstAll C (n + 1) sc .And [] ρ σ R = R true σ := rfl
theorem tstAll_0o : tstAll C (n + 1) sc .Or [] ρ σ R = R false σ := rfl
theorem tstAll_1a {r : List Expr} : tstAll C (n + 1) sc .And (e :: r) ρ σ R = tst C n sc e ρ σ fun b σ₁ => (b = false → R false σ₁) ∧ (b = true → tstAll C n sc .And r ρ σ₁ R) := rfl
theorem tstAll_1o {r : List Expr} : tstAll C (n + 1) sc .Or (e :: r) ρ σ R = tst C n sc e ρ σ fun b σ₁ => (b = true → R true σ₁) ∧ (b = false → tstAll C n sc .Or r ρ σ₁ R) := rfl
theorem evIfs_0 : evIfs C (n + 1) sc [] ρ σ R = R true σ := rfl
theorem evIfs_1 : evIfs C (n + 1) sc [e] ρ σ R = tst C n sc e ρ σ R := rfl
theorem exs_0 {K : Fl → Rho → Store → Prop} : exs C (n + 1) sc [] ρ σ K = K .next ρ σ := rfl
theorem exs_1 {K : Fl → Rho → Store → Prop} {st : Stmt} {r : List Stmt} : exs C (n + 1) sc (st :: r) ρ σ K = ex C n sc st ρ σ fun fl ρ₁ σ₁ => match fl with
    | .next => exs C n sc r ρ₁ σ₁ K
    | .ret v => K (.ret v) ρ₁ σ₁ := rfl
end

end Mine

set_option linter.unusedVariables false
namespace Mine
open PySem PyProof.Rows

/-- where the text's own defs and classes lie -/
structure Tab where
  fn : Str → Option Addr
  cls : Str → Option Addr
  meth : Str → Str → Option Addr
  scr : Option (Addr × List Int)

mutual
inductive VRel (F : Tab) (h : Heap) : Value → Val → Prop
  | none : VRel F h .none .none
  | bool (b : Bool) : VRel F h (.bool b) (.bool b)
  | int (i : Int) (t : Tok) : VRel F h (.int i t) (.int i)
  | str (x : Str) (t : Tok) : VRel F h (.str x t) (.str x)
  | tup {a : Addr} {o : Obj} {items : Array Value} {n : Nat} {vs : List Val} : h.get? a = some o → o.cls = .type "tuple" → o.data = .seq items n → VRels F h items.toList vs → items.size ≤ cap → VRel F h (.ref a) (.tup vs)
  | rng {r : Addr} {a b : Int} {t u v : Tok} : IsRange h r a b 1 t u v → 0 ≤ a → a ≤ cap → -(cap : Int) ≤ b ∧ b ≤ cap → VRel F h (.ref r) (.rng a b)
  | scr {a : Addr} {l : List Int} : F.scr = some (a, l) → VRel F h (.ref a) (.scr l)
  | keys {a d : Addr} : h.get? a = some { cls := .type "dict_keys", data := .fields #[.ref d] } → VRel F h (.ref a) (.keys d)
  | ref (a : Addr) : VRel F h (.ref a) (.ref a)
  | fn {n : Str} {f : Addr} : F.fn n = some f → VRel F h (.ref f) (.fn n)
  | cls {n : Str} {f : Addr} : F.cls n = some f → VRel F h (.ref f) (.cls n)
  | blt (id : String) : VRel F h (.builtin id) (.blt id)
  | typ (n : String) : VRel F h (.type n) (.typ n)
inductive VRels (F : Tab) (h : Heap) : List Value → List Val → Prop
  | nil : VRels F h [] []
  | cons {v : Value} {a : Val} {vs : List Value} {as : List Val} : VRel F h v a → VRels F h vs as → VRels F h (v :: vs) (a :: as)
end

/-- the kinds of object that never change -/
def Frozen (o : Obj) : Prop := (o.cls = .type "tuple" ∨ o.cls = .type "range" ∨ o.cls = .type "dict_keys") ∧ (∀ es n, o.data ≠ .dict es n) ∧ ∀ v, o.data ≠ .cell v

mutual
theorem VRel.mono {F : Tab} {h h' : Heap} (hk : ∀ a o, h.get? a = some o → Frozen o → h'.get? a = some o) : ∀ {v : Value} {a : Val}, VRel F h v a → VRel F h' v a
  | _, _, .none => .none
  | _, _, .bool b => .bool b
  | _, _, .int i t => .int i t
  | _, _, .str x t => .str x t
  | _, _, .tup e c d r z => .tup (hk _ _ e ⟨.inl c, fun _ _ => by rw [d]; nofun, fun _ => by rw [d]; nofun⟩) c d (VRels.mono hk r) z
  | _, _, .rng e x y z => .rng (hk _ _ e ⟨.inr (.inl rfl), fun _ _ => nofun, fun _ => nofun⟩) x y z
  | _, _, .keys e => .keys (hk _ _ e ⟨.inr (.inr rfl), fun _ _ => nofun, fun _ => nofun⟩)
  | _, _, .scr e => .scr e
  | _, _, .ref a => .ref a
  | _, _, .fn e => .fn e
  | _, _, .cls e => .cls e
  | _, _, .blt id => .blt id
  | _, _, .typ n => .typ n
theorem VRels.mono {F : Tab} {h h' : Heap} (hk : ∀ a o, h.get? a = some o → Frozen o → h'.get? a = some o) : ∀ {vs : List Value} {as : List Val}, VRels F h vs as → VRels F h' vs as
  | _, _, .nil => .nil
  | _, _, .cons x r => .cons (VRel.mono hk x) (VRels.mono hk r)
end

theorem VRels.length {F : Tab} {h : Heap} : ∀ {vs : List Value} {as : List Val}, VRels F h vs as → vs.length = as.length
  | _, _, .nil => rfl
  | _, _, .cons _ r => by simp [VRels.length r]
theorem VRels.get {F : Tab} {h : Heap} : ∀ {vs : List Value} {as : List Val}, VRels F h vs as → ∀ {i : Nat} {a : Val}, as[i]? = some a → ∃ v, vs[i]? = some v ∧ VRel F h v a
  | _, _, .nil, i, a, e => by simp at e
  | _, _, .cons x r, 0, a, e => ⟨_, rfl, by simp at e; exact e ▸ x⟩
  | _, _, .cons x r, i + 1, a, e => by simpa using VRels.get r (i := i) (a := a) (by simpa using e)
theorem VRels.getL {F : Tab} {h : Heap} : ∀ {vs : List Value} {as : List Val}, VRels F h vs as → ∀ {i : Nat} {v : Value}, vs[i]? = some v → ∃ a, as[i]? = some a ∧ VRel F h v a
  | _, _, .nil, i, a, e => by simp at e
  | _, _, .cons x r, 0, a, e => ⟨_, rfl, by simp at e; exact e ▸ x⟩
  | _, _, .cons x r, i + 1, a, e => by simpa using VRels.getL r (i := i) (v := a) (by simpa using e)
theorem VRels.append {F : Tab} {h : Heap} : ∀ {vs ws : List Value} {as bs : List Val}, VRels F h vs as → VRels F h ws bs → VRels F h (vs ++ ws) (as ++ bs)
  | _, _, _, _, .nil, r => r
  | _, _, _, _, .cons x r, r' => .cons x (VRels.append r r')
theorem VRels.zero {F : Tab} {h : Heap} {vs : List Value} (r : VRels F h vs []) : vs = [] := by cases r; rfl
theorem VRels.uncons {F : Tab} {h : Heap} {vs : List Value} {a : Val} {as : List Val} (r : VRels F h vs (a :: as)) : ∃ v us, vs = v :: us ∧ VRel F h v a ∧ VRels F h us as := by cases r with | cons x r => exact ⟨_, _, rfl, x, r⟩
theorem VRels.one {F : Tab} {h : Heap} {vs : List Value} {a : Val} (r : VRels F h vs [a]) : ∃ v, vs = [v] ∧ VRel F h v a := by
  obtain ⟨v, us, rfl, x, r⟩ := r.uncons
  obtain rfl := r.zero
  exact ⟨v, rfl, x⟩
theorem VRels.two {F : Tab} {h : Heap} {vs : List Value} {a b : Val} (r : VRels F h vs [a, b]) : ∃ v u, vs = [v, u] ∧ VRel F h v a ∧ VRel F h u b := by
  obtain ⟨v, us, rfl, x, r⟩ := r.uncons
  obtain ⟨u, rfl, y⟩ := r.one
  exact ⟨v, u, rfl, x, y⟩
theorem VRel.toInt {F : Tab} {h : Heap} {v : Value} {i : Int} (r : VRel F h v (.int i)) : ∃ t, v = .int i t := by cases r; exact ⟨_, rfl⟩
theorem VRel.toRef {F : Tab} {h : Heap} {v : Value} {p : Addr} (r : VRel F h v (.ref p)) : v = .ref p := by cases r; rfl
theorem VRel.toTup {F : Tab} {h : Heap} {v : Value} {vs : List Val} (r : VRel F h v (.tup vs)) : ∃ a o items n, v = .ref a ∧ h.get? a = some o ∧ o.cls = .type "tuple" ∧ o.data = .seq items n ∧ VRels F h items.toList vs ∧ items.size ≤ cap := by
  cases r with | tup e c d r z => exact ⟨_, _, _, _, rfl, e, c, d, r, z⟩
theorem VRel.toScr {F : Tab} {h : Heap} {v : Value} {l : List Int} (r : VRel F h v (.scr l)) : ∃ a, v = .ref a ∧ F.scr = some (a, l) := by
  cases r with | scr e => exact ⟨_, rfl, e⟩
theorem VRels.ints {F : Tab} {h : Heap} : ∀ {ns : List Int} {vs : List Value}, VRels F h vs (ofInts ns) → IntsAre vs ns
  | [], _, r => by obtain rfl := r.zero; exact .nil
  | _ :: _, _, r => by
    obtain ⟨v, us, rfl, x, r'⟩ := VRels.uncons r
    obtain ⟨t, rfl⟩ := x.toInt
    exact .cons _ t (VRels.ints r')

/-- pairs of ints as keys -/
def PRel (F : Tab) (h : Heap) : List (List Int × Addr × Value) → List ((Int × Int) × Val) → Prop
  | [], [] => True
  | x :: xs, e :: es => x.1 = [e.1.1, e.1.2] ∧ VRel F h x.2.2 e.2 ∧ PRel F h xs es
  | _, _ => False
def IRel (F : Tab) (h : Heap) : List (Int × Value) → List (Int × Val) → Prop
  | [], [] => True
  | x :: xs, e :: es => x.1 = e.1 ∧ VRel F h x.2 e.2 ∧ IRel F h xs es
  | _, _ => False
/-- the attributes in an instance's dict -/
def SRel (P : Params) (F : Tab) (h : Heap) : List DictEntry → List (Str × Val) → Prop
  | [], [] => True
  | x :: xs, e :: es => (∃ t, x.key = .str e.1 t) ∧ VRel F h x.val e.2 ∧ SRel P F h xs es
  | _, _ => False

theorem PRel.mono {F : Tab} {h h' : Heap} (hk : ∀ a o, h.get? a = some o → Frozen o → h'.get? a = some o) : ∀ {xs es}, PRel F h xs es → PRel F h' xs es
  | [], [], _ => trivial
  | _ :: _, _ :: _, ⟨a, b, c⟩ => ⟨a, b.mono hk, PRel.mono hk c⟩
theorem IRel.mono {F : Tab} {h h' : Heap} (hk : ∀ a o, h.get? a = some o → Frozen o → h'.get? a = some o) : ∀ {xs es}, IRel F h xs es → IRel F h' xs es
  | [], [], _ => trivial
  | _ :: _, _ :: _, ⟨a, b, c⟩ => ⟨a, b.mono hk, IRel.mono hk c⟩
theorem SRel.mono {P : Params} {F : Tab} {h h' : Heap} (hk : ∀ a o, h.get? a = some o → Frozen o → h'.get? a = some o) : ∀ {xs es}, SRel P F h xs es → SRel P F h' xs es
  | [], [], _ => trivial
  | _ :: _, _ :: _, ⟨a, b, c⟩ => ⟨a, b.mono hk, SRel.mono hk c⟩

section
variable (prog : Program) (w : World) (F : Tab)

def ORel (h : Heap) (a : Addr) : AObj → Prop
  | .list vs => ∃ items n, h.get? a = some { cls := .type "list", data := .seq items n } ∧ VRels F h items.toList vs ∧ vs.length ≤ cap
  | .dictP es => ∃ xs : List (List Int × Addr × Value), h.DictOfH (tupleKind (intKind prog w)) a xs ∧ PRel F h xs es ∧ es.length ≤ cap
  | .dictR es => ∃ xs : List (List Int × Addr × Value), h.DictOfH (tupleKind (intKind prog w)) a xs ∧ PRel F h xs es ∧ es.length ≤ cap
  | .dictI es => ∃ kvs : List (Int × Value), h.DictOf (intKind prog w) a kvs ∧ IRel F h kvs es ∧ es.length ≤ cap
  | .inst c dx => ∃ C, F.cls c = some C ∧ h.get? a = some { cls := .ref C, dict := some dx, data := .plain }
  | .attrs fs => ∃ es n, h.get? a = some { cls := .type "dict", data := .dict es n } ∧ SRel w.params F h es.toList fs
  | .exc c => ∃ C o, F.cls c = some C ∧ h.get? a = some o ∧ o.cls = .ref C

theorem ORel.live {h : Heap} {a : Addr} : ∀ {o : AObj}, ORel prog w F h a o → ∃ ob, h.get? a = some ob ∧ ¬ Frozen ob := by
  intro o ho
  cases o with
  | list vs => obtain ⟨items, n, e, _⟩ := ho; exact ⟨_, e, by simp [Frozen]⟩
  | dictP es => obtain ⟨xs, ⟨o, es', ep, e, hx, _⟩, _⟩ := ho; exact ⟨_, e, by simp [Frozen, hx.1]⟩
  | dictR es => obtain ⟨xs, ⟨o, es', ep, e, hx, _⟩, _⟩ := ho; exact ⟨_, e, by simp [Frozen, hx.1]⟩
  | dictI es => obtain ⟨xs, ⟨o, es', ep, e, hx, _⟩, _⟩ := ho; exact ⟨_, e, by simp [Frozen, hx.1]⟩
  | inst c dx => obtain ⟨C, _, e⟩ := ho; exact ⟨_, e, by simp [Frozen]⟩
  | attrs fs => obtain ⟨es, n, e, _⟩ := ho; exact ⟨_, e, by simp [Frozen]⟩
  | exc c => obtain ⟨C, o, _, e, hc⟩ := ho; exact ⟨_, e, by simp [Frozen, hc]⟩

/-- an object stays what it is where it and all that is frozen stay -/
theorem ORel.mono {h h' : Heap} {a : Addr} (hk : ∀ a o, h.get? a = some o → Frozen o → h'.get? a = some o) (ha : h'.get? a = h.get? a) : ∀ {o : AObj}, ORel prog w F h a o → ORel prog w F h' a o := by
  intro o ho
  cases o with
  | list vs => obtain ⟨items, n, e, r, z⟩ := ho; exact ⟨items, n, ha.trans e, r.mono hk, z⟩
  | dictP es =>
    obtain ⟨xs, ⟨o, es', ep, e, hx, hd, ht, hi, hn⟩, r, z⟩ := ho
    refine ⟨xs, ⟨o, es', ep, ha.trans e, hx, hd, ht, fun x hm => ?_, hn⟩, r.mono hk, z⟩
    obtain ⟨ob, items, n, e1, e2, e3, e4⟩ := hi x hm
    exact ⟨ob, items, n, hk _ _ e1 ⟨.inl e2, fun _ _ => by rw [e3]; nofun, fun _ => by rw [e3]; nofun⟩, e2, e3, e4⟩
  | dictR es =>
    obtain ⟨xs, ⟨o, es', ep, e, hx, hd, ht, hi, hn⟩, r, z⟩ := ho
    refine ⟨xs, ⟨o, es', ep, ha.trans e, hx, hd, ht, fun x hm => ?_, hn⟩, r.mono hk, z⟩
    obtain ⟨ob, items, n, e1, e2, e3, e4⟩ := hi x hm
    exact ⟨ob, items, n, hk _ _ e1 ⟨.inl e2, fun _ _ => by rw [e3]; nofun, fun _ => by rw [e3]; nofun⟩, e2, e3, e4⟩
  | dictI es =>
    obtain ⟨xs, ⟨o, es', ep, e, r1⟩, r, z⟩ := ho
    exact ⟨xs, ⟨o, es', ep, ha.trans e, r1⟩, r.mono hk, z⟩
  | inst c dx => obtain ⟨C, hc, e⟩ := ho; exact ⟨C, hc, ha.trans e⟩
  | attrs fs => obtain ⟨es, n, e, r⟩ := ho; exact ⟨es, n, ha.trans e, r.mono hk⟩
  | exc c => obtain ⟨C, o, h1, e, hc⟩ := ho; exact ⟨C, o, h1, ha.trans e, hc⟩

/-- the store is what the heap bears; the base stands -/
structure Inv (B : Heap) (σ : Store) (h : Heap) : Prop where
  keep : ∀ a o, B.get? a = some o → h.get? a = some o
  obj : ∀ a o, σ a = some o → B.get? a = none ∧ ORel prog w F h a o
  scr : ∀ a l, F.scr = some (a, l) → ∃ items, B.IsList a items ∧ IntsAre items.toList l ∧ l.length ≤ cap

theorem Inv.fresh {B h : Heap} {σ : Store} (I : Inv prog w F B σ h) {a : Addr} {o : Obj} (e : h.get? a = some o) (hf : Frozen o) : σ a = none := by
  cases hs : σ a with
  | none => rfl
  | some ao =>
    obtain ⟨ob, e1, e2⟩ := ORel.live prog w F (I.obj a ao hs).2
    rw [e] at e1; cases e1; exact absurd hf e2
end

/-- from one state to a later one; P: what may turn -/
structure Go (P : Addr → Prop) (σ : Store) (s : Shared) (σ' : Store) (s' : Shared) : Prop where
  same : ∃ h' tk, s' = { s with heap := h', toks := tk }
  keep : ∀ a o, ¬ P a → s.heap.get? a = some o → σ a = none → s'.heap.get? a = some o
  live : ∀ a o, s.heap.get? a = some o → ∃ o', s'.heap.get? a = some o'
  grow : ∀ a, σ a = none → σ' a ≠ none → s.heap.get? a = none
  dom : ∀ a, σ a ≠ none → σ' a ≠ none
  ro : ∀ a es, σ a = some (.dictR es) → σ' a = some (.dictR es) ∧ s'.heap.get? a = s.heap.get? a

theorem Go.refl (P : Addr → Prop) (σ : Store) (s : Shared) : Go P σ s σ s := ⟨⟨_, _, rfl⟩, fun _ _ _ e _ => e, fun _ o e => ⟨o, e⟩, fun _ a b => absurd a b, fun _ a => a, fun _ _ e => ⟨e, rfl⟩⟩
theorem Go.trans {P : Addr → Prop} {σ σ₁ σ₂ : Store} {s s₁ s₂ : Shared} (g : Go P σ s σ₁ s₁) (g' : Go P σ₁ s₁ σ₂ s₂) : Go P σ s σ₂ s₂ := by
  obtain ⟨⟨h1, t1, rfl⟩, k1, l1, w1, d1, r1⟩ := g
  obtain ⟨⟨h2, t2, rfl⟩, k2, l2, w2, d2, r2⟩ := g'
  refine ⟨⟨h2, t2, rfl⟩, fun a o hL e hn => ?_, fun a o e => ?_, fun a hn hs => ?_, fun a hs => d2 a (d1 a hs), fun a es e => ⟨(r2 a es (r1 a es e).1).1, ((r2 a es (r1 a es e).1).2).trans (r1 a es e).2⟩⟩
  · refine k2 a o hL (k1 a o hL e hn) ?_
    cases hq : σ₁ a with
    | none => rfl
    | some x => have := w1 a hn (by simp [hq]); rw [e] at this; cases this
  · obtain ⟨o1, e1⟩ := l1 a o e
    exact l2 a o1 e1
  · cases hq : σ₁ a with
    | none =>
      have h3 := w2 a hq hs
      cases e : s.heap.get? a with
      | none => rfl
      | some o => obtain ⟨o', e'⟩ := l1 a o e; rw [h3] at e'; cases e'
    | some x => exact w1 a hn (by simp [hq])
theorem Go.tok {P : Addr → Prop} {σ : Store} {s : Shared} (t : Nat) : Go P σ s σ { s with toks := t } := ⟨⟨_, _, rfl⟩, fun _ _ _ e _ => e, fun _ o e => ⟨o, e⟩, fun _ a b => absurd a b, fun _ a => a, fun _ _ e => ⟨e, rfl⟩⟩
/-- more may turn: what was not there, or more -/
theorem Go.mono {P P' : Addr → Prop} {σ σ' : Store} {s s' : Shared} (g : Go P σ s σ' s') (hP : ∀ a o, s.heap.get? a = some o → P a → P' a) : Go P' σ s σ' s' :=
  ⟨g.same, fun a o hn e hs => g.keep a o (fun hp => hn (hP a o e hp)) e hs, g.live, g.grow, g.dom, g.ro⟩
theorem Go.off {P : Addr → Prop} {σ σ' : Store} {s s' : Shared} (g : Go P σ s σ' s') {a : Addr} {o : Obj} (e : s.heap.get? a = some o) (h : σ a = none) : σ' a = none := by
  cases hq : σ' a with
  | none => rfl
  | some x => have := g.grow a h (by simp [hq]); rw [e] at this; cases this
theorem ns_thaw {h : Heap} {L : Addr} {m : Str → Option Value} (hn : h.Ns L m) : ∀ o, h.get? L = some o → ¬ Frozen o := by
  intro o e hf
  obtain ⟨o', es, ep, e', hd, _⟩ := hn
  rw [e] at e'; cases e'
  exact hf.2.1 es ep hd
theorem Go.frozen {prog : Program} {w : World} {F : Tab} {P : Addr → Prop} {B : Heap} {σ σ' : Store} {s s' : Shared} (g : Go P σ s σ' s') (I : Inv prog w F B σ s.heap) (hL : ∀ a o, P a → s.heap.get? a = some o → ¬ Frozen o) :
    ∀ a o, s.heap.get? a = some o → Frozen o → s'.heap.get? a = some o := fun a o e hf => g.keep a o (fun hp => hL a o hp e hf) e (I.fresh prog w F e hf)

/-- what the frame's names hold -/
structure RhoRel (F : Tab) (env : Env) (ρ : Rho) (h : Heap) : Prop where
  loc : ∃ m, h.Ns env.locals m ∧ ∀ x a, env.kindOf x = some .local → ρ x = some a → ∃ v, m x = some v ∧ VRel F h v a
  cel : ∀ x a, (env.kindOf x = some .cell ∨ env.kindOf x = some .free) → ρ x = some a → ∃ c v, env.cells.lookup x = some c ∧ h.IsCell c (some v) ∧ VRel F h v a

/-- a frame in its heap -/
structure Fra (F : Tab) (env : Env) (ρ : Rho) (σ : Store) (h : Heap) : Prop where
  rho : RhoRel F env ρ h
  offL : σ env.locals = none
  offC : ∀ x c, env.cells.lookup x = some c → σ c = none ∧ c ≠ env.locals ∧ ∃ v, h.IsCell c v

section
variable (prog : Program) (w : World) (F : Tab) (B : Heap) (env : Env) (ρ : Rho)

structure St (σ : Store) (s : Shared) : Prop where
  inv : Inv prog w F B σ s.heap
  fra : Fra F env ρ σ s.heap
  offB : B.get? env.locals = none
  offC : ∀ x c, env.cells.lookup x = some c → B.get? c = none

abbrev GoE (σ : Store) (s : Shared) (σ' : Store) (s' : Shared) : Prop := Go (fun a => a = env.locals) σ s σ' s'

/-- what an expression's end says -/
def EvP (σ : Store) (s : Shared) (Q : VPost) (v : Value) (s' : Shared) : Prop :=
  ∃ a σ', VRel F s'.heap v a ∧ St prog w F B env ρ σ' s' ∧ GoE env σ s σ' s' ∧ Q a σ'
/-- what a test's end says -/
def TsP (σ : Store) (s : Shared) (Q : BPost) (b : Bool) (s' : Shared) : Prop :=
  ∃ σ', St prog w F B env ρ σ' s' ∧ GoE env σ s σ' s' ∧ Q b σ'
/-- what a step without an answer says -/
def UnP (σ : Store) (s : Shared) (Q : Store → Prop) (_ : Unit) (s' : Shared) : Prop :=
  ∃ σ', St prog w F B env ρ σ' s' ∧ GoE env σ s σ' s' ∧ Q σ'
end

section
variable {prog : Program} {w : World} {F : Tab} {B : Heap} {env : Env} {ρ : Rho} {σ σ₁ σ' : Store} {s s₁ s' : Shared}

theorem St.frozen (S : St prog w F B env ρ σ s) (g : GoE env σ s σ' s') : ∀ a o, s.heap.get? a = some o → Frozen o → s'.heap.get? a = some o :=
  g.frozen S.inv fun a o hp e => by subst hp; obtain ⟨⟨m, hn, _⟩, _⟩ := S.fra.rho; exact ns_thaw hn o e
theorem St.val (S : St prog w F B env ρ σ s) (g : GoE env σ s σ' s') {v : Value} {a : Val} (h : VRel F s.heap v a) : VRel F s'.heap v a := h.mono (S.frozen g)
theorem St.vals (S : St prog w F B env ρ σ s) (g : GoE env σ s σ' s') {v : List Value} {a : List Val} (h : VRels F s.heap v a) : VRels F s'.heap v a := h.mono (S.frozen g)
theorem St.tok (S : St prog w F B env ρ σ s) (t : Nat) : St prog w F B env ρ σ { s with toks := t } := ⟨S.inv, S.fra, S.offB, S.offC⟩
theorem EvP.back {Q : VPost} {v : Value} (g : GoE env σ s σ₁ s₁) (h : EvP prog w F B env ρ σ₁ s₁ Q v s') : EvP prog w F B env ρ σ s Q v s' := by
  obtain ⟨a, σ', h1, h2, h3, h4⟩ := h
  exact ⟨a, σ', h1, h2, g.trans h3, h4⟩
theorem TsP.back {Q : BPost} {v : Bool} (g : GoE env σ s σ₁ s₁) (h : TsP prog w F B env ρ σ₁ s₁ Q v s') : TsP prog w F B env ρ σ s Q v s' := by
  obtain ⟨σ', h2, h3, h4⟩ := h
  exact ⟨σ', h2, g.trans h3, h4⟩
theorem EvP.pure {Q : VPost} {v : Value} {a : Val} (S : St prog w F B env ρ σ s) (t : Nat) (hv : VRel F s.heap v a) (h : Q a σ) : EvP prog w F B env ρ σ s Q v { s with toks := t } :=
  ⟨a, σ, hv, S.tok t, Go.tok t, h⟩
theorem EvP.now {Q : VPost} {v : Value} {a : Val} (S : St prog w F B env ρ σ s) (hv : VRel F s.heap v a) (h : Q a σ) : EvP prog w F B env ρ σ s Q v s :=
  ⟨a, σ, hv, S, Go.refl _ _ _, h⟩
theorem TsP.now {Q : BPost} {b : Bool} (S : St prog w F B env ρ σ s) (h : Q b σ) : TsP prog w F B env ρ σ s Q b s :=
  ⟨σ, S, Go.refl _ _ _, h⟩
theorem TsP.pure {Q : BPost} {b : Bool} (S : St prog w F B env ρ σ s) (t : Nat) (h : Q b σ) : TsP prog w F B env ρ σ s Q b { s with toks := t } :=
  ⟨σ, S.tok t, Go.tok t, h⟩

/-- the heap has grown; the frame's names hold what they held; one object more may be known -/
theorem St.more {h' : Heap} {tk : Nat} (S : St prog w F B env ρ σ s) (hk : ∀ a o, a ≠ env.locals → s.heap.get? a = some o → h'.get? a = some o) (hn : ∀ m, s.heap.Ns env.locals m → h'.Ns env.locals m) :
    St prog w F B env ρ σ { s with heap := h', toks := tk } ∧ GoE env σ s σ { s with heap := h', toks := tk } := by
  obtain ⟨m, hm, hl⟩ := S.fra.rho.loc
  have hL : ∃ o, s.heap.get? env.locals = some o := let ⟨o, _, _, e, _⟩ := hm; ⟨o, e⟩
  have hL' : ∃ o, h'.get? env.locals = some o := let ⟨o, _, _, e, _⟩ := hn m hm; ⟨o, e⟩
  have g : GoE env σ s σ { s with heap := h', toks := tk } := by
    refine ⟨⟨_, _, rfl⟩, fun a o hp e _ => hk a o hp e, fun a o e => ?_, fun _ a b => absurd a b, fun _ a => a, fun a es e => ⟨e, ?_⟩⟩
    case refine_2 =>
      obtain ⟨ob, e1, _⟩ := ORel.live prog w F (S.inv.obj a _ e).2
      exact (hk a ob (by rintro rfl; rw [S.fra.offL] at e; cases e) e1).trans e1.symm
    by_cases ha : a = env.locals
    · subst ha; exact hL'
    · exact ⟨o, hk a o ha e⟩
  have fz := S.frozen g
  refine ⟨⟨⟨fun a o e => hk a o (by rintro rfl; rw [S.offB] at e; cases e) (S.inv.keep a o e), fun a o e => ⟨(S.inv.obj a o e).1, ?_⟩, S.inv.scr⟩, ⟨⟨⟨m, hn m hm, fun x a h1 h2 => ?_⟩, fun x a h1 h2 => ?_⟩, S.fra.offL, fun x c hc => ?_⟩, S.offB, S.offC⟩, g⟩
  · obtain ⟨ob, e1, _⟩ := ORel.live prog w F (S.inv.obj a o e).2
    have hne : a ≠ env.locals := by rintro rfl; rw [S.fra.offL] at e; cases e
    exact ORel.mono prog w F fz ((hk a ob hne e1).trans e1.symm) (S.inv.obj a o e).2
  · obtain ⟨v, h3, h4⟩ := hl x a h1 h2
    exact ⟨v, h3, h4.mono fz⟩
  · obtain ⟨c, v, h3, ⟨oc, h4, h5⟩, h6⟩ := S.fra.rho.cel x a h1 h2
    exact ⟨c, v, h3, ⟨oc, hk _ _ (S.fra.offC x c h3).2.1 h4, h5⟩, h6.mono fz⟩
  · obtain ⟨h1, h2, v, oc, h3, h4⟩ := S.fra.offC x c hc
    exact ⟨h1, h2, v, oc, hk _ _ h2 h3, h4⟩

theorem St.push (S : St prog w F B env ρ σ s) (o : Obj) (tk : Nat) : St prog w F B env ρ σ { s with heap := s.heap.push o, toks := tk } ∧ GoE env σ s σ { s with heap := s.heap.push o, toks := tk } :=
  S.more (fun a ob _ e => Heap.get?_push_of_some _ e) fun m hn => hn.push _

theorem St.freshOf (S : St prog w F B env ρ σ s) {c : Addr} (hc : s.heap.get? c = none) : σ c = none := by
  cases hs : σ c with
  | none => rfl
  | some ao => obtain ⟨ob, e1, _⟩ := ORel.live prog w F (S.inv.obj c ao hs).2; rw [hc] at e1; cases e1

/-- an object that is new, or that no name of the store bore, becomes known -/
theorem St.know (S : St prog w F B env ρ σ s) {c : Addr} {ao : AObj} (hB : B.get? c = none) (hL : c ≠ env.locals) (hC : ∀ x d, env.cells.lookup x = some d → d ≠ c) (ho : ORel prog w F s.heap c ao) :
    St prog w F B env ρ (σ.set c ao) s := by
  refine ⟨⟨S.inv.keep, fun a o e => ?_, S.inv.scr⟩, ⟨S.fra.rho, ?_, fun x d hd => ?_⟩, S.offB, S.offC⟩
  · unfold Store.set at e
    by_cases ha : a = c
    · subst ha; rw [if_pos rfl] at e; cases e; exact ⟨hB, ho⟩
    · rw [if_neg ha] at e; exact S.inv.obj a o e
  · unfold Store.set; rw [if_neg (Ne.symm hL)]; exact S.fra.offL
  · have h := S.fra.offC x d hd
    refine ⟨?_, h.2⟩
    unfold Store.set; rw [if_neg (hC x d hd)]; exact h.1

/-- a new object of the store -/
theorem St.alloc {h' : Heap} {tk : Nat} {c : Addr} {ao : AObj} (S : St prog w F B env ρ σ s) (hk : ∀ a o, a ≠ env.locals → s.heap.get? a = some o → h'.get? a = some o)
    (hn : ∀ m, s.heap.Ns env.locals m → h'.Ns env.locals m) (hc : s.heap.get? c = none) (ho : ORel prog w F h' c ao) :
    σ c = none ∧ St prog w F B env ρ (σ.set c ao) { s with heap := h', toks := tk } ∧ GoE env σ s (σ.set c ao) { s with heap := h', toks := tk } := by
  obtain ⟨S', g⟩ := S.more (tk := tk) hk hn
  have hs := S.freshOf hc
  refine ⟨hs, S'.know ?_ ?_ ?_ ho, ⟨g.same, g.keep, g.live, fun a h1 h2 => ?_, fun a h1 => ?_, fun a es e => ⟨?_, (g.ro a es e).2⟩⟩⟩
  case refine_6 => unfold Store.set; rw [if_neg (by rintro rfl; rw [hs] at e; cases e)]; exact e
  · cases e : B.get? c with
    | none => rfl
    | some o => have := S.inv.keep c o e; rw [hc] at this; cases this
  · rintro rfl
    obtain ⟨m, hm, _⟩ := S.fra.rho.loc
    obtain ⟨o, _, _, e, _⟩ := hm
    rw [hc] at e; cases e
  · rintro x d hd rfl
    obtain ⟨_, _, v, o, e, _⟩ := S.fra.offC x d hd
    rw [hc] at e; cases e
  · unfold Store.set at h2
    by_cases ha : a = c
    · subst ha; exact hc
    · rw [if_neg ha] at h2; exact absurd h1 h2
  · unfold Store.set
    by_cases ha : a = c
    · rw [if_pos ha]; simp
    · rw [if_neg ha]; exact h1

theorem EvP.alloc {Q : VPost} {o : Obj} {ao : AObj} {tk : Nat} (S : St prog w F B env ρ σ s) (ho : ORel prog w F (s.heap.push o) s.heap.objs.size ao) (h : ∀ c, σ c = none → Q (.ref c) (σ.set c ao)) :
    EvP prog w F B env ρ σ s Q (.ref s.heap.objs.size) { s with heap := s.heap.push o, toks := tk } := by
  have hc : s.heap.get? s.heap.objs.size = none := by
    cases e : s.heap.get? s.heap.objs.size with
    | none => rfl
    | some o => exact absurd (Heap.lt_size e) (Nat.lt_irrefl _)
  obtain ⟨h1, h2, h3⟩ := S.alloc (tk := tk) (h' := s.heap.push o) (fun a ob _ e => Heap.get?_push_of_some _ e) (fun m hn => hn.push _) hc ho
  exact ⟨_, _, .ref _, h2, h3, h _ h1⟩

/-- an object of the store turns -/
theorem St.turn {h' : Heap} {tk : Nat} {c : Addr} {ao₀ ao : AObj} (S : St prog w F B env ρ σ s) (hc : σ c = some ao₀) (hro : ∀ es, ao₀ ≠ .dictR es) (hk : ∀ a o, a ≠ c → s.heap.get? a = some o → h'.get? a = some o) (ho : ORel prog w F h' c ao) :
    St prog w F B env ρ (σ.set c ao) { s with heap := h', toks := tk } ∧ GoE env σ s (σ.set c ao) { s with heap := h', toks := tk } := by
  obtain ⟨hB, hO⟩ := S.inv.obj c ao₀ hc
  obtain ⟨ob, e1, e2⟩ := ORel.live prog w F hO
  obtain ⟨ob', e1', _⟩ := ORel.live prog w F ho
  have fz : ∀ a o, s.heap.get? a = some o → Frozen o → h'.get? a = some o := fun a o e hf => hk a o (by rintro rfl; rw [e1] at e; cases e; exact e2 hf) e
  have hLc : env.locals ≠ c := by intro q; have := S.fra.offL; rw [q, hc] at this; cases this
  have hdc : ∀ x d, env.cells.lookup x = some d → d ≠ c := by intro x d hd q; have := (S.fra.offC x d hd).1; rw [q, hc] at this; cases this
  obtain ⟨m, hm, hl⟩ := S.fra.rho.loc
  refine ⟨⟨⟨fun a o e => hk a o (by rintro rfl; rw [hB] at e; cases e) (S.inv.keep a o e), fun a o e => ?_, S.inv.scr⟩, ⟨⟨⟨m, hm.at' fun o e => hk _ o hLc e, fun x a h1 h2 => ?_⟩, fun x a h1 h2 => ?_⟩, ?_, fun x d hd => ?_⟩, S.offB, S.offC⟩,
    ⟨⟨_, _, rfl⟩, fun a o hp e hn => hk a o (by rintro rfl; rw [hc] at hn; cases hn) e, fun a o e => ?_, fun a h1 h2 => ?_, fun a h1 => ?_, fun a es e => ?_⟩⟩
  case refine_9 =>
    have hne : a ≠ c := by rintro rfl; rw [hc] at e; cases e; exact hro _ rfl
    obtain ⟨oa, e3, _⟩ := ORel.live prog w F (S.inv.obj a _ e).2
    exact ⟨by unfold Store.set; rw [if_neg hne]; exact e, (hk a oa hne e3).trans e3.symm⟩
  · unfold Store.set at e
    by_cases ha : a = c
    · subst ha; rw [if_pos rfl] at e; cases e; exact ⟨hB, ho⟩
    · rw [if_neg ha] at e
      obtain ⟨oa, e3, _⟩ := ORel.live prog w F (S.inv.obj a o e).2
      exact ⟨(S.inv.obj a o e).1, ORel.mono prog w F fz ((hk a oa ha e3).trans e3.symm) (S.inv.obj a o e).2⟩
  · obtain ⟨v, h3, h4⟩ := hl x a h1 h2
    exact ⟨v, h3, h4.mono fz⟩
  · obtain ⟨d, v, h3, ⟨oc, h4, h5⟩, h6⟩ := S.fra.rho.cel x a h1 h2
    exact ⟨d, v, h3, ⟨oc, hk _ _ (hdc x d h3) h4, h5⟩, h6.mono fz⟩
  · unfold Store.set; rw [if_neg hLc]; exact S.fra.offL
  · obtain ⟨h1, h2, v, oc, h3, h4⟩ := S.fra.offC x d hd
    refine ⟨?_, h2, v, oc, hk _ _ (hdc x d hd) h3, h4⟩
    unfold Store.set; rw [if_neg (hdc x d hd)]; exact h1
  · by_cases ha : a = c
    · subst ha; exact ⟨ob', e1'⟩
    · exact ⟨o, hk a o ha e⟩
  · unfold Store.set at h2
    by_cases ha : a = c
    · subst ha; rw [hc] at h1; cases h1
    · rw [if_neg ha] at h2; exact absurd h1 h2
  · unfold Store.set
    by_cases ha : a = c
    · rw [if_pos ha]; simp
    · rw [if_neg ha]; exact h1

/-- all that lies in a heap but at L -/
def allBut (L : Addr) (h : Heap) : List (Addr × Obj) := (List.range h.objs.size).filterMap fun a => if a = L then none else (h.get? a).map (a, ·)
theorem mem_allBut {L : Addr} {h : Heap} {a : Addr} {o : Obj} (hn : a ≠ L) (e : h.get? a = some o) : (a, o) ∈ allBut L h := by
  unfold allBut
  refine List.mem_filterMap.mpr ⟨a, List.mem_range.mpr (Heap.lt_size e), ?_⟩
  rw [if_neg hn, e]; rfl
theorem of_allBut {L : Addr} {h : Heap} {p : Addr × Obj} (hp : p ∈ allBut L h) : p.1 ≠ L ∧ h.get? p.1 = some p.2 := by
  unfold allBut at hp
  obtain ⟨a, _, e⟩ := List.mem_filterMap.mp hp
  split at e
  · cases e
  · rename_i hne
    obtain ⟨o, h1, h2⟩ := Option.map_eq_some_iff.mp e
    subst h2; exact ⟨hne, h1⟩
def noHeap : Heap := {}
theorem noHeap_get (a : Addr) : noHeap.get? a = none := by simp [noHeap, Heap.get?]
theorem fr_all {L : Addr} {h : Heap} {m : Str → Option Value} (hn : h.Ns L m) : Fr noHeap L h m := ⟨hn, fun b o e => (by rw [noHeap_get] at e; cases e), Nat.zero_le _⟩
theorem news_all {L : Addr} {h : Heap} : News noHeap L h (allBut L h) := fun p hp => ⟨(of_allBut hp).2, (of_allBut hp).1, noHeap_get _⟩

/-- a new object by a rule over ledgers -/
theorem EvP.news {Q : VPost} {o : Obj} {ao : AObj} {h' : Heap} {m : Str → Option Value} {tk : Nat} (S : St prog w F B env ρ σ s) (hm : s.heap.Ns env.locals m) (F' : Fr noHeap env.locals h' m)
    (N' : News noHeap env.locals h' ((s.heap.objs.size, o) :: allBut env.locals s.heap)) (ho : ORel prog w F h' s.heap.objs.size ao) (h : ∀ c, σ c = none → Q (.ref c) (σ.set c ao)) :
    EvP prog w F B env ρ σ s Q (.ref s.heap.objs.size) { s with heap := h', toks := tk } := by
  have hc : s.heap.get? s.heap.objs.size = none := by
    cases e : s.heap.get? s.heap.objs.size with
    | none => rfl
    | some o => exact absurd (Heap.lt_size e) (Nat.lt_irrefl _)
  have hu : ∀ m', s.heap.Ns env.locals m' → m' = m := by
    rintro m' ⟨o1, es1, ep1, e1, d1, k1, f1⟩
    obtain ⟨o2, es2, ep2, e2, d2, k2, f2⟩ := hm
    rw [e1] at e2; cases e2; rw [d1] at d2; cases d2
    funext x; rw [← f1, ← f2]
  obtain ⟨h1, h2, h3⟩ := S.alloc (tk := tk) (h' := h') (fun a ob hne e => (N' (a, ob) (.tail _ (mem_allBut hne e))).1) (fun m' hn => by rw [hu m' hn]; exact F'.ns) hc ho
  exact ⟨_, _, .ref _, h2, h3, h _ h1⟩
end

end Mine

set_option linter.unusedVariables false
namespace Mine
open PySem PyProof.Rows

section
variable {prog : Program} {w : World} {F : Tab} {B : Heap} {env : Env} {ρ : Rho} {σ σ₁ σ' : Store} {s s₁ s' : Shared} {A : Around} {E : Value → Shared → Prop}

theorem short_bits {x : Int} (h : short x) : Builtin.Int.intBits x ≤ 64 := intBits_le_64 (by unfold short at h; lia) (by unfold short at h; lia)
theorem short_pylong {x y : Int} (h : short y) : Builtin.divisionGoesByPylong x y = false := by
  refine PyProof.noPylong_of_log2 ?_
  rcases Nat.eq_zero_or_pos y.natAbs with h0 | hp
  · rw [h0]; decide
  · have : y.natAbs.log2 < 64 := (Nat.log2_lt (Nat.ne_of_gt hp)).mpr h
    lia

theorem St.ns (S : St prog w F B env ρ σ s) : ∃ m, s.heap.Ns env.locals m := let ⟨m, hm, _⟩ := S.fra.rho.loc; ⟨m, hm⟩
theorem cap_line : cap ≤ sizeLine := by rw [sizeLine_eq]; decide

theorem St.listAt (S : St prog w F B env ρ σ s) {p : Addr} {xs : List Val} (h : σ p = some (.list xs)) : ∃ items n, s.heap.get? p = some { cls := .type "list", data := .seq items n } ∧ VRels F s.heap items.toList xs ∧ xs.length ≤ cap := (S.inv.obj p _ h).2

theorem binop_sound {op : Operator} {a b : Val} {va vb : Value} {Q : VPost} (S : St prog w F B env ρ σ s) (ha : VRel F s.heap va a) (hb : VRel F s.heap vb b) (h : binop op a b σ Q) :
    wpAny (model prog w) A (binaryOp op va vb) (EvP prog w F B env ρ σ s Q) E s := by
  have add : intOp (fun x y => Q (.int (x + y)) σ) a b → wpAny (model prog w) A (binaryOp .Add va vb) (EvP prog w F B env ρ σ s Q) E s := by
    intro h
    obtain ⟨x, y, rfl, rfl, h⟩ := intOp_is h
    obtain ⟨t, rfl⟩ := ha.toInt
    obtain ⟨u, rfl⟩ := hb.toInt
    exact P.add_int (EvP.pure S _ (.int _ _) h)
  cases op with
  | Add =>
    cases a with
    | ref p =>
      cases b with
      | ref q =>
        obtain ⟨xs, ys, hp, hq, h⟩ := listsAt_is h
        obtain rfl := ha.toRef
        obtain rfl := hb.toRef
        obtain ⟨i1, n1, e1, r1, z1⟩ := S.listAt hp
        obtain ⟨i2, n2, e2, r2, z2⟩ := S.listAt hq
        obtain ⟨m, hm⟩ := S.ns
        have hl1 := r1.length
        have hl2 := r2.length
        have hc := cap_line
        refine add_arrays (fr_all hm) news_all ⟨_, e1, rfl, n1, rfl⟩ ⟨_, e2, rfl, n2, rfl⟩ (fun h' F' N' => EvP.news S hm F' N' ?_ h.2) (by simp only [Array.length_toList] at hl1 hl2; lia)
        have hk : ∀ a o, s.heap.get? a = some o → Frozen o → h'.get? a = some o := fun a o e hf => (N' (a, o) (.tail _ (mem_allBut (by rintro rfl; exact ns_thaw hm o e hf) e))).1
        exact ⟨_, _, (N' _ (.head _)).1, by simpa using (r1.mono hk).append (r2.mono hk), by simpa using h.1⟩
      | _ => exact False.elim h
    | _ => exact add h
  | Sub =>
    obtain ⟨x, y, rfl, rfl, h⟩ := intOp_is h
    obtain ⟨t, rfl⟩ := ha.toInt
    obtain ⟨u, rfl⟩ := hb.toInt
    exact P.sub_int (EvP.pure S _ (.int _ _) h)
  | Mult =>
    obtain ⟨x, y, rfl, rfl, h⟩ := intOp_is h
    obtain ⟨t, rfl⟩ := ha.toInt
    obtain ⟨u, rfl⟩ := hb.toInt
    refine P.mul_int (EvP.pure S _ (.int _ _) h.2) ?_
    rcases h.1 with h1 | h1
    · exact IntMulOk.of_left (short_bits h1)
    · exact IntMulOk.of_right (short_bits h1)
  | FloorDiv =>
    obtain ⟨x, y, rfl, rfl, h⟩ := intOp_is h
    obtain ⟨t, rfl⟩ := ha.toInt
    obtain ⟨u, rfl⟩ := hb.toInt
    refine floordiv_int (by lia) (EvP.pure S _ ?_ h.2) (.inl (short_pylong h.1.2))
    rw [Int.fdiv_eq_ediv_of_nonneg _ (Int.le_of_lt h.1.1)]; exact .int _ _
  | Mod =>
    obtain ⟨x, y, rfl, rfl, h⟩ := intOp_is h
    obtain ⟨t, rfl⟩ := ha.toInt
    obtain ⟨u, rfl⟩ := hb.toInt
    refine mod_int' (by lia) (EvP.pure S _ ?_ h.2)
    rw [Int.fmod_eq_emod_of_nonneg _ (Int.le_of_lt h.1)]; exact .int _ _
  | Pow =>
    obtain ⟨x, y, rfl, rfl, ⟨rfl, h0, h1⟩, h2⟩ := intOp_is h
    obtain ⟨t, rfl⟩ := ha.toInt
    obtain ⟨u, rfl⟩ := hb.toInt
    exact pow_int_small h0 (by lia) (by decide) (EvP.pure S _ (.int _ _) h2)
  | _ => exact False.elim h

theorem any_congr2 {α : Type} {f g : α → Bool} : ∀ {l : List α}, (∀ x ∈ l, f x = g x) → l.any f = l.any g
  | [], _ => rfl
  | x :: l, h => by rw [List.any_cons, List.any_cons, h x (.head _), any_congr2 fun y hy => h y (.tail _ hy)]

def toPy : Nat → Val → PyData
  | _, .none => .none
  | _, .bool b => .bool b
  | _, .int i => .int i
  | n + 1, .tup xs => .tuple (xs.map (toPy n))
  | _, _ => .none

theorem readsAll_of {h : Heap} {n : Nat} (ih : ∀ {v : Value} {a : Val}, VRel F h v a → flat n a = true → ∃ as, Reads h v (toPy n a) as) :
    ∀ {vs : List Value} {as : List Val}, VRels F h vs as → as.all (flat n) = true → ∃ bs, ReadsAll h vs (as.map (toPy n)) bs
  | _, _, .nil, _ => ⟨_, .nil⟩
  | _, _, .cons x r, hf => by
    simp only [List.all_cons, Bool.and_eq_true] at hf
    obtain ⟨as, h1⟩ := ih x hf.1
    obtain ⟨bs, h2⟩ := readsAll_of ih r hf.2
    exact ⟨_, .cons h1 h2⟩
theorem reads_of {h : Heap} : ∀ (n : Nat) {v : Value} {a : Val}, VRel F h v a → flat n a = true → ∃ as, Reads h v (toPy n a) as := by
  intro n
  induction n with
  | zero => intro v a hv hf; cases hv <;> simp [flat] at hf <;> exact ⟨_, by first | exact .none | exact .bool _ | exact .int _ _⟩
  | succ n ih =>
    intro v a hv hf
    cases hv with
    | tup e c d r z =>
      obtain ⟨bs, h1⟩ := readsAll_of ih r (by simpa [flat] using hf)
      exact ⟨_, .tuple e c d (by simpa using h1)⟩
    | none => exact ⟨_, .none⟩
    | bool b => exact ⟨_, .bool _⟩
    | int i t => exact ⟨_, .int _ _⟩
    | _ => simp [flat] at hf
theorem lay_all {n : Nat} (ih : ∀ a, flat n a = true → (toPy n a).canLay0 = true ∧ (toPy n a).depth ≤ n) : ∀ xs : List Val, xs.all (flat n) = true → PyData.canLayAll0 (xs.map (toPy n)) = true ∧ PyData.depthAll (xs.map (toPy n)) ≤ n
  | [], _ => by simp [PyData.canLayAll0, PyData.depthAll]
  | x :: xs, hf => by
    simp only [List.all_cons, Bool.and_eq_true] at hf
    have h1 := ih x hf.1
    have h2 := lay_all ih xs hf.2
    simp only [List.map_cons, PyData.canLayAll0, PyData.depthAll, h1.1, h2.1, Bool.and_self, true_and]
    lia
theorem lay_of : ∀ (n : Nat) (a : Val), flat n a = true → (toPy n a).canLay0 = true ∧ (toPy n a).depth ≤ n := by
  intro n
  induction n with
  | zero => intro a hf; cases a <;> simp [flat] at hf <;> simp [toPy, PyData.canLay0, PyData.depth]
  | succ n ih =>
    intro a hf
    cases a with
    | tup xs =>
      have := lay_all ih xs (by simpa [flat] using hf)
      simp only [toPy, PyData.canLay0, PyData.depth, this.1, true_and]
      lia
    | _ => simp [flat] at hf <;> simp [toPy, PyData.canLay0, PyData.depth]
theorem eqv_all {n : Nat} (ih : ∀ a b, flat n a = true → flat n b = true → PyData.eqv (toPy n a) (toPy n b) = veq n a b) :
    ∀ xs ys : List Val, xs.all (flat n) = true → ys.all (flat n) = true → PyData.eqvAll (xs.map (toPy n)) (ys.map (toPy n)) = eqList (veq n) xs ys
  | [], [], _, _ => by simp [PyData.eqvAll, eqList]
  | [], _ :: _, _, _ => by simp [PyData.eqvAll, eqList]
  | _ :: _, [], _, _ => by simp [PyData.eqvAll, eqList]
  | x :: xs, y :: ys, h1, h2 => by
    simp only [List.all_cons, Bool.and_eq_true] at h1 h2
    simp only [List.map_cons, PyData.eqvAll, eqList, ih x y h1.1 h2.1, eqv_all ih xs ys h1.2 h2.2]
theorem eqv_of : ∀ (n : Nat) (a b : Val), flat n a = true → flat n b = true → PyData.eqv (toPy n a) (toPy n b) = veq n a b := by
  intro n
  induction n with
  | zero => intro a b h1 h2; cases a <;> simp [flat] at h1 <;> cases b <;> simp [flat] at h2 <;> simp [toPy, PyData.eqv, veq]
  | succ n ih =>
    intro a b h1 h2
    cases a with
    | tup xs =>
      cases b with
      | tup ys => simp only [toPy, PyData.eqv, veq]; exact eqv_all ih xs ys (by simpa [flat] using h1) (by simpa [flat] using h2)
      | _ => simp [flat] at h2 <;> simp [toPy, PyData.eqv, veq]
    | _ => simp [flat] at h1 <;> (cases b <;> simp [flat] at h2 <;> simp [toPy, PyData.eqv, veq])

theorem shaped_of {d : PyData} {n : Nat} (h1 : d.canLay0 = true) (h2 : d.depth ≤ n) (hn : n ≤ 64) : SeqAt.shaped d = true := by
  unfold SeqAt.shaped; rw [h1, Bool.true_and]; exact decide_eq_true (Nat.le_trans h2 hn)

/-- == and != -/
theorem deq_sound {a b : Val} {va vb : Value} {r : Bool} (S : St prog w F B env ρ σ s) (ha : VRel F s.heap va a) (hb : VRel F s.heap vb b) (h : deq σ a b = some r) (hu : A.units + 70 < cLine) :
    (∀ Q, Q (.bool r) s → wpAny (model prog w) A (compareOp .Eq va vb) Q E s) ∧ (∀ Q, Q (.bool !r) s → wpAny (model prog w) A (compareOp .NotEq va vb) Q E s) := by
  have key : ∃ da db as bs, Reads s.heap va da as ∧ Reads s.heap vb db bs ∧ SeqAt.shaped da = true ∧ SeqAt.shaped db = true ∧ PyData.eqv da db = r := by
    unfold deq at h
    split at h
    · rename_i p q
      split at h
      · rename_i xs ys hp hq
        split at h
        · rename_i hf
          cases h
          simp only [Bool.and_eq_true] at hf
          cases ha; cases hb
          obtain ⟨i1, n1, e1, r1, z1⟩ := S.listAt hp
          obtain ⟨i2, n2, e2, r2, z2⟩ := S.listAt hq
          obtain ⟨b1, q1⟩ := readsAll_of (reads_of 3) r1 hf.1
          obtain ⟨b2, q2⟩ := readsAll_of (reads_of 3) r2 hf.2
          have l1 := lay_all (lay_of 3) xs hf.1
          have l2 := lay_all (lay_of 3) ys hf.2
          refine ⟨.list (xs.map (toPy 3)), .list (ys.map (toPy 3)), _, _, .list e1 rfl rfl q1, .list e2 rfl rfl q2, shaped_of (n := 4) ?_ ?_ (by lia), shaped_of (n := 4) ?_ ?_ (by lia), ?_⟩
          · simpa [PyData.canLay0] using l1.1
          · simp only [PyData.depth]; lia
          · simpa [PyData.canLay0] using l2.1
          · simp only [PyData.depth]; lia
          · simp only [PyData.eqv]; exact eqv_all (eqv_of 3) xs ys hf.1 hf.2
        · cases h
      · cases h
    · split at h
      · rename_i hf
        cases h
        simp only [Bool.and_eq_true] at hf
        obtain ⟨as, q1⟩ := reads_of 4 ha hf.1
        obtain ⟨bs, q2⟩ := reads_of 4 hb hf.2
        have l1 := lay_of 4 a hf.1
        have l2 := lay_of 4 b hf.2
        exact ⟨_, _, as, bs, q1, q2, shaped_of l1.1 l1.2 (by lia), shaped_of l2.1 l2.2 (by lia), eqv_of 4 a b hf.1 hf.2⟩
      · cases h
  obtain ⟨da, db, as, bs, h1, h2, h3, h4, h5⟩ := key
  exact ⟨fun Q hq => eq_dataH h1 h2 h3 h4 (by lia) (by rw [h5]; exact hq), fun Q hq => ne_dataH h1 h2 h3 h4 (by lia) (by rw [h5]; exact hq)⟩

theorem PRel.at {h : Heap} {k : Int × Int} : ∀ {xs : List (List Int × Addr × Value)} {es : List ((Int × Int) × Val)}, PRel F h xs es →
    (∀ v, lookP k es = some v → ∃ p, atKey xs [k.1, k.2] = some p ∧ VRel F h p.2 v) ∧ (lookP k es = none → atKey xs [k.1, k.2] = none)
  | [], [], _ => ⟨fun v e => by simp [lookP] at e, fun _ => rfl⟩
  | x :: xs, e :: es, ⟨h1, h2, h3⟩ => by
    have ih := PRel.at (k := k) h3
    obtain ⟨⟨e1, e2⟩, ev⟩ := e
    obtain ⟨k1, k2⟩ := k
    by_cases hk : (e1, e2) = (k1, k2)
    · cases hk
      simp only at h1
      refine ⟨fun v hv => ?_, fun hv => ?_⟩
      · simp only [lookP, if_true, Option.some.injEq] at hv
        subst hv
        exact ⟨x.2, by simp [atKey, h1], h2⟩
      · simp [lookP] at hv
    · have hne : ¬ x.1 = [k1, k2] := by
        rw [h1]; intro q; simp only [List.cons.injEq, and_true] at q; exact hk (by rw [q.1, q.2])
      simp only [lookP, if_neg hk]
      simpa [atKey, hne] using ih
theorem PRel.length {h : Heap} : ∀ {xs : List (List Int × Addr × Value)} {es : List ((Int × Int) × Val)}, PRel F h xs es → xs.length = es.length
  | [], [], _ => rfl
  | _ :: _, _ :: _, ⟨_, _, r⟩ => by simp [PRel.length r]
theorem PRel.snoc {h : Heap} {x : List Int × Addr × Value} {e : (Int × Int) × Val} (h1 : x.1 = [e.1.1, e.1.2]) (h2 : VRel F h x.2.2 e.2) : ∀ {xs : List (List Int × Addr × Value)} {es : List ((Int × Int) × Val)}, PRel F h xs es → PRel F h (xs ++ [x]) (es ++ [e])
  | [], [], _ => ⟨h1, h2, trivial⟩
  | _ :: _, _ :: _, ⟨a, b, r⟩ => ⟨a, b, PRel.snoc h1 h2 r⟩
theorem putP_none {k : Int × Int} {v : Val} : ∀ {es : List ((Int × Int) × Val)}, lookP k es = none → putP k v es = es ++ [(k, v)]
  | [], _ => rfl
  | (j, u) :: r, h => by
    unfold lookP at h
    split at h
    · cases h
    · rename_i hne; rw [putP, if_neg hne, putP_none h]; rfl
theorem PRel.put {h : Heap} {k : Int × Int} {v : Value} {a : Val} (hv : VRel F h v a) : ∀ {xs : List (List Int × Addr × Value)} {es : List ((Int × Int) × Val)}, PRel F h xs es → (xs.map (·.1)).Nodup →
    (lookP k es).isSome = true → PRel F h (xs.map (putAt [k.1, k.2] v)) (putP k a es)
  | [], [], _, _, e => by simp [lookP] at e
  | x :: xs, e :: es, ⟨h1, h2, h3⟩, hn, hs => by
    obtain ⟨⟨e1, e2⟩, ev⟩ := e
    obtain ⟨k1, k2⟩ := k
    rw [List.map_cons, List.nodup_cons] at hn
    by_cases hk : (e1, e2) = (k1, k2)
    · cases hk
      simp only at h1
      have hnm : [e1, e2] ∉ xs.map (·.1) := h1 ▸ hn.1
      rw [List.map_cons, map_putAt_of_not_mem xs _ _ hnm, putP, if_pos rfl]
      refine ⟨?_, ?_, h3⟩
      · simp [putAt, h1]
      · simp [putAt, h1]; exact hv
    · have hne : ¬ x.1 = [k1, k2] := by
        rw [h1]; intro q; simp only [List.cons.injEq, and_true] at q; exact hk (by rw [q.1, q.2])
      rw [List.map_cons, putP, if_neg hk]
      refine ⟨?_, ?_, PRel.put hv h3 hn.2 (by simpa [lookP, hk] using hs)⟩
      · simp only [putAt, if_neg hne]; exact h1
      · simp only [putAt, if_neg hne]; exact h2
theorem PRel.stored {h : Heap} {k : Int × Int} {v : Value} {a : Val} {c : Addr} (hv : VRel F h v a) {xs : List (List Int × Addr × Value)} {es : List ((Int × Int) × Val)} (r : PRel F h xs es) (hn : (xs.map (·.1)).Nodup) :
    PRel F h (storedH xs [k.1, k.2] c v) (putP k a es) := by
  have q := r.at (k := k)
  cases hl : lookP k es with
  | none =>
    rw [storedH_new (q.2 hl), putP_none hl]
    exact PRel.snoc rfl hv r
  | some u =>
    obtain ⟨p, hp, _⟩ := q.1 u hl
    rw [storedH_old hp]
    exact PRel.put hv r hn (by rw [hl]; rfl)

/-- a pair is a key -/
theorem pair_key {h : Heap} {v : Value} {k : Int × Int} (hv : VRel F h v (.tup [.int k.1, .int k.2])) : ∃ a, v = .ref a ∧ IsTupleKey (intKind prog w) h [k.1, k.2] a := by
  cases hv with
  | tup e c d r z =>
    rename_i a o items n
    refine ⟨a, rfl, _, items, n, e, c, d, ?_⟩
    generalize items.toList = l at r
    obtain ⟨x, y, rfl, h1, h2⟩ := r.two
    · obtain ⟨_, rfl⟩ := h1.toInt
      obtain ⟨_, rfl⟩ := h2.toInt
      exact .cons (intKind_is prog w _ _) (.cons (intKind_is prog w _ _) .nil)
theorem pairOf_eq {v : Val} {k : Int × Int} (h : pairOf v = some k) : v = .tup [.int k.1, .int k.2] := by
  unfold pairOf at h
  split at h
  · cases h; rfl
  · cases h

theorem sys_off (S : St prog w F B env ρ σ s) (hB : ∃ o, B.get? sysModules = some o) {d : Addr} {o : AObj} (h : σ d = some o) : (d == sysModules) = false := by
  rw [beq_eq_false_iff_ne]
  rintro rfl
  obtain ⟨ob, e⟩ := hB
  have := (S.inv.obj _ _ h).1
  rw [e] at this; cases this

theorem memV_sound {a b : Val} {va vb : Value} {r : Bool} (S : St prog w F B env ρ σ s) (hB : ∃ o, B.get? sysModules = some o) (ha : VRel F s.heap va a) (hb : VRel F s.heap vb b) (h : memV σ a b = some r) (hu : A.units + 70 < cLine) :
    (∀ Q : Value → Shared → Prop, (∀ t, Q (.bool r) { s with toks := t }) → wpAny (model prog w) A (compareOp .In va vb) Q E s) ∧
    (∀ Q : Value → Shared → Prop, (∀ t, Q (.bool !r) { s with toks := t }) → wpAny (model prog w) A (compareOp .NotIn va vb) Q E s) := by
  unfold memV at h
  split at h
  · rename_i d
    cases hb
    split at h
    · rename_i es hd
      obtain ⟨xs, hD, hR, hz⟩ := (S.inv.obj d _ hd).2
      obtain ⟨k, hk, rfl⟩ := Option.map_eq_some_iff.mp h
      rw [pairOf_eq hk] at ha
      obtain ⟨t, rfl, hkey⟩ := pair_key (prog := prog) (w := w) ha
      have off := sys_off S hB hd
      have q := hR.at (k := k)
      have e : (atKey xs [k.1, k.2]).isSome = (lookP k es).isSome := by
        cases hl : lookP k es with
        | none => rw [q.2 hl]; rfl
        | some u => obtain ⟨p, hp, _⟩ := q.1 u hl; rw [hp]; rfl
      refine ⟨fun Q hq => ?_, fun Q hq => ?_⟩
      · exact wpAny_in_heap (knd := tupleKind (intKind prog w)) (tupleKind_room_in1 (by lia)) hkey off hD (by rw [e]; exact hq _)
      · exact wpAny_notIn_heap (knd := tupleKind (intKind prog w)) (tupleKind_room_in1 (by lia)) hkey off hD (by rw [e]; exact hq _)
    · rename_i es hd
      obtain ⟨xs, hD, hR, hz⟩ := (S.inv.obj d _ hd).2
      obtain ⟨k, hk, rfl⟩ := Option.map_eq_some_iff.mp h
      rw [pairOf_eq hk] at ha
      obtain ⟨t, rfl, hkey⟩ := pair_key (prog := prog) (w := w) ha
      have off := sys_off S hB hd
      have q := hR.at (k := k)
      have e : (atKey xs [k.1, k.2]).isSome = (lookP k es).isSome := by
        cases hl : lookP k es with
        | none => rw [q.2 hl]; rfl
        | some u => obtain ⟨p, hp, _⟩ := q.1 u hl; rw [hp]; rfl
      refine ⟨fun Q hq => ?_, fun Q hq => ?_⟩
      · exact wpAny_in_heap (knd := tupleKind (intKind prog w)) (tupleKind_room_in1 (by lia)) hkey off hD (by rw [e]; exact hq _)
      · exact wpAny_notIn_heap (knd := tupleKind (intKind prog w)) (tupleKind_room_in1 (by lia)) hkey off hD (by rw [e]; exact hq _)
    · rename_i ys hd
      split at h
      · rename_i hf
        cases h
        simp only [Bool.and_eq_true] at hf
        obtain ⟨i1, n1, e1, r1, z1⟩ := S.listAt hd
        obtain ⟨b1, q1⟩ := readsAll_of (reads_of 3) r1 hf.2
        obtain ⟨b2, q2⟩ := reads_of 3 ha hf.1
        have l1 := lay_all (lay_of 3) ys hf.2
        have l2 := lay_of 3 a hf.1
        have e : (ys.map (toPy 3)).any (fun y => PyData.eqv y (toPy 3 a)) = ys.any fun y => veq 3 y a := by
          rw [List.any_map]
          exact any_congr2 fun y hy => eqv_of 3 y a (List.all_eq_true.mp hf.2 y hy) hf.1
        have hroom : A.units + 1 + min (PyData.depthAll (ys.map (toPy 3))) (toPy 3 a).depth < cLine := by
          have : min (PyData.depthAll (ys.map (toPy 3))) (toPy 3 a).depth ≤ (toPy 3 a).depth := Nat.min_le_right _ _
          lia
        exact ⟨fun Q hq => SeqAt.in_list_reads (.list e1 rfl rfl q1) q2 l1.1 l2.1 hroom (by rw [e]; exact hq s.toks), fun Q hq => SeqAt.notIn_list_reads (.list e1 rfl rfl q1) q2 l1.1 l2.1 hroom (by rw [e]; exact hq s.toks)⟩
      · cases h
    · cases h
  · cases h

/-- a comparison -/
theorem cmpop_sound {op : CmpOp} {a b : Val} {va vb : Value} {Q : BPost} (S : St prog w F B env ρ σ s) (hB : ∃ o, B.get? sysModules = some o) (ha : VRel F s.heap va a) (hb : VRel F s.heap vb b) (h : cmpop op a b σ Q) (hu : A.units + 70 < cLine) :
    wpAny (model prog w) A (compareOp op va vb) (fun v s' => ∃ r, v = .bool r ∧ TsP prog w F B env ρ σ s Q r s') E s := by
  obtain ⟨r, hr, hq⟩ : ∃ r, cmpB op a b σ = some r ∧ Q r σ := by
    unfold cmpop at h
    cases hr : cmpB op a b σ with
    | none => rw [hr] at h; exact False.elim h
    | some r => rw [hr] at h; exact ⟨r, rfl, h⟩
  cases op with
  | Lt =>
    obtain ⟨x, y, rfl, rfl, rfl⟩ := cmpI_is hr
    obtain ⟨t, rfl⟩ := ha.toInt
    obtain ⟨u, rfl⟩ := hb.toInt
    exact P.lt_int ⟨_, rfl, TsP.now S hq⟩
  | LtE =>
    obtain ⟨x, y, rfl, rfl, rfl⟩ := cmpI_is hr
    obtain ⟨t, rfl⟩ := ha.toInt
    obtain ⟨u, rfl⟩ := hb.toInt
    exact P.le_int ⟨_, rfl, TsP.now S hq⟩
  | Gt =>
    obtain ⟨x, y, rfl, rfl, rfl⟩ := cmpI_is hr
    obtain ⟨t, rfl⟩ := ha.toInt
    obtain ⟨u, rfl⟩ := hb.toInt
    exact P.gt_int ⟨_, rfl, TsP.now S hq⟩
  | GtE =>
    obtain ⟨x, y, rfl, rfl, rfl⟩ := cmpI_is hr
    obtain ⟨t, rfl⟩ := ha.toInt
    obtain ⟨u, rfl⟩ := hb.toInt
    exact P.ge_int ⟨_, rfl, TsP.now S hq⟩
  | Eq => exact (deq_sound S ha hb hr hu).1 _ ⟨_, rfl, TsP.now S hq⟩
  | NotEq =>
    obtain ⟨r', hr', rfl⟩ := Option.map_eq_some_iff.mp hr
    exact (deq_sound S ha hb hr' hu).2 _ ⟨_, rfl, TsP.now S hq⟩
  | In => exact (memV_sound S hB ha hb hr hu).1 _ fun t => ⟨_, rfl, TsP.pure S t hq⟩
  | NotIn =>
    obtain ⟨r', hr', rfl⟩ := Option.map_eq_some_iff.mp hr
    exact (memV_sound S hB ha hb hr' hu).2 _ fun t => ⟨_, rfl, TsP.pure S t hq⟩
  | _ => cases hr

theorem truth_sound {a : Val} {v : Value} {Q : BPost} (S : St prog w F B env ρ σ s) (ha : VRel F s.heap v a) (h : truth a σ Q) :
    wpAny (model prog w) A (truthy v) (TsP prog w F B env ρ σ s Q) E s := by
  unfold truth at h
  split at h
  · cases ha; exact truthy_none (TsP.now S h)
  · cases ha; exact wpAny_truthy_bool (TsP.now S h)
  · cases ha; exact P.truthy_int (TsP.now S h)
  · split at h
    · rename_i xs hp
      cases ha
      obtain ⟨i1, n1, e1, r1, z1⟩ := S.listAt hp
      have hl := r1.length
      have hc : cap = 1000000 := rfl
      refine wpAny_truthy_list (items := i1) ⟨_, e1, rfl, n1, rfl⟩ (by simp only [Array.length_toList] at hl; lia) ?_
      · have e : (!i1.isEmpty) = (!xs.isEmpty) := by
          obtain ⟨l⟩ := i1
          cases xs <;> cases l <;> simp_all
        rw [e]; exact TsP.pure S _ h
    · exact h.elim
  · exact h.elim

end
end Mine

set_option linter.unusedVariables false
namespace Mine
open PySem PyProof.Rows

section
variable {prog : Program} {w : World} {F : Tab} {B : Heap} {env : Env} {ρ : Rho} {σ σ₁ σ' : Store} {s s₁ s' : Shared} {A : Around} {E : Value → Shared → Prop}

theorem normIdx_eq {i : Int} {n j : Nat} (h : normIdx i n = some j) : seqIndex? i n = some j ∧ j < n ∧ (0 ≤ i → j = i.toNat) ∧ (i < 0 → -(n : Int) ≤ i ∧ j = (i + n).toNat) := by
  unfold normIdx at h
  split at h
  · split at h
    · cases h
      refine ⟨?_, by lia, fun _ => rfl, fun h => by lia⟩
      have e : (if i < 0 then i + (n : Int) else i) = i := if_neg (by lia)
      unfold seqIndex?
      simp only [e]
      rw [if_pos (by simp; lia)]
    · cases h
  · split at h
    · cases h
      refine ⟨?_, by lia, fun h => by lia, fun _ => ⟨by lia, rfl⟩⟩
      have e : (if i < 0 then i + (n : Int) else i) = i + n := if_pos (by lia)
      unfold seqIndex?
      simp only [e]
      rw [if_pos (by simp; lia)]
    · cases h

theorem VRels.ofInts {h : Heap} {vs : List Value} {l : List Int} (x : IntsAre vs l) : VRels F h vs (Mine.ofInts l) := by
  induction x with
  | nil => exact .nil
  | cons n t _ ih => exact .cons (.int _ _) ih
theorem subscr_sound {a i : Val} {va vi : Value} {value slice : Expr} {Q : VPost} (S : St prog w F B env ρ σ s) (ha : VRel F s.heap va a) (hi : VRel F s.heap vi i) (h : subscr a i σ Q)
    (hs : ∀ o i, subscripted slice false o i = operate [o, i] (getItem o i)) (hu : A.units + 70 < cLine) :
    wpAny (model prog w) A (subscriptTail value slice va vi) (EvP prog w F B env ρ σ s Q) E s := by
  have hc : cap = 1000000 := rfl
  cases ha with
  | tup e c d r z =>
    rename_i t o items n vs
    cases hi with
    | int k u =>
      dsimp only [subscr] at h
      split at h
      · rename_i v hv
        obtain ⟨j, hj, hv⟩ := Option.bind_eq_some_iff.mp hv
        have hl := r.length
        obtain ⟨q1, q2, q3, q4⟩ := normIdx_eq hj
        obtain ⟨x, hx, hr⟩ := r.get hv
        simp only [Array.length_toList] at hl
        refine tail_any (o := .ref t) ⟨_, e, c⟩ slot_tuple_getitem.lookup (getItem_tuple (items := items) ⟨_, e, c, n, d⟩ ?_ ?_ (by rw [hl]; exact q1) (by simpa using hx) (EvP.now S hr h)) (hs _ _)
        · rcases Int.lt_or_le k 0 with h0 | h0
          · have := (q4 h0).1; lia
          · lia
        · rcases Int.lt_or_le k 0 with h0 | h0
          · lia
          · have := q3 h0; lia
      · exact h.elim
    | _ => exact False.elim h
  | scr e =>
    rename_i l
    cases hi with
    | int k u =>
      dsimp only [subscr] at h
      split at h
      · rename_i v hv
        obtain ⟨j, hj, hv⟩ := Option.bind_eq_some_iff.mp hv
        obtain ⟨items, ⟨o, e1, c1, n, d1⟩, e2, e3⟩ := S.inv.scr _ _ e
        have e1 := S.inv.keep _ _ e1
        have r1 := VRels.ofInts (F := F) (h := s.heap) e2
        have hl := r1.length
        simp only [Array.length_toList, Mine.ofInts, List.length_map] at hl
        obtain ⟨q1, q2, q3, q4⟩ := normIdx_eq hj
        obtain ⟨x, hx, hr⟩ := r1.get (i := j) (a := .int v) (by simp [Mine.ofInts, hv])
        have hL : s.heap.IsList _ items := ⟨o, e1, c1, n, d1⟩
        refine tail_any hL.typeIs slot_list_getitem.lookup ?_ (hs _ _)
        rcases Int.lt_or_le k 0 with h0 | h0
        · obtain ⟨a1, a2⟩ := q4 h0
          refine wpAny_getItem_list_neg hL h0 (by rw [hl]; exact a1) (by lia) ?_ (EvP.now S hr h)
          rw [hl, ← a2]; simpa using hx
        · have a1 := q3 h0
          refine wpAny_getItem_list hL h0 (by lia) ?_ (EvP.now S hr h)
          rw [← a1]; simpa using hx
      · exact h.elim
    | _ => exact False.elim h
  | _ => exact False.elim h

theorem putP_length (k : Int × Int) (v : Val) : ∀ es, (putP k v es).length ≤ es.length + 1
  | [] => by simp [putP]
  | (j, u) :: es => by
    have := putP_length k v es
    unfold putP; split <;> simp <;> lia

theorem setitem_sound {a i v : Val} {va vi vv : Value} {Q : Store → Prop} (S : St prog w F B env ρ σ s) (ha : VRel F s.heap va a) (hi : VRel F s.heap vi i) (hv : VRel F s.heap vv v) (h : setitem a i v σ Q) (hu : A.units + 70 < cLine) :
    wpAny (model prog w) A (setItem va vi vv) (UnP prog w F B env ρ σ s Q) E s := by
  have hc : cap = 1000000 := rfl
  cases ha with
  | ref p =>
    dsimp only [setitem] at h
    split at h
    · rename_i es hp
      split at h
      · rename_i k' hk
        obtain ⟨xs, hD, hR, hz⟩ := (S.inv.obj p _ hp).2
        rw [pairOf_eq hk] at hi
        obtain ⟨t, rfl, hkey⟩ := pair_key (prog := prog) (w := w) hi
        have hlen := hR.length
        have hn := let ⟨_, _, _, _, _, _, _, _, hn⟩ := hD; hn
        have hcl := cap_line
        refine wpAny_setItem_heap (knd := tupleKind (intKind prog w)) (tupleKind_room_in1 (by lia)) hkey hD (fun h' hD' hs' => ?_) (by lia)
        have hk : ∀ a o, a ≠ p → s.heap.get? a = some o → h'.get? a = some o := fun a o hne e => hs'.extBut a o hne e
        have fz : ∀ a o, s.heap.get? a = some o → Frozen o → h'.get? a = some o := fun a o e hf => hk a o (by
          rintro rfl
          obtain ⟨ob, _, _, e', _, hdd, _⟩ := hD
          rw [e] at e'; cases e'; exact hf.2.1 _ _ hdd) e
        obtain ⟨S', g⟩ := S.turn (tk := s.toks + (tupleKind (intKind prog w)).draws [k'.1, k'.2]) hp nofun hk (ao := .dictP (putP k' v es)) ⟨_, hD', (hR.mono fz).stored (hv.mono fz) hn, by
          have := putP_length k' v es
          lia⟩
        exact ⟨_, S', g, h.2⟩
      · exact h.elim
    · exact h.elim
  | _ => exact False.elim h
end
end Mine

set_option linter.unusedVariables false
namespace Mine
open PySem PySem.W PyProof.Rows

/-- a dict, whatever its keys are -/
def RawDict (h : Heap) (d : Addr) (es : Array DictEntry) (ep : Nat) : Prop := ∃ o, h.get? d = some o ∧ o.ExactDict ∧ o.data = .dict es ep

section
variable {prog : Program} {w : World} {A : Around} {E : Value → Shared → Prop} {s : Shared}

theorem RawDict.typeIs {d : Addr} {es : Array DictEntry} {ep : Nat} (x : RawDict s.heap d es ep) : s.TypeIs (.ref d) "dict" := let ⟨o, ho, hc, _⟩ := x; ⟨o, ho, hc.1⟩
theorem RawDict.lt {h : Heap} {d : Addr} {es : Array DictEntry} {ep : Nat} (x : RawDict h d es ep) : d < h.objs.size := let ⟨o, ho, _⟩ := x; Heap.lt_size ho
theorem RawDict.at {h h' : Heap} {d : Addr} {es : Array DictEntry} {ep : Nat} (x : RawDict h d es ep) (e : ∀ o, h.get? d = some o → h'.get? d = some o) : RawDict h' d es ep := let ⟨o, ho, r⟩ := x; ⟨o, e o ho, r⟩

theorem raw_pyIter_keys {v d : Addr} {es : Array DictEntry} {ep : Nat} {Q : Value → Shared → Prop} (hv : KdlKeysView s.heap v d) (hm : RawDict s.heap d es ep)
    (hQ : Q (.ref s.heap.objs.size) { s with heap := s.heap.push { cls := .type "dict_keyiterator", data := .fields #[.ref d, .int 0 0, .int es.size 0, .int ep 0] } }) :
    wpAny (model prog w) A (pyIter (.ref v)) Q E s := by
  have hT := hv.typeIs
  obtain ⟨ov, hov, hcv, hdv⟩ := hv
  obtain ⟨o, ho, _, hdat⟩ := hm
  refine wpAny_pyIter_slot hT kdl_slot_keys_iter (wpAny_call_entry kdl_slot_keys_iter hT kdl_entry_keys_iter ?_ (kdl_args_keys_iter _))
  unfold Builtin.«dict_keys.__iter__»
  refine wpAny_bind (wpAny_pure (wpAny_bind ?_))
  unfold Builtin.Dict_items.dictOf
  refine wpAny_bind (wpAny_field hov hdv (x := .ref d) rfl (wpAny_pure (wpAny_bind ?_)))
  unfold Builtin.Dict_items.newIterator
  refine wpAny_bind (wpAny_dictEntries ho hdat (wpAny_bind (wpAny_dictEpoch ho hdat ?_)))
  have hown : Builtin.Dict_items.ownsTuple "dict_keyiterator" = false := by decide
  simp only [hown, Bool.false_eq_true, if_false]
  exact wpAny_newObj_type (wpAny_pure ⟨_, rfl, "dict_keyiterator", _, ⟨_, Heap.get?_push_size _ rfl, rfl⟩, PySem.F.slot_dict_keyiterator_next.lookup, hQ⟩)

theorem raw_pyNext_item {it d : Addr} {i ep : Nat} {es : Array DictEntry} {e : DictEntry} {Q : Option Value → Shared → Prop} (hit : s.heap.IsKeyIter it d i es.size ep) (hm : RawDict s.heap d es ep) (hx : es[i]? = some e)
    (hQ : ∀ h', h'.IsKeyIter it d (i + 1) es.size ep → Heap.SameBut it s.heap h' → Q (some e.key) { s with heap := h' }) : wpAny (model prog w) A (pyNext (.ref it)) Q E s := by
  have hT := hit.typeIs
  obtain ⟨o, ho, hc, hd⟩ := id hit
  obtain ⟨od, hod, _, hdd⟩ := hm
  have hown : Builtin.Dict_items.ownsTuple "dict_keyiterator" = false := by decide
  unfold pyNext
  refine wpAny_bind (wpAny_attempt (wpAny_callSpecial?_slot (name := Str.ofString "__next__") hT PySem.F.slot_dict_keyiterator_next
    (wpAny_call_entry PySem.F.slot_dict_keyiterator_next hT PySem.F.entry_dict_keyiterator_next ?_ (PySem.F.args_dict_keyiterator_next_1 _))))
  refine wpAny_bind (wpAny_pure (wpAny_bind (wpAny_bind ?_)))
  first | refine wpAny_bind (wpAny_typeNameOfWhole_keyiter hT (wpAny_pure ?_)) | refine wpAny_bind (wpAny_typeNameOf_keyiter hT (wpAny_pure ?_))
  refine wpAny_bind (wpAny_fieldsOf ho hd ?_)
  simp only [hown, Bool.false_eq_true, if_false]
  show wpAny _ _ (if (Value.ref d == Value.none) = true then _ else _) _ _ s
  rw [if_neg (show ¬ ((Value.ref d == Value.none) = true) from Bool.false_ne_true)]
  refine wpAny_bind (wpAny_pure (wpAny_bind (wpAny_dictEntries hod hdd ?_)))
  rw [if_neg (by simp)]
  refine wpAny_bind (wpAny_pure (wpAny_bind (wpAny_dictEpoch hod hdd ?_)))
  rw [if_neg (by simp)]
  refine wpAny_pure ?_
  simp only [show ¬ ((i : Int) < 0) from by lia, if_false, Int.toNat_natCast, hx]
  refine wpAny_bind ?_
  first | refine wpAny_bind (wpAny_typeNameOfWhole_keyiter hT (wpAny_pure ?_)) | refine wpAny_bind (wpAny_typeNameOf_keyiter hT (wpAny_pure ?_))
  refine wpAny_bind (wpAny_isOneOf_keyiter hT ?_)
  show wpAny _ _ (setField (.ref it) 1 (rawInt ((i : Int) + 1)) >>= _) _ _ s
  refine wpAny_bind (wpAny_setField ho hd (by simp) ?_)
  have hit' : (s.heap.update it (Obj.mapFields (·.setIfInBounds 1 (rawInt ((i : Int) + 1))))).IsKeyIter it d (i + 1) es.size ep :=
    ⟨_, Heap.get?_update_self _ ho (Obj.isFreed_of_fields (Obj.data_mapFields hd _)), (Obj.cls_mapFields ..).trans hc, by rw [Obj.data_mapFields hd]; simp [rawInt]⟩
  refine wpAny_bind (wpAny_holding ?_)
  refine wpAny_bind (wpAny_isOneOf_keyiter (s := { s with heap := s.heap.update it (Obj.mapFields (·.setIfInBounds 1 (rawInt ((i : Int) + 1)))) }) hit'.typeIs ?_)
  show wpAny _ _ (pure e.key) _ _ _
  exact wpAny_pure (wpAny_pure ⟨_, rfl, wpAny_pure (hQ _ hit' (Heap.SameBut.update ..))⟩)

theorem raw_pyNext_end {it d : Addr} {i ep : Nat} {es : Array DictEntry} {Q : Option Value → Shared → Prop} (hh : A.handled = none) (hit : s.heap.IsKeyIter it d i es.size ep) (hm : RawDict s.heap d es ep) (hx : es[i]? = none)
    (hQ : ∀ h', Heap.ExtBut it s.heap h' → Q none { s with heap := h' }) : wpAny (model prog w) A (pyNext (.ref it)) Q E s := by
  have hT := hit.typeIs
  obtain ⟨o, ho, hc, hd⟩ := id hit
  obtain ⟨od, hod, _, hdd⟩ := hm
  have hown : Builtin.Dict_items.ownsTuple "dict_keyiterator" = false := by decide
  unfold pyNext
  refine wpAny_bind (wpAny_attempt (wpAny_callSpecial?_slot (name := Str.ofString "__next__") hT PySem.F.slot_dict_keyiterator_next
    (wpAny_call_entry PySem.F.slot_dict_keyiterator_next hT PySem.F.entry_dict_keyiterator_next ?_ (PySem.F.args_dict_keyiterator_next_1 _))))
  refine wpAny_bind (wpAny_pure (wpAny_bind (wpAny_bind ?_)))
  first | refine wpAny_bind (wpAny_typeNameOfWhole_keyiter hT (wpAny_pure ?_)) | refine wpAny_bind (wpAny_typeNameOf_keyiter hT (wpAny_pure ?_))
  refine wpAny_bind (wpAny_fieldsOf ho hd ?_)
  simp only [hown, Bool.false_eq_true, if_false]
  show wpAny _ _ (if (Value.ref d == Value.none) = true then _ else _) _ _ s
  rw [if_neg (show ¬ ((Value.ref d == Value.none) = true) from Bool.false_ne_true)]
  refine wpAny_bind (wpAny_pure (wpAny_bind (wpAny_dictEntries hod hdd ?_)))
  rw [if_neg (by simp)]
  refine wpAny_bind (wpAny_pure (wpAny_bind (wpAny_dictEpoch hod hdd ?_)))
  rw [if_neg (by simp)]
  refine wpAny_pure ?_
  simp only [show ¬ ((i : Int) < 0) from by lia, if_false, Int.toNat_natCast, hx]
  refine wpAny_bind ?_
  first | refine wpAny_bind (wpAny_typeNameOfWhole_keyiter hT (wpAny_pure ?_)) | refine wpAny_bind (wpAny_typeNameOf_keyiter hT (wpAny_pure ?_))
  show wpAny _ _ (setField (.ref it) 0 .none >>= _) _ _ s
  refine wpAny_bind (wpAny_setField ho hd (by simp) ?_)
  show wpAny _ _ (newExc (.type "StopIteration") [] >>= _) _ _ _
  refine wpAny_bind ?_
  simp only [newExc, newTuple]
  refine wpAny_bind (wpAny_newObj_type ?_ (by size_fits))
  refine wpAny_bind (m := firstArgMember _ _) (wpAny_of_eq (a := Value.none) (by first | rfl | (simp only [firstArgMember]; rfl)) ?_)
  refine wpAny_newObj_type ?_ (by size_fits)
  simp only [raiseNew]
  refine wpAny_bind (wpAny_handled ?_)
  rw [show A.in1.handled = none from hh]
  refine wpAny_bind (wpAny_pure (wpAny_throw ?_))
  refine wpAny_bind (wpAny_isInstance (T := "StopIteration") (b := true) ⟨_, Heap.get?_push_size _ rfl, rfl⟩ isSubtype_stop ?_)
  exact wpAny_pure (hQ _ (((Heap.SameBut.update ..).extBut.push _).push _))

end
end Mine

set_option linter.unusedVariables false
namespace Mine
open PySem PyProof.Rows

/-- an order on the items to be sorted: `ls x y` says that x goes strictly ahead of y -/
structure TOrd (ls : Keyed → Keyed → Bool) : Prop where
  asym : ∀ x y, ls x y = true → ls y x = false
  tr : ∀ x y z, ls y x = false → ls z y = false → ls z x = false

section
variable {M : Model} {A : Around} {E : Value → Shared → Prop} {s : Shared} {κ : SortKind} {ok : Keyed → Prop} {ls : Keyed → Keyed → Bool}

/-- what the sort asks of the outside: each comparison answers `ls` and changes nothing -/
structure Ask (M : Model) (A : Around) (E : Value → Shared → Prop) (s : Shared) (κ : SortKind) (ok : Keyed → Prop) (ls : Keyed → Keyed → Bool) : Prop where
  ord : TOrd ls
  ask : ∀ (x y : Keyed) (st : SortSt) (Q : Option Bool → SortSt → Prop), ok x → ok y → kindOf st = κ → Q (some (ls x y)) st → wpS M A E s (lt' x y) Q st

abbrev Le (ls : Keyed → Keyed → Bool) (x y : Keyed) : Prop := ls y x = false

theorem TOrd.rfl' (O : TOrd ls) (x : Keyed) : Le ls x x := by
  unfold Le
  cases h : ls x x
  · rfl
  · have := O.asym x x h; rw [h] at this; exact this
theorem TOrd.le_of_lt (O : TOrd ls) {x y : Keyed} (h : ls x y = true) : Le ls x y := O.asym x y h
theorem TOrd.trans (O : TOrd ls) {x y z : Keyed} (h : Le ls x y) (h' : Le ls y z) : Le ls x z := O.tr x y z h h'

theorem wpS_elem {a : Array Keyed} {i : Nat} {Q : Keyed → SortSt → Prop} {st : SortSt} (hi : i < a.size) (h : Q a[i] st) : wpS M A E s (elem' a i) Q st := by
  rw [elem'_eq, Array.getElem?_eq_getElem hi]
  exact wpS_pure h

/-- the partition point of a falling predicate -/
structure Part (f : Nat → Bool) (n p : Nat) : Prop where
  le : p ≤ n
  yes : ∀ i, i < p → f i = true
  no : ∀ i, p ≤ i → i < n → f i = false

theorem bin_search {τ : Type} {f : Nat → Bool} {n lo hi : Nat} {st : SortSt} {body : Nat → Option τ × Nat × Nat → StateT SortSt Sem (ForInStep (Option τ × Nat × Nat))}
    {Q : Option τ × Nat × Nat → SortSt → Prop}
    (hstop : ∀ x l h R, h ≤ l → R (.done (none, l, h)) st → wpS M A E s (body x (none, l, h)) R st)
    (hgo : ∀ x l h R, l < h → h ≤ n → R (if f (l + (h - l) / 2) = true then .yield (none, l + (h - l) / 2 + 1, h) else .yield (none, l, l + (h - l) / 2)) st → wpS M A E s (body x (none, l, h)) R st)
    (fall : ∀ i j, i ≤ j → j < n → f j = true → f i = true)
    (hlh : lo ≤ hi) (hhn : hi ≤ n) (h1 : ∀ i, i < lo → f i = true) (h2 : ∀ i, hi ≤ i → i < n → f i = false)
    (h : ∀ p, Part f n p → Q (none, p, p) st) : wpS M A E s (forIn [:n] (none, lo, hi) body) Q st := by
  refine wpS_forRange (I := fun x c st' => st' = st ∧ ∃ l h, c = (none, l, h) ∧ l ≤ h ∧ h ≤ n ∧ h - l + x ≤ n ∧ (∀ i, i < l → f i = true) ∧ (∀ i, h ≤ i → i < n → f i = false)) ?step ?fin
    ⟨rfl, lo, hi, rfl, hlh, hhn, by lia, h1, h2⟩
  case fin =>
    rintro c st' ⟨rfl, l, h', rfl, a1, a2, a3, a4, a5⟩
    have : l = h' := by lia
    subst this
    exact h _ ⟨a2, a4, a5⟩
  case step =>
    rintro x c st' _ hx ⟨rfl, l, h', rfl, a1, a2, a3, a4, a5⟩
    by_cases hl : h' ≤ l
    · refine hstop x l h' _ hl ?_
      have : l = h' := by lia
      subst this
      exact h _ ⟨a2, a4, a5⟩
    · refine hgo x l h' _ (by lia) a2 ?_
      by_cases hf : f (l + (h' - l) / 2) = true
      · rw [if_pos hf]
        exact ⟨rfl, _, _, rfl, by lia, a2, by lia, fun i hi => fall i _ (by lia) (by lia) hf, a5⟩
      · rw [if_neg hf]
        refine ⟨rfl, _, _, rfl, by lia, by lia, by lia, a4, fun i hi1 hi2 => ?_⟩
        cases hc : f i
        · rfl
        · exact absurd (fall _ i hi1 hi2 hc) hf

end
end Mine

set_option linter.unusedVariables false
namespace Mine
open PySem PyProof.Rows

def G (xs : Array Keyed) (i : Nat) : Keyed := (xs[i]?).getD (.none, .none)
theorem G_get {xs : Array Keyed} {i : Nat} (h : i < xs.size) : G xs i = xs[i] := by unfold G; rw [Array.getElem?_eq_getElem h]; rfl
theorem G_congr {xs ys : Array Keyed} {i j : Nat} (h : xs[i]? = ys[j]?) : G xs i = G ys j := by unfold G; rw [h]
theorem G_mirror {xs : Array Keyed} {i j : Nat} (hj : j ≤ xs.size) (k : Nat) :
    G (mirror xs i j ((j - i) / 2)) k = if i ≤ k ∧ k < j then G xs (i + j - 1 - k) else G xs k := by
  have e := getElem?_mirror_all (i := i) hj k
  split
  case isTrue h => rw [if_pos h] at e; exact G_congr e
  case isFalse h => rw [if_neg h] at e; exact G_congr e
theorem G_bubble {xs : Array Keyed} {src d : Nat} (hs : src < xs.size) (hd : d ≤ src) (k : Nat) :
    G (bubble xs src d) k = if k = src - d then G xs src else if src - d < k ∧ k ≤ src then G xs (k - 1) else G xs k := by
  have e := getElem?_bubble hs d hd k
  split
  case isTrue h => rw [if_pos h] at e; exact G_congr e
  case isFalse h =>
    rw [if_neg h] at e
    split
    case isTrue h' => rw [if_pos h'] at e; exact G_congr e
    case isFalse h' => rw [if_neg h'] at e; exact G_congr e

section
variable {M : Model} {A : Around} {E : Value → Shared → Prop} {s : Shared} {κ : SortKind} {ok : Keyed → Prop} {ls : Keyed → Keyed → Bool}

abbrev OkAll (ok : Keyed → Prop) (xs : Array Keyed) : Prop := ∀ x, x ∈ xs.toList → ok x
theorem OkAll.at {xs : Array Keyed} (h : OkAll ok xs) {i : Nat} (hi : i < xs.size) : ok (G xs i) := by
  rw [G_get hi]; exact h _ (Array.getElem_mem_toList hi)

structure Same (κ : SortKind) (st0 st : SortSt) (lo hi : Nat) : Prop where
  kind : kindOf st = κ
  pend : pendingOf st = pendingOf st0
  fail : failedOf st = failedOf st0
  perm : (arrOf st).Perm (arrOf st0)
  out : ∀ k, k < lo ∨ hi ≤ k → G (arrOf st) k = G (arrOf st0) k

theorem Same.size {st0 st : SortSt} {lo hi : Nat} (S : Same κ st0 st lo hi) : (arrOf st).size = (arrOf st0).size := S.perm.size_eq
theorem Same.okAll {st0 st : SortSt} {lo hi : Nat} (S : Same κ st0 st lo hi) (h : OkAll ok (arrOf st0)) : OkAll ok (arrOf st) :=
  fun x hx => h x ((Array.perm_iff_toList_perm.mp S.perm).mem_iff.mp hx)
theorem Same.refl {st0 : SortSt} {lo hi : Nat} (hk : kindOf st0 = κ) : Same κ st0 st0 lo hi := ⟨hk, rfl, rfl, Array.Perm.refl _, fun _ _ => rfl⟩
theorem Same.set {st0 st : SortSt} {lo hi : Nat} {xs : Array Keyed} (S : Same κ st0 st lo hi) (hp : xs.Perm (arrOf st)) (ho : ∀ k, k < lo ∨ hi ≤ k → G xs k = G (arrOf st) k) : Same κ st0 (setArr st xs) lo hi :=
  ⟨S.kind, S.pend, S.fail, hp.trans S.perm, fun k hk => (ho k hk).trans (S.out k hk)⟩
theorem Same.trans {a b c : SortSt} {lo hi : Nat} (S : Same κ a b lo hi) (T : Same κ b c lo hi) : Same κ a c lo hi :=
  ⟨T.kind, T.pend.trans S.pend, T.fail.trans S.fail, T.perm.trans S.perm, fun k hk => (T.out k hk).trans (S.out k hk)⟩
theorem Same.wide {a b : SortSt} {lo hi lo' hi' : Nat} (S : Same κ a b lo hi) (h1 : lo' ≤ lo) (h2 : hi ≤ hi') : Same κ a b lo' hi' :=
  ⟨S.kind, S.pend, S.fail, S.perm, fun k hk => S.out k (by lia)⟩

theorem ltAt_G (K : Ask M A E s κ ok ls) {st : SortSt} {i j : Nat} {Q : Option Bool → SortSt → Prop} (hk : kindOf st = κ) (ho : OkAll ok (arrOf st))
    (hi : i < (arrOf st).size) (hj : j < (arrOf st).size) (h : Q (some (ls (G (arrOf st) i) (G (arrOf st) j))) st) : wpS M A E s (ltAt' i j) Q st := by
  rw [ltAt'_eq]
  refine wpS_bind (wpS_get ?_)
  refine wpS_bind (wpS_elem hi ?_)
  refine wpS_bind (wpS_elem hj ?_)
  rw [G_get hi, G_get hj] at h
  exact K.ask _ _ _ _ (G_get hi ▸ ho.at hi) (G_get hj ▸ ho.at hj) hk h

theorem rev_G {st : SortSt} {i j : Nat} {Q : Unit → SortSt → Prop} (h : Q () (setArr st (mirror (arrOf st) i j ((j - i) / 2)))) :
    wpS M A E s (reverseSlice' i j) Q st := by
  rw [reverseSlice'_eq]; exact wpS_modify h
theorem down_G {st : SortSt} {i j : Nat} {Q : Unit → SortSt → Prop} (h : Q () (setArr st (bubble (arrOf st) i (i - j)))) :
    wpS M A E s (moveDown' i j) Q st := by
  rw [moveDown'_eq]; exact wpS_modify h

/-- sorted from lo to hi -/
def SrtOn (ls : Keyed → Keyed → Bool) (xs : Array Keyed) (lo hi : Nat) : Prop := ∀ i j, lo ≤ i → i ≤ j → j < hi → Le ls (G xs i) (G xs j)
def FallOn (ls : Keyed → Keyed → Bool) (xs : Array Keyed) (lo hi : Nat) : Prop := ∀ i j, lo ≤ i → i ≤ j → j < hi → Le ls (G xs j) (G xs i)

theorem SrtOn.snoc (O : TOrd ls) {xs : Array Keyed} {lo n : Nat} (h : SrtOn ls xs lo (lo + n)) (h1 : 1 ≤ n) (hl : Le ls (G xs (lo + n - 1)) (G xs (lo + n))) : SrtOn ls xs lo (lo + (n + 1)) := by
  intro i j hi hij hj
  by_cases hj' : j < lo + n
  · exact h i j hi hij hj'
  · have : j = lo + n := by lia
    subst this
    by_cases hi' : i = lo + n
    · subst hi'; exact O.rfl' _
    · exact O.trans (h i (lo + n - 1) hi (by lia) (by lia)) hl
theorem FallOn.snoc (O : TOrd ls) {xs : Array Keyed} {lo n : Nat} (h : FallOn ls xs lo (lo + n)) (h1 : 1 ≤ n) (hl : Le ls (G xs (lo + n)) (G xs (lo + n - 1))) : FallOn ls xs lo (lo + (n + 1)) := by
  intro i j hi hij hj
  by_cases hj' : j < lo + n
  · exact h i j hi hij hj'
  · have : j = lo + n := by lia
    subst this
    by_cases hi' : i = lo + n
    · subst hi'; exact O.rfl' _
    · exact O.trans hl (h i (lo + n - 1) hi (by lia) (by lia))

abbrev Eqv (ls : Keyed → Keyed → Bool) (x y : Keyed) : Prop := Le ls x y ∧ Le ls y x
theorem FallOn.eqv (O : TOrd ls) {xs ys : Array Keyed} {lo hi : Nat} (h : FallOn ls xs lo hi) (he : ∀ k, Eqv ls (G ys k) (G xs k)) : FallOn ls ys lo hi :=
  fun i j a b c => O.trans (O.trans (he j).1 (h i j a b c)) (he i).2
theorem mirror_eqv (O : TOrd ls) {xs : Array Keyed} {i j : Nat} (hj : j ≤ xs.size) (he : ∀ p, i ≤ p → p < j → Eqv ls (G xs p) (G xs (j - 1))) (k : Nat) :
    Eqv ls (G (mirror xs i j ((j - i) / 2)) k) (G xs k) := by
  rw [G_mirror hj]
  split
  · have a := he (i + j - 1 - k) (by lia) (by lia)
    have b := he k (by lia) (by lia)
    exact ⟨O.trans a.1 b.2, O.trans b.1 a.2⟩
  · exact ⟨O.rfl' _, O.rfl' _⟩
theorem mirror_out {xs : Array Keyed} {i j lo hi : Nat} (hj : j ≤ xs.size) (h1 : lo ≤ i) (h2 : j ≤ hi) : ∀ k, k < lo ∨ hi ≤ k → G (mirror xs i j ((j - i) / 2)) k = G xs k := by
  intro k hk
  rw [G_mirror hj, if_neg (by lia)]

theorem asc_loop (O : TOrd ls) {st : SortSt} {a lo nrem : Nat} {body : Nat → Option (Option Nat) × Nat → StateT SortSt Sem (ForInStep (Option (Option Nat) × Nat))}
    {Q : Option (Option Nat) × Nat → SortSt → Prop}
    (hb : ∀ x n R, 1 ≤ n → n < nrem → R (if ls (G (arrOf st) (lo + n)) (G (arrOf st) (lo + n - 1)) = true then .done (none, n) else .yield (none, n + 1)) st → wpS M A E s (body x (none, n)) R st)
    (ha : 1 ≤ a) (han : a ≤ nrem) (hs : SrtOn ls (arrOf st) lo (lo + a))
    (h : ∀ n, a ≤ n → n ≤ nrem → SrtOn ls (arrOf st) lo (lo + n) → (n = nrem ∨ ls (G (arrOf st) (lo + n)) (G (arrOf st) (lo + n - 1)) = true) → Q (none, n) st) :
    wpS M A E s (forIn [a:nrem] (none, a) body) Q st := by
  refine wpS_forRange (I := fun x c st' => st' = st ∧ c = (none, x) ∧ SrtOn ls (arrOf st) lo (lo + x)) ?step ?fin ⟨rfl, rfl, hs⟩
  case fin =>
    rintro c st' ⟨rfl, rfl, hs'⟩
    rw [show max a nrem = nrem by lia] at hs' ⊢
    exact h nrem han (Nat.le_refl _) hs' (.inl rfl)
  case step =>
    rintro x c st' hax hxn ⟨rfl, rfl, hs'⟩
    refine hb x x _ (by lia) hxn ?_
    by_cases hl : ls (G (arrOf st') (lo + x)) (G (arrOf st') (lo + x - 1)) = true
    · rw [if_pos hl]; exact h x hax (by lia) hs' (.inr hl)
    · rw [if_neg hl]; exact ⟨rfl, rfl, hs'.snoc O (by lia) (by simpa using hl)⟩

theorem desc_loop (O : TOrd ls) {st0 : SortSt} {n lo nrem : Nat} {body : Nat → Option (Option Nat) × Nat × Nat → StateT SortSt Sem (ForInStep (Option (Option Nat) × Nat × Nat))}
    {Q : Option (Option Nat) × Nat × Nat → SortSt → Prop} {st : SortSt}
    (hb : ∀ x m neq st R, Same κ st0 st lo (lo + nrem) → 1 ≤ m → m < nrem →
      (ls (G (arrOf st) (lo + m)) (G (arrOf st) (lo + m - 1)) = true → R (.yield (none, m + 1, 0)) (if neq > 0 then setArr st (mirror (arrOf st) (lo + m - (neq + 1)) (lo + m) ((lo + m - (lo + m - (neq + 1))) / 2)) else st)) →
      (ls (G (arrOf st) (lo + m)) (G (arrOf st) (lo + m - 1)) = false → ls (G (arrOf st) (lo + m - 1)) (G (arrOf st) (lo + m)) = true → R (.done (none, m, neq)) st) →
      (ls (G (arrOf st) (lo + m)) (G (arrOf st) (lo + m - 1)) = false → ls (G (arrOf st) (lo + m - 1)) (G (arrOf st) (lo + m)) = false → R (.yield (none, m + 1, neq + 1)) st) →
      wpS M A E s (body x (none, m, neq)) R st)
    (hsz : lo + nrem ≤ (arrOf st0).size) (h1 : 1 ≤ n) (hnn : n ≤ nrem) (S : Same κ st0 st lo (lo + nrem)) (hs : FallOn ls (arrOf st) lo (lo + n))
    (h : ∀ m neq st', Same κ st0 st' lo (lo + nrem) → n ≤ m → m ≤ nrem → FallOn ls (arrOf st') lo (lo + m) → neq + 1 ≤ m →
      (∀ i, lo + m - (neq + 1) ≤ i → i < lo + m → Eqv ls (G (arrOf st') i) (G (arrOf st') (lo + m - 1))) → Q (none, m, neq) st') :
    wpS M A E s (forIn [n:nrem] (none, n, 0) body) Q st := by
  have base : ∀ (st' : SortSt) (m : Nat), 1 ≤ m → ∀ i, lo + m - (0 + 1) ≤ i → i < lo + m → Eqv ls (G (arrOf st') i) (G (arrOf st') (lo + m - 1)) := by
    intro st' m hm i h1 h2
    have : i = lo + m - 1 := by lia
    subst this; exact ⟨O.rfl' _, O.rfl' _⟩
  refine wpS_forRange (I := fun x c st' => ∃ neq, c = (none, x, neq) ∧ Same κ st0 st' lo (lo + nrem) ∧ FallOn ls (arrOf st') lo (lo + x) ∧ neq + 1 ≤ x ∧
      (∀ i, lo + x - (neq + 1) ≤ i → i < lo + x → Eqv ls (G (arrOf st') i) (G (arrOf st') (lo + x - 1)))) ?step ?fin ⟨0, rfl, S, hs, by lia, base _ _ h1⟩
  case fin =>
    rintro c st' ⟨neq, rfl, hB', hs', hq, he⟩
    rw [show max n nrem = nrem by lia] at hs' hq he ⊢
    exact h nrem neq st' hB' hnn (Nat.le_refl _) hs' hq he
  case step =>
    rintro x c st' hax hxn ⟨neq, rfl, S', hs', hq, he⟩
    have hsz' : lo + x ≤ (arrOf st').size := by rw [S'.size]; lia
    refine hb x x neq st' _ S' (by lia) hxn ?_ ?_ ?_
    · intro hl
      have F := hs'.snoc O (by lia) (O.le_of_lt hl)
      dsimp only
      split
      · refine ⟨0, rfl, S'.set (mirror_perm _ _ _ _) (mirror_out hsz' (by lia) (by lia)), F.eqv O (mirror_eqv O hsz' he), by lia, base _ _ (by lia)⟩
      · exact ⟨0, rfl, S', F, by lia, base _ _ (by lia)⟩
    · intro _ _; exact h x neq st' S' hax (by lia) hs' hq he
    · intro hl hg
      refine ⟨neq + 1, rfl, S', hs'.snoc O (by lia) hg, by lia, fun i hi1 hi2 => ?_⟩
      rw [show lo + (x + 1) - 1 = lo + x by lia]
      by_cases hix : i = lo + x
      · subst hix; exact ⟨O.rfl' _, O.rfl' _⟩
      · have e := he i (by lia) (by lia)
        exact ⟨O.trans e.1 hl, O.trans hg e.2⟩

theorem countRun_sound (K : Ask M A E s κ ok ls) {st : SortSt} {lo nrem : Nat} {Q : Option Nat → SortSt → Prop} (hk : kindOf st = κ) (ho : OkAll ok (arrOf st))
    (hn : lo + nrem ≤ (arrOf st).size) (h1 : 1 ≤ nrem)
    (h : ∀ m st', Same κ st st' lo (lo + nrem) → 1 ≤ m → m ≤ nrem → SrtOn ls (arrOf st') lo (lo + m) → Q (some m) st') :
    wpS M A E s (countRun' lo nrem) Q st := by
  have O := K.ord
  rw [countRun'_eq]
  refine wpS_bind (asc_loop (lo := lo) O ?_ (Nat.le_refl 1) h1 ?_ ?_)
  · intro x n R hn1 hn2 hR
    dsimp only
    refine wpS_bind (ltAt_G K hk ho (by lia) (by lia) ?_)
    dsimp only
    split
    case isTrue hb => rw [if_pos hb] at hR; exact wpS_pure hR
    case isFalse hb => rw [if_neg hb] at hR; exact wpS_pure hR
  · intro i j hi hij hj
    have : i = j := by lia
    subst this; exact O.rfl' _
  · intro n hn1 hn2 hs hor
    dsimp only
    split
    case isTrue he => exact wpS_pure (h n st (Same.refl hk) hn1 hn2 hs)
    case isFalse he =>
      have hne : n ≠ nrem := by simpa using he
      have hl := hor.resolve_left hne
      have hF : n ≤ 1 → FallOn ls (arrOf st) lo (lo + (n + 1)) := by
        intro h1'
        refine FallOn.snoc O ?_ hn1 (O.le_of_lt hl)
        intro i j hi hij hj
        have : i = j := by lia
        subst this; exact O.rfl' _
      have hF' : ls (G (arrOf st) lo) (G (arrOf st) (lo + n - 1)) = false → (∀ p, lo ≤ p → p < lo + n → Eqv ls (G (arrOf st) p) (G (arrOf st) (lo + n - 1))) := by
        intro hr p hp1 hp2
        exact ⟨hs p _ hp1 (by lia) (by lia), O.trans hr (hs lo p (by lia) hp1 (by lia))⟩
      split
      rotate_left
      rename_i hgt
      obtain ⟨st1, hst1⟩ : ∃ x, x = st := ⟨_, rfl⟩
      have FF : FallOn ls (arrOf st1) lo (lo + (n + 1)) := by rw [hst1]; exact hF (by lia)
      have FS : Same κ st st1 lo (lo + nrem) := by rw [hst1]; exact Same.refl hk
      rw [← hst1]
      clear hst1 hgt
      rotate_left
      refine wpS_bind (ltAt_G K hk ho (by lia) (by lia) ?_)
      dsimp only
      split
      case isTrue hr => exact wpS_pure (h n st (Same.refl hk) hn1 hn2 hs)
      rename_i hgt hr
      refine wpS_bind (rev_G ?_)
      obtain ⟨st1, hst1⟩ : ∃ x, x = setArr st (mirror (arrOf st) lo (lo + n) ((lo + n - lo) / 2)) := ⟨_, rfl⟩
      have hr' := hF' (by simpa using hr)
      have FF : FallOn ls (arrOf st1) lo (lo + (n + 1)) := by
        rw [hst1]
        refine FallOn.eqv O ?_ (mirror_eqv O (by lia) hr')
        refine FallOn.snoc O ?_ hn1 (O.le_of_lt hl)
        intro i j hi hij hj
        exact O.trans (hr' j (by lia) (by lia)).1 (hr' i (by lia) (by lia)).2
      have FS : Same κ st st1 lo (lo + nrem) := by rw [hst1]; exact (Same.refl hk).set (mirror_perm _ _ _ _) (mirror_out (by lia) (by lia) (by lia))
      rw [← hst1]
      clear hst1 hgt hr hr'
      all_goals
        refine wpS_bind (wpS_lift (wpAny_rule ⟨rfl, ?_⟩))
        refine wpS_bind (desc_loop (κ := κ) (st0 := st) (lo := lo) O ?_ hn (by lia) (by lia) FS FF ?_)
        · intro x m neq st2 R S2 hm1 hm2 r1 r2 r3
          have hz := S2.size
          have ho2 := S2.okAll ho
          dsimp only
          refine wpS_bind (ltAt_G K S2.kind ho2 (by lia) (by lia) ?_)
          dsimp only
          split
          case isTrue hb =>
            have r := r1 hb
            split
            case isTrue hq =>
              rw [if_pos hq] at r
              exact wpS_bind (rev_G (wpS_pure r))
            case isFalse hq =>
              rw [if_neg hq] at r
              exact wpS_pure r
          case isFalse hb =>
            have hb' : ls (G (arrOf st2) (lo + m)) (G (arrOf st2) (lo + m - 1)) = false := by simpa using hb
            refine wpS_bind (ltAt_G K S2.kind ho2 (by lia) (by lia) ?_)
            dsimp only
            split
            case isTrue hg => exact wpS_pure (r2 hb' hg)
            case isFalse hg => exact wpS_pure (r3 hb' (by simpa using hg))
        · intro m neq st2 S2 hm1 hm2 F2 hq he
          have hz := S2.size
          dsimp only
          split
          rename_i hpos
          refine wpS_bind (rev_G ?_)
          obtain ⟨st3, hst3⟩ : ∃ x, x = setArr st2 (mirror (arrOf st2) (lo + m - (neq + 1)) (lo + m) ((lo + m - (lo + m - (neq + 1))) / 2)) := ⟨_, rfl⟩
          have FF3 : FallOn ls (arrOf st3) lo (lo + m) := by rw [hst3]; exact F2.eqv O (mirror_eqv O (by lia) he)
          have FS3 : Same κ st st3 lo (lo + nrem) := by rw [hst3]; exact S2.set (mirror_perm _ _ _ _) (mirror_out (by lia) (by lia) (by lia))
          rw [← hst3]
          clear hst3 hpos
          rotate_left
          obtain ⟨st3, hst3⟩ : ∃ x, x = st2 := ⟨_, rfl⟩
          have FF3 : FallOn ls (arrOf st3) lo (lo + m) := by rw [hst3]; exact F2
          have FS3 : Same κ st st3 lo (lo + nrem) := by rw [hst3]; exact S2
          rw [← hst3]
          clear hst3
          rename_i hpos
          clear hpos
          all_goals
            have hz3 := FS3.size
            refine wpS_bind (rev_G ?_)
            have FS4 : Same κ st (setArr st3 (mirror (arrOf st3) lo (lo + m) ((lo + m - lo) / 2))) lo (lo + nrem) := FS3.set (mirror_perm _ _ _ _) (mirror_out (by lia) (by lia) (by lia))
            refine wpS_bind (asc_loop (lo := lo) O ?_ (by lia) hm2 ?_ ?_)
            · intro x n R hn1 hn2 hR
              dsimp only
              have hz4 := FS4.size
              refine wpS_bind (ltAt_G K FS4.kind (FS4.okAll ho) (by lia) (by lia) ?_)
              dsimp only
              split
              case isTrue hb => rw [if_pos hb] at hR; exact wpS_pure hR
              case isFalse hb => rw [if_neg hb] at hR; exact wpS_pure hR
            · intro i j hi hij hj
              show Le ls (G (mirror (arrOf st3) lo (lo + m) ((lo + m - lo) / 2)) i) (G (mirror (arrOf st3) lo (lo + m) ((lo + m - lo) / 2)) j)
              rw [G_mirror (by lia), G_mirror (by lia), if_pos (by lia), if_pos (by lia)]
              exact FF3 _ _ (by lia) (by lia) (by lia)
            · intro n hn1 hn2 hs hor
              exact wpS_pure (h n _ FS4 (by lia) hn2 hs)

theorem srt_bubble (O : TOrd ls) {xs : Array Keyed} {lo k p : Nat} (hz : lo + k < xs.size) (hp : p ≤ k) (hs : SrtOn ls xs lo (lo + k))
    (yes : ∀ q, lo ≤ q → q < lo + p → Le ls (G xs q) (G xs (lo + k))) (no : ∀ q, lo + p ≤ q → q < lo + k → Le ls (G xs (lo + k)) (G xs q)) :
    SrtOn ls (bubble xs (lo + k) (lo + k - (lo + p))) lo (lo + (k + 1)) := by
  have e0 : lo + k - (lo + k - (lo + p)) = lo + p := by lia
  have gb : ∀ q, G (bubble xs (lo + k) (lo + k - (lo + p))) q = if q = lo + p then G xs (lo + k) else if lo + p < q ∧ q ≤ lo + k then G xs (q - 1) else G xs q := by
    intro q
    have := G_bubble (d := lo + k - (lo + p)) hz (Nat.sub_le _ _) q
    rw [e0] at this; exact this
  clear hz e0
  intro i j hi hij hj
  rw [gb, gb]
  clear gb
  rcases Nat.lt_trichotomy i (lo + p) with h1 | h1 | h1
  · rw [if_neg (Nat.ne_of_lt h1), if_neg (fun z => Nat.lt_asymm h1 z.1)]
    rcases Nat.lt_trichotomy j (lo + p) with h2 | h2 | h2
    · rw [if_neg (Nat.ne_of_lt h2), if_neg (fun z => Nat.lt_asymm h2 z.1)]; exact hs _ _ hi hij (by lia)
    · rw [if_pos h2]; exact yes _ hi h1
    · rw [if_neg (Nat.ne_of_gt h2), if_pos ⟨h2, Nat.le_of_lt_succ hj⟩]; exact hs _ _ hi (by lia) (by lia)
  · rw [if_pos h1]
    rcases Nat.lt_trichotomy j (lo + p) with h2 | h2 | h2
    · exact absurd hij (by lia)
    · rw [if_pos h2]; exact O.rfl' _
    · rw [if_neg (Nat.ne_of_gt h2), if_pos ⟨h2, Nat.le_of_lt_succ hj⟩]; exact no _ (by lia) (by lia)
  · have h2 : lo + p < j := Nat.lt_of_lt_of_le h1 hij
    rw [if_neg (Nat.ne_of_gt h1), if_pos ⟨h1, Nat.le_trans hij (Nat.le_of_lt_succ hj)⟩, if_neg (Nat.ne_of_gt h2), if_pos ⟨h2, Nat.le_of_lt_succ hj⟩]
    exact hs _ _ (by lia) (by lia) (by lia)

theorem binarySort_sound (K : Ask M A E s κ ok ls) {st : SortSt} {lo n m : Nat} {Q : Bool → SortSt → Prop} (hk : kindOf st = κ) (ho : OkAll ok (arrOf st))
    (hn : lo + n ≤ (arrOf st).size) (h1 : 1 ≤ m) (hm : m ≤ n) (hs : SrtOn ls (arrOf st) lo (lo + m))
    (h : ∀ st', Same κ st st' lo (lo + n) → SrtOn ls (arrOf st') lo (lo + n) → Q true st') :
    wpS M A E s (binarySort' lo n m) Q st := by
  have O := K.ord
  rw [binarySort'_eq]
  refine wpS_bind (wpS_mono (wpS_forRange (I := fun x c st' => c = (none, ()) ∧ Same κ st st' lo (lo + n) ∧ SrtOn ls (arrOf st') lo (lo + x))
    (Q := fun c st' => c = (none, ()) ∧ Same κ st st' lo (lo + n) ∧ SrtOn ls (arrOf st') lo (lo + n)) ?step ?fin ?init) ?post)
  case init => exact ⟨rfl, Same.refl hk, by rw [show max m 1 = m by lia]; exact hs⟩
  case fin =>
    rintro c st' ⟨rfl, S, hs'⟩
    rw [show max (max m 1) n = n by lia] at hs'
    exact ⟨rfl, S, hs'⟩
  case post =>
    rintro c st' ⟨rfl, S, hs'⟩
    exact wpS_pure (h st' S hs')
  case step =>
    rintro k c st' hk1 hk2 ⟨rfl, S, hs'⟩
    have hz := S.size
    refine wpS_bind (bin_search (n := k) (f := fun i => !ls (G (arrOf st') (lo + k)) (G (arrOf st') (lo + i))) ?stop ?go ?fall (Nat.zero_le _) (Nat.le_refl _) ?c1 ?c2 ?fin2)
    case stop =>
      intro x l h' R hl hR
      dsimp only
      rw [if_pos hl]; exact wpS_pure hR
    case go =>
      intro x l h' R hl hh' hR
      dsimp only
      rw [if_neg (by lia)]
      rw [show l + (h' - l) / 2 = (l + h') / 2 by lia] at hR
      refine wpS_bind (ltAt_G K S.kind (S.okAll ho) (by lia) (by lia) ?_)
      dsimp only
      split
      case isTrue hb => rw [hb] at hR; exact wpS_pure hR
      case isFalse hb =>
        rw [show ls (G (arrOf st') (lo + k)) (G (arrOf st') (lo + (l + h') / 2)) = false by simpa using hb] at hR; exact wpS_pure hR
    case fall =>
      intro i j hij hj hf
      simp only [Bool.not_eq_true'] at hf ⊢
      exact O.trans (hs' (lo + i) (lo + j) (by lia) (by lia) (by lia)) hf
    case c1 => intro i hi; lia
    case c2 => intro i hi1 hi2; lia
    case fin2 =>
      intro p hp
      dsimp only
      have hp' := hp.le
      refine wpS_bind (down_G (wpS_pure ⟨rfl, S.set (bubble_perm _ _ _) ?_, ?_⟩))
      · intro q hq
        rw [G_bubble (by lia) (by lia), if_neg (by lia), if_neg (by lia)]
      · refine srt_bubble O (by lia) hp' hs' (fun q h1 h2 => ?_) (fun q h1 h2 => ?_)
        · have := hp.yes (q - lo) (by lia)
          rw [show lo + (q - lo) = q by lia] at this
          simpa using this
        · have := hp.no (q - lo) (by lia) (by lia)
          rw [show lo + (q - lo) = q by lia] at this
          exact O.le_of_lt (by simpa using this)
end
end Mine

set_option linter.unusedVariables false
namespace Mine
open PySem PyProof.Rows
section
variable {M : Model} {A : Around} {E : Value → Shared → Prop} {s : Shared} {κ : SortKind} {ok : Keyed → Prop} {ls : Keyed → Keyed → Bool}

/-- fewer than 64: one run -/
theorem sortRuns_sound (K : Ask M A E s κ ok ls) {st : SortSt} {Q : Unit → SortSt → Prop} (hk : kindOf st = κ) (ho : OkAll ok (arrOf st)) (hf : failedOf st = none) (hp : pendingOf st = #[])
    (h1 : 1 ≤ (arrOf st).size) (h64 : (arrOf st).size < 64)
    (h : ∀ st', (arrOf st').Perm (arrOf st) → failedOf st' = none → SrtOn ls (arrOf st') 0 (arrOf st).size → Q () st') : wpS M A E s sortRuns' Q st := by
  generalize hxs : arrOf st = xs at h h1 h64
  have hz : (arrOf st).size = xs.size := by rw [hxs]
  have hmr : minRun' xs.size xs.size 0 = xs.size := by
    obtain ⟨f, hf⟩ : ∃ f, xs.size = f + 1 := ⟨xs.size - 1, by lia⟩
    have : minRun' (f + 1) xs.size 0 = xs.size := by rw [minRun'_succ, if_pos h64]; rfl
    rwa [← hf] at this
  rw [sortRuns'_eq]
  refine wpS_bind (wpS_get ?_)
  simp only [hxs, hmr]
  refine wpS_bind (wpS_mono (wpS_forRange
    (I := fun x c st' => (x = 0 ∧ c = (none, 0) ∧ st' = st) ∨ (1 ≤ x ∧ c = (none, xs.size) ∧ (arrOf st').Perm xs ∧ failedOf st' = none ∧ SrtOn ls (arrOf st') 0 xs.size ∧ (pendingOf st').size = 1))
    (Q := fun c st' => c = (none, xs.size) ∧ (arrOf st').Perm xs ∧ failedOf st' = none ∧ SrtOn ls (arrOf st') 0 xs.size ∧ (pendingOf st').size = 1) ?step ?fin (.inl ⟨rfl, rfl, rfl⟩)) ?post)
  case fin =>
    rintro c st' (⟨hx, _, _⟩ | ⟨_, h⟩)
    · lia
    · exact h
  case step =>
    rintro x c st' _ hx (⟨rfl, rfl, rfl⟩ | ⟨hx1, rfl, hD⟩)
    · dsimp only
      rw [if_neg (by lia)]
      refine wpS_bind (countRun_sound K hk ho (by lia) (by lia) ?_)
      intro m st2 S2 hm1 hm2 hs2
      have hz2 := S2.size
      have fin : ∀ st3 : SortSt, Same κ st' st3 0 (0 + xs.size) → SrtOn ls (arrOf st3) 0 (0 + xs.size) → wpS M A E s (do modify fun s => setPending s ((pendingOf s).push (0, xs.size, 0)); pure (ForInStep.yield ((none : Option Unit), 0 + xs.size)))
          (fun r st'' => match r with
            | .done c' => c' = (none, xs.size) ∧ (arrOf st'').Perm xs ∧ failedOf st'' = none ∧ SrtOn ls (arrOf st'') 0 xs.size ∧ (pendingOf st'').size = 1
            | .yield c' => (0 + 1 = 0 ∧ c' = (none, 0) ∧ st'' = st') ∨ (1 ≤ 0 + 1 ∧ c' = (none, xs.size) ∧ (arrOf st'').Perm xs ∧ failedOf st'' = none ∧ SrtOn ls (arrOf st'') 0 xs.size ∧ (pendingOf st'').size = 1)) st3 := by
        intro st3 S3 hs3
        refine wpS_bind (wpS_modify (wpS_pure (.inr ⟨Nat.le_refl _, by rw [Nat.zero_add], hxs ▸ S3.perm, S3.fail.trans hf, by rw [Nat.zero_add] at hs3; exact hs3, ?_⟩)))
        show ((pendingOf st3).push _).size = 1
        rw [S3.pend, hp]; rfl
      by_cases hlt : m < xs.size
      · dsimp only
        rw [if_pos hlt]
        refine wpS_bind (wpS_lift (wpAny_rule ⟨rfl, ?_⟩))
        simp only [Nat.sub_zero, Nat.min_self]
        refine wpS_bind (binarySort_sound K S2.kind (S2.okAll ho) (by lia) hm1 (by lia) hs2 ?_)
        intro st3 S3 hs3
        have S3' := (S2.trans (S3.wide (Nat.le_refl _) (by lia)))
        simp only [Bool.not_true, Bool.false_eq_true, if_false]
        refine wpS_bind (wpS_get ?_)
        have hb : (pendingOf st3).back? = none := by rw [S3'.pend, hp]; rfl
        rw [hb]
        exact fin st3 S3' hs3
      · dsimp only
        rw [if_neg hlt]
        have hm : m = xs.size := by lia
        subst hm
        refine wpS_bind (wpS_get ?_)
        have hb : (pendingOf st2).back? = none := by rw [S2.pend, hp]; rfl
        rw [hb]
        exact fin st2 S2 hs2
    · dsimp only
      rw [if_pos (Nat.le_refl _)]
      exact wpS_pure ⟨rfl, hD⟩
  case post =>
    rintro c st' ⟨rfl, hP, hF, hS, hsz⟩
    dsimp only
    refine wpS_bind (wpS_mono (wpS_forRange (I := fun _ c st'' => st'' = st' ∧ c = (none, ())) (Q := fun c st'' => st'' = st' ∧ c = (none, ())) ?_ (fun _ _ hh => hh) ⟨rfl, rfl⟩) ?_)
    · rintro x c st'' _ _ ⟨rfl, rfl⟩
      refine wpS_bind (wpS_get ?_)
      rw [if_pos (by rw [hsz]; exact Nat.le_refl 1)]
      exact wpS_pure ⟨rfl, rfl⟩
    · rintro c st'' ⟨rfl, rfl⟩
      exact wpS_pure (h _ hP hF hS)
end
end Mine

set_option linter.unusedVariables false
namespace Mine
open PySem PySem.W PyProof.Rows

/-- the ints of a tuple in a heap -/
def kint (h : Heap) (v : Value) : List Int := match v with
  | .ref a => (match h.get? a with
    | some o => (match o.data with
      | .seq items _ => items.toList.map numOf
      | _ => [])
    | none => [])
  | _ => []
theorem numOf_ints : ∀ {vs : List Value} {l : List Int}, IntsAre vs l → vs.map numOf = l
  | _, _, .nil => rfl
  | _, _, .cons a t r => by rw [List.map_cons, numOf_ints r]; rfl
def kls (h : Heap) (x y : Keyed) : Bool := lexLt (kint h x.1) (kint h y.1)
theorem kls_ord (h : Heap) : TOrd (kls h) := ⟨fun x y e => lexLt_asymm _ _ e, fun x y z a b => lexLe_trans _ _ _ a b⟩
/-- a tuple of ints, not empty -/
def IntTup (h : Heap) (v : Value) : Prop := ∃ a o items n i l, v = .ref a ∧ h.get? a = some o ∧ o.cls = .type "tuple" ∧ o.data = .seq items n ∧ IntsAre items.toList (i :: l)
theorem IntTup.kint {h : Heap} {a : Addr} {o : Obj} {items : Array Value} {n : Nat} {l : List Int} (e : h.get? a = some o) (d : o.data = .seq items n) (hi : IntsAre items.toList l) : kint h (.ref a) = l := by
  unfold Mine.kint; simp only [e, d]; exact numOf_ints hi
theorem IntTup.mono {h h' : Heap} (hk : ∀ a o, h.get? a = some o → o.cls = .type "tuple" → h'.get? a = some o) {v : Value} (x : IntTup h v) : IntTup h' v ∧ Mine.kint h' v = Mine.kint h v := by
  obtain ⟨a, o, items, n, i, l, rfl, e, c, d, hi⟩ := x
  exact ⟨⟨a, o, items, n, i, l, rfl, hk _ _ e c, c, d, hi⟩, by rw [IntTup.kint (hk _ _ e c) d hi, IntTup.kint e d hi]⟩
theorem VRel.kint {F : Tab} {h : Heap} {v : Value} {l : List Int} (x : VRel F h v (.tup (ofInts l))) : Mine.kint h v = l := by
  cases x with
  | tup e c d r z => exact IntTup.kint e d r.ints
theorem VRels.kints {F : Tab} {h : Heap} : ∀ {vs : List Value} {xs : List Val}, VRels F h vs xs → sortable xs → (∀ v ∈ vs, IntTup h v) ∧ vs.map (Mine.kint h) = xs.map keyV
  | _, _, .nil, _ => ⟨by simp, rfl⟩
  | _, _, .cons (v := v) (a := a) x r, hs => by
    obtain ⟨h1, h2⟩ := VRels.kints r (fun y hy => hs y (List.mem_cons_of_mem _ hy))
    obtain ⟨i, is, rfl⟩ := hs a (List.mem_cons_self ..)
    refine ⟨fun w hw => ?_, ?_⟩
    · rcases List.mem_cons.mp hw with rfl | hw
      · cases x with
        | tup e c d r z => exact ⟨_, _, _, _, i, is, rfl, e, c, d, r.ints⟩
      · exact h1 w hw
    · rw [List.map_cons, List.map_cons, h2, VRel.kint x, keyV_tup]
theorem VRels.perm {F : Tab} {h : Heap} {out vs : List Value} (p : out.Perm vs) : ∀ {xs : List Val}, VRels F h vs xs → ∃ ys, VRels F h out ys ∧ ys.Perm xs := by
  induction p with
  | nil => intro xs r; exact ⟨xs, r, .refl _⟩
  | cons v _ ih =>
    intro xs r
    cases r with
    | cons x r =>
      obtain ⟨ys, r', p'⟩ := ih r
      exact ⟨_, .cons x r', p'.cons _⟩
  | swap v u l =>
    intro xs r
    cases r with
    | cons x r =>
      cases r with
      | cons y r => exact ⟨_, .cons y (.cons x r), .swap _ _ _⟩
  | trans _ _ ih1 ih2 =>
    intro xs r
    obtain ⟨ys, r', p'⟩ := ih2 r
    obtain ⟨zs, r'', p''⟩ := ih1 r'
    exact ⟨zs, r'', p''.trans p'⟩

theorem tups_of {h : Heap} : ∀ {vs : List Value}, (∀ v ∈ vs, IntTup h v) → ∃ fs, KatTups h vs fs ∧ fs.length = vs.length ∧ ∀ v ∈ fs, ∃ i t, v = .int i t
  | [], _ => ⟨[], trivial, rfl, by simp⟩
  | v :: vs, hv => by
    obtain ⟨fs, h1, h2, h3⟩ := tups_of (vs := vs) (fun u hu => hv u (List.mem_cons_of_mem _ hu))
    obtain ⟨a, o, items, n, i, l, rfl, e, c, d, hi⟩ := hv v (List.mem_cons_self ..)
    cases hit : items.toList with
    | nil => rw [hit] at hi; cases hi
    | cons x r =>
      rw [hit] at hi
      cases hi with
      | cons _ t hr =>
        refine ⟨.int i t :: fs, ⟨⟨a, o, items, n, rfl, e, c, d, ?_⟩, h1⟩, by simp [h2], fun u hu => ?_⟩
        · rw [← Array.getElem?_toList, hit]; rfl
        · rcases List.mem_cons.mp hu with rfl | hu
          · exact ⟨i, t, rfl⟩
          · exact h3 u hu

section
variable {prog : Program} {w : World} {F : Tab} {B : Heap} {env : Env} {ρ : Rho} {σ σ₁ σ' : Store} {s s₁ s' : Shared} {A : Around} {E : Value → Shared → Prop}

theorem kat_ints {Q : Bool → Shared → Prop} : ∀ {vs ws : List Value} {l m : List Int} (i : Nat), IntsAre vs l → IntsAre ws m → Q (lexLt l m) s →
    KatLex prog w A true (decide (vs.length < ws.length)) Q (vs.zip ws) i s
  | _, _, _, _, i, .nil, .nil, h => h
  | _, _, _, _, i, .nil, .cons a t r, h => by
    refine kat_nil ?_
    simpa [lexLt] using h
  | _, _, _, _, i, .cons a t r, .nil, h => by
    refine kat_nil ?_
    simpa [lexLt] using h
  | _, _, _, _, i, .cons a t (vs := v1) r, .cons b u (vs := v2) r', h => by
    refine kat_cons (wpAny_eqBool_int ?_)
    unfold lexLt at h
    by_cases e : a = b
    · rw [if_pos e] at h
      rw [show (a == b) = true by simpa using e]
      refine kat_yes ?_
      have := kat_ints (i + 1) r r' h
      simp only [List.length_cons, Nat.add_lt_add_iff_right]
      exact this
    · rw [if_neg e] at h
      rw [show (a == b) = false by simpa using e]
      refine kat_no ?_
      by_cases hi : i = 0
      · subst hi
        exact oneLt_int h
      · rw [show (true && i == 0) = false by simpa using hi]
        exact kat_one _ _ (P.lt_int h)

theorem ask_ints (κ : SortKind) (hκ : κ = tuples' true) : Ask (model prog w) A E s κ (fun x => IntTup s.heap x.1) (kls s.heap) := by
  refine ⟨kls_ord _, fun x y st Q hx hy hk hq => ?_⟩
  rw [lt'_eq]
  refine wpS_bind (wpS_get ?_)
  rw [hk, hκ]
  obtain ⟨a, o, items, n, i, l, ex, e, c, d, hi⟩ := hx
  obtain ⟨a', o', items', n', i', l', ey, e', c', d', hi'⟩ := hy
  unfold kls at hq
  rw [ex, ey] at hq ⊢
  rw [IntTup.kint e d hi, IntTup.kint e' d' hi'] at hq
  refine wpS_bind (wpS_lift (wpAny_attempt (kat_lt e d e' d' ?_)))
  exact kat_ints 0 hi hi' ⟨rfl, wpS_pure hq⟩

theorem list_sort_any {a : Addr} {vs : List Value} {n : Nat} {P : PySem.Fin → Shared → Prop} (ho : s.heap.get? a = some (seqObj "list" vs.toArray n))
    (hv : ∀ v ∈ vs, IntTup s.heap v) (hz : vs.length ≤ sizeLine) (h64 : vs.length < 64)
    (h : ∀ out : List Value, out.Perm vs → out.Pairwise (fun v u => lexLt (kint s.heap u) (kint s.heap v) = false) → P (.done (.ret .none)) { s with heap := sortedHeap s.heap a vs out.toArray }) :
    wpAny (model prog w) A (Builtin.«list.sort» ⟨[.ref a], []⟩) P E s := by
  rw [list_sort_plain]
  have ha : a < s.heap.objs.size := Heap.lt_size ho
  refine wpAny_bind (listItems_at ho rfl ?_)
  refine wpAny_bind (listUpdate_at ho rfl ?_ (by rw [List.size_toArray]; exact hz) (Nat.zero_le _))
  obtain ⟨e1, ho1⟩ : ∃ e1, (s.heap.update a (Obj.mapSeq fun _ => #[])).get? a = some (seqObj "list" #[] e1) := ⟨_, get?_update_seq ho (fun _ => #[])⟩
  refine wpAny_bind (seqEpoch_at ho1 rfl ?_)
  refine wpAny_bind (wpAny_newTuple ?_ hz)
  refine wpAny_bind (wpAny_newList ?_ (Nat.zero_le _))
  refine wpAny_holding ?_
  have ho6 : (((s.heap.update a (Obj.mapSeq fun _ => #[])).push (seqObj "tuple" vs.toArray 0)).push (seqObj "list" #[] 0)).get? a = some (seqObj "list" #[] e1) := by
    rw [Heap.get?_push_ne _ _ _ (by rw [size_push', Heap.size_update]; exact Nat.ne_of_lt (Nat.lt_succ_of_lt ha)), Heap.get?_push_ne _ _ _ (by rw [Heap.size_update]; exact Nat.ne_of_lt ha)]
    exact ho1
  have keep : ∀ b o, s.heap.get? b = some o → o.cls = .type "tuple" → (((s.heap.update a (Obj.mapSeq fun _ => #[])).push (seqObj "tuple" vs.toArray 0)).push (seqObj "list" #[] 0)).get? b = some o := by
    intro b o e c
    have hne : b ≠ a := by
      rintro rfl
      rw [ho] at e; cases e
      revert c; simp
    refine Heap.get?_push_of_some _ (Heap.get?_push_of_some _ ?_)
    rw [Heap.get?_update_ne _ _ _ _ hne]; exact e
  show wpAny (model prog w) A _ P E { s with heap := ((s.heap.update a (Obj.mapSeq fun _ => #[])).push (seqObj "tuple" vs.toArray 0)).push (seqObj "list" #[] 0) }
  dsimp only
  generalize hh6 : ((s.heap.update a (Obj.mapSeq fun _ => #[])).push (seqObj "tuple" vs.toArray 0)).push (seqObj "list" #[] 0) = h6 at ho6 keep ⊢
  have hv6 : ∀ v ∈ vs, IntTup h6 v ∧ kint h6 v = kint s.heap v := fun v hm => (hv v hm).mono keep
  have hsh : ∀ out, sortedHeap s.heap a vs out = h6.update a (Obj.mapSeq fun _ => out) := fun out => by rw [← hh6]; rfl
  have hsz : vs.toArray.size = vs.length := by simp
  have ezip : (vs.toArray.zip vs.toArray).toList = vs.map fun v => (v, v) := by
    simp [List.zip_eq_zipWith, List.zipWith_self]
  by_cases h2 : vs.toArray.size < 2
  · rw [if_pos h2, if_pos h2]
    refine wpAny_bind (wpAny_pure ?_)
    rw [StateT.run_pure]
    refine wpAny_bind (wpAny_pure ?_)
    dsimp only
    have em : (arrOf (SortSt.mk' general' (vs.toArray.zip vs.toArray) #[] 7 none)).map (·.2) = vs.toArray := by
      apply Array.toList_inj.mp
      show ((vs.toArray.zip vs.toArray).map (·.2)).toList = _
      rw [Array.toList_map, ezip, List.map_map]; simp [Function.comp_def]
    refine wpAny_bind (seqEpoch_at ho6 rfl ?_)
    rw [em]
    refine wpAny_bind (listUpdate_at ho6 rfl ?_ (Nat.zero_le _) (by rw [hsz]; lia))
    simp only [bne_self_eq_false, Bool.false_eq_true, if_false]
    refine wpAny_pure ?_
    rw [← hsh]
    refine h vs (.refl _) ?_
    match vs, h2 with
    | [], _ => exact .nil
    | [v], _ => exact List.pairwise_singleton _ _
    | _ :: _ :: _, h2 => exfalso; simp at h2; lia
  · rw [if_neg h2, if_neg h2]
    have h2' : 2 ≤ vs.length := by lia
    obtain ⟨fs, t1, t2, t3⟩ := tups_of (fun v hm => (hv6 v hm).1)
    refine wpAny_bind (kat_kind (T := .type "int") t1 (by lia) (fun v hm => ?_) rfl ?_)
    · obtain ⟨i, t, rfl⟩ := t3 v hm
      exact Looks.of_pure rfl
    have oks : OkAll (fun x : Keyed => IntTup h6 x.1) (vs.toArray.zip vs.toArray) := by
      intro x hx
      rw [ezip] at hx
      obtain ⟨v, hm, rfl⟩ := List.mem_map.mp hx
      exact (hv6 v hm).1
    have hzs : (vs.toArray.zip vs.toArray).size = vs.length := by rw [← Array.length_toList, ezip, List.length_map]
    refine wpAny_bind (wpAny_mono (sortRuns_sound (st := SortSt.mk' (tuples' (Value.type "int" != Value.type "tuple")) (vs.toArray.zip vs.toArray) #[] 7 none)
      (Q := fun _ st' => (arrOf st').Perm (vs.toArray.zip vs.toArray) ∧ failedOf st' = none ∧ SrtOn (kls h6) (arrOf st') 0 (vs.toArray.zip vs.toArray).size)
      (ask_ints (s := { s with heap := h6 }) _ (by rfl)) rfl oks rfl rfl (by show 1 ≤ (vs.toArray.zip vs.toArray).size; lia) (by show (vs.toArray.zip vs.toArray).size < 64; lia) fun st' a1 a2 a3 => ⟨a1, a2, a3⟩) ?_ fun _ _ e => e)
    rintro ⟨⟨⟩, st'⟩ s' ⟨rfl, hp, hf, hs⟩
    dsimp only
    have hpl := Array.perm_iff_toList_perm.mp hp
    have hasz : (arrOf st').size = vs.length := hp.size_eq.trans hzs
    refine wpAny_bind (seqEpoch_at ho6 rfl ?_)
    refine wpAny_bind (listUpdate_at ho6 rfl ?_ (Nat.zero_le _) (by rw [Array.size_map, hasz]; lia))
    rw [hf]
    simp only [bne_self_eq_false, Bool.false_eq_true, if_false]
    refine wpAny_pure ?_
    have eo : (arrOf st').map (·.2) = ((arrOf st').toList.map (·.2)).toArray := by
      apply Array.toList_inj.mp; simp
    rw [eo]
    show P _ { s with heap := h6.update a (Obj.mapSeq fun _ => ((arrOf st').toList.map (·.2)).toArray) }
    rw [← hsh]
    refine h _ ?_ ?_
    · have := hpl.map (·.2)
      rw [ezip, List.map_map] at this
      simpa [Function.comp_def] using this
    · have hmem : ∀ x ∈ (arrOf st').toList, x.2 ∈ vs ∧ x.1 = x.2 := by
        intro x hx
        have := hpl.mem_iff.mp hx
        rw [ezip] at this
        obtain ⟨v, hm, rfl⟩ := List.mem_map.mp this
        exact ⟨hm, rfl⟩
      rw [List.pairwise_map]
      rw [List.pairwise_iff_getElem]
      intro i j hi hj hij
      have hi' : i < (arrOf st').size := by simpa using hi
      have hj' : j < (arrOf st').size := by simpa using hj
      have hl := hs i j (Nat.zero_le _) (Nat.le_of_lt hij) (by lia)
      rw [G_get hi', G_get hj'] at hl
      have m1 := hmem _ (List.getElem_mem hi)
      have m2 := hmem _ (List.getElem_mem hj)
      rw [← (hv6 _ m1.1).2, ← (hv6 _ m2.1).2, ← m1.2, ← m2.2]
      have hl' : kls h6 (arrOf st')[j] (arrOf st')[i] = false := hl
      unfold kls at hl'
      simpa using hl'

theorem sorted_sound {p : Addr} {xs : List Val} {Q : VPost} (hh : A.handled = none) (hu : A.units + 70 < cLine) (S : St prog w F B env ρ σ s) (hp : σ p = some (.list xs)) (hs : sortable xs) (h64 : xs.length < 64)
    (h : ∀ c, σ c = none → Q (.ref c) (σ.set c (.list (sortV xs)))) : wpAny (model prog w) A (call (.builtin "sorted") [.ref p]) (EvP prog w F B env ρ σ s Q) E s := by
  obtain ⟨items, n, e, r, z⟩ := S.listAt hp
  have hlen := r.length
  have hzl : items.toList.length ≤ sizeLine := by rw [hlen]; exact Nat.le_trans z cap_line
  obtain ⟨hv, hk⟩ := r.kints hs
  refine Calls.call_function_entry kind_sorted plain_sorted entry_sorted (args_sorted1 _) ?_
  unfold Builtin.«sorted»
  refine wpAny_bind (m := checkCount "sorted" 1 1 _) (wpAny_pure ?_)
  refine wpAny_bind (collect_list (vs := items.toList) ⟨_, e, rfl, n, by simp⟩ ?_ hzl)
  refine wpAny_bind (wpAny_newList ?_ hzl)
  have hsz : ((s.heap.push (seqObj "list" #[] 0)).update s.heap.objs.size (Obj.mapSeq (· ++ items.toList.toArray))).objs.size = s.heap.objs.size + 1 := by
    rw [Heap.size_update, size_push']
  have hoL : (((s.heap.push (seqObj "list" #[] 0)).update s.heap.objs.size (Obj.mapSeq (· ++ items.toList.toArray))).push (seqObj "list" items.toList.toArray 0)).get? (s.heap.objs.size + 1) = some (seqObj "list" items.toList.toArray 0) := by
    rw [← hsz]; exact Heap.get?_push_size _ rfl
  have keep : ∀ b o, s.heap.get? b = some o → (((s.heap.push (seqObj "list" #[] 0)).update s.heap.objs.size (Obj.mapSeq (· ++ items.toList.toArray))).push (seqObj "list" items.toList.toArray 0)).get? b = some o := fun b o q => by
    have hlt : b < s.heap.objs.size := Heap.lt_size q
    rw [Heap.get?_push_ne _ _ _ (by rw [hsz]; exact Nat.ne_of_lt (Nat.lt_succ_of_lt hlt)), Heap.get?_update_ne _ _ _ _ (Nat.ne_of_lt hlt), Heap.get?_push_ne _ _ _ (Nat.ne_of_lt hlt)]
    exact q
  show wpAny _ _ _ _ _ { s with heap := ((s.heap.push (seqObj "list" #[] 0)).update s.heap.objs.size (Obj.mapSeq (· ++ items.toList.toArray))).push (seqObj "list" items.toList.toArray 0) }
  rw [hsz]
  generalize ((s.heap.push (seqObj "list" #[] 0)).update s.heap.objs.size (Obj.mapSeq (· ++ items.toList.toArray))).push (seqObj "list" items.toList.toArray 0) = h1 at hoL keep ⊢
  refine wpAny_bind (wpAny_holding (wpAny_call_entry slot_list_sort ⟨_, hoL, rfl⟩ entry_list_sort ?body (args_list_sort _)))
  case body =>
    have hv1 : ∀ v ∈ items.toList, IntTup h1 v ∧ kint h1 v = kint s.heap v := fun v hm => (hv v hm).mono fun a o e _ => keep a o e
    refine list_sort_any (s := { s with heap := h1 }) hoL (fun v hm => (hv1 v hm).1) hzl (by rw [hlen]; exact h64) fun out op os => ⟨_, rfl, wpAny_pure ⟨_, rfl, ?_⟩⟩
    have hc : s.heap.get? (s.heap.objs.size + 1) = none := by
      cases e : s.heap.get? (s.heap.objs.size + 1) with
      | none => rfl
      | some o => exact absurd (Heap.lt_size e) (Nat.not_lt.mpr (Nat.le_succ _))
    have hlt1 : s.heap.objs.size + 1 < h1.objs.size := Heap.lt_size hoL
    have keepF : ∀ b o, s.heap.get? b = some o → (sortedHeap h1 (s.heap.objs.size + 1) items.toList out.toArray).get? b = some o := by
      intro b o q
      have hlt : b < s.heap.objs.size := Heap.lt_size q
      have hne : b ≠ s.heap.objs.size + 1 := Nat.ne_of_lt (Nat.lt_succ_of_lt hlt)
      unfold sortedHeap
      rw [Heap.get?_update_ne _ _ _ _ hne]
      refine Heap.get?_push_of_some _ (Heap.get?_push_of_some _ ?_)
      rw [Heap.get?_update_ne _ _ _ _ hne]; exact keep b o q
    obtain ⟨e1, ho1⟩ : ∃ e1, (h1.update (s.heap.objs.size + 1) (Obj.mapSeq fun _ => #[])).get? (s.heap.objs.size + 1) = some (seqObj "list" #[] e1) := ⟨_, get?_update_seq hoL (fun _ => #[])⟩
    obtain ⟨e2, ho2⟩ : ∃ e2, (sortedHeap h1 (s.heap.objs.size + 1) items.toList out.toArray).get? (s.heap.objs.size + 1) = some (seqObj "list" out.toArray e2) := by
      have ho6 : (((h1.update (s.heap.objs.size + 1) (Obj.mapSeq fun _ => #[])).push (seqObj "tuple" items.toList.toArray 0)).push (seqObj "list" #[] 0)).get? (s.heap.objs.size + 1) = some (seqObj "list" #[] e1) :=
        Heap.get?_push_of_some _ (Heap.get?_push_of_some _ ho1)
      exact ⟨_, get?_update_seq ho6 (fun _ => out.toArray)⟩
    obtain ⟨ys, ry, py⟩ := VRels.perm op r
    have hsy : sortable ys := fun y hy => hs y (py.mem_iff.mp hy)
    have eys : ys = sortV xs := by
      refine sorted_unique hs py ?_
      have hk2 := (VRels.kints ry hsy).2
      have os' : (out.map (kint s.heap)).Pairwise (fun a b => lexLt b a = false) := by
        rw [List.pairwise_map]
        refine os.imp_of_mem fun {a b} ha hb hab => ?_
        rw [(hv1 a (op.mem_iff.mp ha)).2, (hv1 b (op.mem_iff.mp hb)).2] at hab
        exact hab
      rw [hk2, List.pairwise_map] at os'
      exact os'.imp fun {a b} hab => by unfold vLe vLt; rw [hab]; rfl
    subst eys
    have hol : ORel prog w F (sortedHeap h1 (s.heap.objs.size + 1) items.toList out.toArray) (s.heap.objs.size + 1) (.list (sortV xs)) :=
      ⟨out.toArray, e2, ho2, ry.mono fun a o e _ => keepF a o e, by rw [py.length_eq]; exact z⟩
    obtain ⟨h1', h2', h3'⟩ := S.alloc (tk := s.toks) (h' := sortedHeap h1 (s.heap.objs.size + 1) items.toList out.toArray) (fun a o _ e => keepF a o e) (fun m hn => hn.at' fun o e => keepF _ o e) hc hol
    exact ⟨_, _, .ref _, h2', h3', h _ h1'⟩
end
end Mine

set_option linter.unusedVariables false
namespace Mine
open PySem PySem.W PyProof.Rows

section
variable {prog : Program} {w : World} {F : Tab} {B : Heap} {env : Env} {ρ : Rho} {σ σ₁ σ' : Store} {s s₁ s' : Shared} {A : Around} {E : Value → Shared → Prop}

theorem St.rawP (S : St prog w F B env ρ σ s) {d : Addr} {es : List ((Int × Int) × Val)} (h : σ d = some (.dictP es)) :
    ∃ ens ep, RawDict s.heap d ens ep ∧ ens.size = es.length ∧ VRels F s.heap (ens.toList.map (·.key)) (es.map fun e => pairV e.1) ∧ es.length ≤ cap := by
  obtain ⟨xs, ⟨o, ens, ep, e1, e2, e3, e4, e5, e6⟩, hR, hz⟩ := (S.inv.obj d _ h).2
  have hl := hR.length
  have hs : ens.size = es.length := by rw [← Array.length_toList, e4, List.length_map, hl]
  refine ⟨ens, ep, ⟨o, e1, e2, e3⟩, hs, ?_, hz⟩
  rw [e4, List.map_map]
  clear e6 e4 hs hl e1 e2 e3 hz h
  induction xs generalizing es with
  | nil => cases es with
    | nil => exact .nil
    | cons _ _ => exact hR.elim
  | cons x xs ih => cases es with
    | nil => exact hR.elim
    | cons e es =>
      obtain ⟨h1, h2, h3⟩ := hR
      refine .cons ?_ (ih (fun y hy => e5 y (.tail _ hy)) h3)
      have hk := e5 x (.head _)
      obtain ⟨ob, items, n, g1, g2, g3, g4⟩ := hk
      rw [h1] at g4
      have hv : VRels F s.heap items.toList [.int e.1.1, .int e.1.2] ∧ items.size ≤ cap := by
        have hl := g4.length
        have hc : cap = 1000000 := rfl
        simp only [List.length_cons, List.length_nil, Array.length_toList] at hl
        refine ⟨?_, by lia⟩
        generalize items.toList = l at g4
        cases g4 with
        | cons k1 g4 =>
          cases g4 with
          | cons k2 g4 =>
          cases g4
          obtain ⟨t1, rfl⟩ := Value.isInt_shape k1
          obtain ⟨t2, rfl⟩ := Value.isInt_shape k2
          exact .cons (.int _ _) (.cons (.int _ _) .nil)
      exact .tup g1 g2 g3 hv.1 hv.2

theorem St.ext {h' : Heap} {tk : Nat} (S : St prog w F B env ρ σ s) (hk : ∀ a o, s.heap.get? a = some o → h'.get? a = some o) :
    St prog w F B env ρ σ { s with heap := h', toks := tk } ∧ GoE env σ s σ { s with heap := h', toks := tk } :=
  S.more (fun a o _ e => hk a o e) fun m hn => hn.at' fun o e => hk _ o e

theorem isInst_sound {v c : Val} {vv vc : Value} {b : Bool} {Q : VPost} (S : St prog w F B env ρ σ s) (hv : VRel F s.heap vv v) (hc : VRel F s.heap vc c) (hb : isInst σ v c = some b) (h : Q (.bool b) σ) :
    wpAny (model prog w) A (call (.builtin "isinstance") [vv, vc]) (EvP prog w F B env ρ σ s Q) E s := by
  unfold isInst at hb
  split at hb
  · rename_i T
    cases hc
    split at hb
    · rename_i hT; subst hT
      split at hb
      · cases hb; cases hv; exact IsiPair.int_int (EvP.now S (.bool _) h)
      · cases hb; cases hv; exact IsiPair.bool_int (EvP.now S (.bool _) h)
      · cases hb; cases hv with | tup e c d r z => exact IsiPair.tuple_int e c (EvP.pure S _ (.bool _) h)
      · cases hb
    · split at hb
      · rename_i hT; subst hT
        split at hb
        · cases hb; cases hv; exact IsiPair.int_bool (EvP.pure S _ (.bool _) h)
        · cases hb; cases hv; exact IsiPair.bool_bool (EvP.now S (.bool _) h)
        · cases hb; cases hv with | tup e c d r z => exact IsiPair.tuple_bool e c (EvP.pure S _ (.bool _) h)
        · cases hb
      · split at hb
        · rename_i hT; subst hT
          split at hb
          · cases hb; cases hv; exact IsiPair.int_tuple (EvP.pure S _ (.bool _) h)
          · cases hb; cases hv; exact IsiPair.bool_tuple (EvP.pure S _ (.bool _) h)
          · cases hb; cases hv with | tup e c d r z => exact IsiPair.tuple_tuple e c (EvP.now S (.bool _) h)
          · cases hb
        · split at hb
          · rename_i hT; subst hT
            split at hb
            · split at hb
              · rename_i p xs hp
                cases hb; cases hv
                obtain ⟨i1, n1, e1, r1, z1⟩ := S.listAt hp
                exact IsiPair.list_list e1 rfl (EvP.now S (.bool _) h)
              · cases hb
            · cases hb
          · cases hb
  · cases hb

theorem callBlt_sound {id : String} {vs : List Val} {vals : List Value} {Q : VPost} {calm : Bool} (hB : ∃ o, B.get? sysModules = some o) (hu : A.units + 70 < cLine) (hh : calm = true → A.handled = none) (S : St prog w F B env ρ σ s)
    (hv : VRels F s.heap vals vs) (h : callBlt calm id vs σ Q) : wpAny (model prog w) A (call (.builtin id) vals) (EvP prog w F B env ρ σ s Q) E s := by
  have hc : cap = 1000000 := rfl
  unfold callBlt at h
  split at h
  · rename_i hid; subst hid
    split at h
    · rename_i ys
      obtain ⟨_, rfl, hv1⟩ := hv.one
      obtain ⟨_, _, _, _, rfl, e, c, d, r, z⟩ := hv1.toTup
      rename_i n
      have hl := r.length
      simp only [Array.length_toList] at hl
      refine len_tuple ⟨_, e, c, n, d⟩ (by lia) ?_
      rw [hl]; exact EvP.pure S _ (.int _ _) h
    · rename_i l
      obtain ⟨_, rfl, hv1⟩ := hv.one
      obtain ⟨_, rfl, e⟩ := hv1.toScr
      obtain ⟨items, ⟨o, e1, c1, n, d1⟩, e2, e3⟩ := S.inv.scr _ _ e
      have hl := (VRels.ofInts (F := F) (h := s.heap) e2).length
      simp only [Array.length_toList, ofInts, List.length_map] at hl
      refine len_list ⟨o, S.inv.keep _ _ e1, c1, n, d1⟩ (by lia) ?_
      rw [hl]; exact EvP.pure S _ (.int _ _) h
    · exact h.elim
  · split at h
    · rename_i hid; subst hid
      split at h
      · rename_i v c
        obtain ⟨_, _, rfl, h1, h2⟩ := hv.two
        split at h
        · rename_i b hb
          exact isInst_sound S h1 h2 hb h
        · exact h.elim
      · exact h.elim
    · split at h
      · rename_i hid; subst hid
        split at h
        · rename_i p
          obtain ⟨_, rfl, hv1⟩ := hv.one
          obtain rfl := hv1.toRef
          split at h
          · rename_i xs hp
            exact sorted_sound (hh h.1.1) hu S hp h.1.2.1 h.1.2.2 h.2
          · exact h.elim
        · exact h.elim
      · exact h.elim

theorem callTyp_sound {T : String} {vs : List Val} {vals : List Value} {Q : VPost} {calm : Bool} (hB : ∃ o, B.get? sysModules = some o) (hh : calm = true → A.handled = none) (S : St prog w F B env ρ σ s)
    (hv : VRels F s.heap vals vs) (h : callTyp calm T vs σ Q) : wpAny (model prog w) A (call (.type T) vals) (EvP prog w F B env ρ σ s Q) E s := by
  have hc : cap = 1000000 := rfl
  have hcl := cap_line
  unfold callTyp at h
  split at h
  · rename_i hT; subst hT
    split at h
    · rename_i n
      obtain ⟨_, rfl, hv1⟩ := hv.one
      obtain ⟨t, rfl⟩ := hv1.toInt
      refine call_range_1 ?_
      obtain ⟨S', g⟩ := S.push { cls := .type "range", data := .fields #[.int 0 s.toks, .int n t, .int 1 (s.toks + 1)] } (s.toks + 1 + 1)
      exact ⟨_, σ, .rng (IsRange.new ..) (Int.le_refl _) (by lia) h.1, S', g, h.2⟩
    · exact h.elim
  · split at h
    · rename_i hT; subst hT
      split at h
      · rename_i p
        obtain ⟨_, rfl, hv1⟩ := hv.one
        obtain rfl := hv1.toRef
        have hnew : s.heap.get? s.heap.objs.size = none := by
          cases e : s.heap.get? s.heap.objs.size with
          | none => rfl
          | some o => exact absurd (Heap.lt_size e) (Nat.lt_irrefl _)
        split at h
        · rename_i xs hp
          obtain ⟨i1, n1, e1, r1, z1⟩ := S.listAt hp
          have hl := r1.length
          simp only [Array.length_toList] at hl
          refine call_list_seq p (.inl rfl) e1 rfl rfl (fun h' c' hk hS' => ?_) (by lia)
          obtain ⟨h1, h2, h3⟩ := S.alloc (tk := s.toks) (h' := h') (ao := .list xs) (fun a o _ e => hk a o e) (fun m hn => hn.at' fun o e => hk _ o e) hnew ⟨_, _, hS', r1.mono fun a o e _ => hk a o e, z1⟩
          exact ⟨_, _, .ref _, h2, h3, h _ h1⟩
        · exact h.elim
      · exact h.elim
    · split at h
      · rename_i hT; subst hT
        split at h
        · rename_i p
          obtain ⟨_, rfl, hv1⟩ := hv.one
          obtain rfl := hv1.toRef
          split at h
          · rename_i xs hp
            obtain ⟨i1, n1, e1, r1, z1⟩ := S.listAt hp
            have hl := r1.length
            simp only [Array.length_toList] at hl
            refine call_tuple_list ⟨_, e1, rfl, n1, rfl⟩ (fun h' hk => ?_) (by lia)
            obtain ⟨S', g⟩ := S.ext (tk := s.toks) (h' := h'.push { cls := .type "tuple", data := .seq i1 }) fun a o e => Heap.get?_push_of_some _ (hk a o e)
            exact ⟨_, σ, .tup (Heap.get?_push_size _ rfl) rfl rfl (S.vals g r1) (by lia), S', g, h⟩
          · exact h.elim
        · exact h.elim
      · exact h.elim
end
end Mine

set_option linter.unusedVariables false
namespace Mine
open PySem PySem.W PyProof.Rows
section
variable {prog : Program} {w : World} {F : Tab} {B : Heap} {env : Env} {ρ : Rho} {σ σ₁ σ' : Store} {s s₁ s' : Shared} {A : Around} {E : Value → Shared → Prop}

/-- a list of the store turns -/
theorem EvP.turnL {Q : VPost} {p : Addr} {xs ys : List Val} {items items' : Array Value} {n : Nat} {f : Array Value → Array Value} (S : St prog w F B env ρ σ s) (hp : σ p = some (.list xs))
    (e1 : s.heap.get? p = some { cls := .type "list", data := .seq items n }) (hf : f items = items') (hr : ∀ h', VRels F h' items.toList xs → (∀ v a, VRel F s.heap v a → VRel F h' v a) → VRels F h' items'.toList ys) (hr0 : VRels F s.heap items.toList xs) (hz : ys.length ≤ cap)
    (h : Q .none (σ.set p (.list ys))) : EvP prog w F B env ρ σ s Q .none { s with heap := s.heap.update p (Obj.mapSeq f), toks := s.toks } := by
  have hk : ∀ a o, a ≠ p → s.heap.get? a = some o → (s.heap.update p (Obj.mapSeq f)).get? a = some o := fun a o hne e => (Heap.get?_update_ne _ _ _ _ hne).trans e
  have ep : ∃ n', (s.heap.update p (Obj.mapSeq f)).get? p = some { cls := .type "list", data := .seq (f items) n' } := ⟨_, (Heap.get?_update_self _ e1 rfl).trans (by simp [Obj.mapSeq]; rfl)⟩
  have fz : ∀ a o, s.heap.get? a = some o → Frozen o → (s.heap.update p (Obj.mapSeq f)).get? a = some o := fun a o e hf => hk a o (by rintro rfl; rw [e1] at e; cases e; simp [Frozen] at hf) e
  obtain ⟨n', ep⟩ := ep
  obtain ⟨S', g⟩ := S.turn (tk := s.toks) hp nofun hk (ao := .list ys) ⟨_, _, ep, by rw [hf]; exact hr _ (hr0.mono fz) fun v a q => q.mono fz, hz⟩
  exact ⟨_, _, .none, S', g, h⟩

def listId (n : Str) : Option String := if n = "append" then some "list.append" else none
def dictId (n : Str) : Option String := if n = "keys" then some "dict.keys" else if n = "get" then some "dict.get" else if n = "setdefault" then some "dict.setdefault" else none
theorem listId_slot {n : Str} {id : String} (h : listId n = some id) : Slot "list" n id ∧ typeOf (.builtin id) = pure (.type "method_descriptor") := by
  unfold listId at h
  split at h
  · rename_i e; subst e; cases h; exact ⟨PySem.F.slot_list_append, PySem.F.type_list_append⟩
  · cases h
theorem dictId_slot {n : Str} {id : String} (h : dictId n = some id) : Slot "dict" n id ∧ typeOf (.builtin id) = pure (.type "method_descriptor") := by
  unfold dictId at h
  split at h
  · rename_i e; subst e; cases h; exact ⟨PySem.F.slot_dict_keys, PySem.F.type_dict_keys⟩
  · split at h
    · rename_i e; subst e; cases h; exact ⟨PySem.F.slot_dict_get, PySem.F.type_dict_get⟩
    · split at h
      · rename_i e; subst e; cases h; exact ⟨PySem.F.slot_dict_setdefault, PySem.F.type_dict_setdefault⟩
      · cases h
theorem listMeth_sound {p : Addr} {n : Str} {id : String} {vs : List Val} {vals : List Value} {Q : VPost} (hid : listId n = some id) (S : St prog w F B env ρ σ s) (hv : VRels F s.heap vals vs) (h : listMeth p n vs σ Q) :
    wpAny (model prog w) A (call (.builtin id) (.ref p :: vals)) (EvP prog w F B env ρ σ s Q) E s := by
  have hc : cap = 1000000 := rfl
  have hcl := cap_line
  unfold listMeth at h
  split at h
  · rename_i xs hp
    obtain ⟨i1, n1, e1, r1, z1⟩ := S.listAt hp
    have hl := r1.length
    simp only [Array.length_toList] at hl
    split at h
    · rename_i hn; subst hn
      split at h
      · rename_i v
        obtain ⟨x, rfl, h1⟩ := hv.one
        have : id = "list.append" := by simpa [listId] using hid.symm
        subst this
        refine call_meets PySem.F.slot_list_append ⟨_, e1, rfl⟩ PySem.F.entry_list_append (PySem.F.args_list_append_2 _ _) (list_append p i1 n1 x (by lia)) ⟨e1, ?_⟩
        refine EvP.turnL S hp e1 (items' := i1.push x) rfl (fun h' r hm => ?_) r1 (by simp; lia) h.2
        simpa using r.append (.cons (hm _ _ h1) .nil)
      · exact h.elim
    · exact h.elim
  · exact h.elim

theorem DictOfH.nil_int {h : Heap} {d : Addr} (hD : h.DictOfH (tupleKind (intKind prog w)) d []) : h.DictOf (intKind prog w) d [] := by
  obtain ⟨o, ens, ep, e1, e2, e3, e4, e5, e6⟩ := hD
  have : ens = #[] := by
    have : ens.toList = [] := by simpa using e4
    simpa using this
  subst this
  exact ⟨o, #[], ep, e1, e2, e3, fun e he => by simp at he, .nil, List.nodup_nil⟩
theorem PRel.nil {h : Heap} {xs : List (List Int × Addr × Value)} (r : PRel F h xs []) : xs = [] := by
  cases xs with
  | nil => rfl
  | cons _ _ => exact r.elim
theorem IRel.at {h : Heap} {k : Int} : ∀ {xs : List (Int × Value)} {es : List (Int × Val)}, IRel F h xs es →
    (∀ v, lookI k es = some v → ∃ p, valueAt xs k = some p ∧ VRel F h p v) ∧ (lookI k es = none → valueAt xs k = none)
  | [], [], _ => ⟨fun v e => by simp [lookI] at e, fun _ => rfl⟩
  | x :: xs, e :: es, ⟨h1, h2, h3⟩ => by
    have ih := IRel.at (k := k) h3
    by_cases hk : e.1 = k
    · refine ⟨fun v hv => ?_, fun hv => ?_⟩
      · simp only [lookI, hk, if_true, Option.some.injEq] at hv
        subst hv
        exact ⟨x.2, by simp [valueAt, h1, hk], h2⟩
      · simp [lookI, hk] at hv
    · simp only [lookI, if_neg hk]
      simpa [valueAt, h1, hk] using ih
theorem IRel.length {h : Heap} : ∀ {xs : List (Int × Value)} {es : List (Int × Val)}, IRel F h xs es → xs.length = es.length
  | [], [], _ => rfl
  | _ :: _, _ :: _, ⟨_, _, r⟩ => by simp [IRel.length r]
theorem IRel.snoc {h : Heap} {x : Int × Value} {e : Int × Val} (h1 : x.1 = e.1) (h2 : VRel F h x.2 e.2) : ∀ {xs : List (Int × Value)} {es : List (Int × Val)}, IRel F h xs es → IRel F h (xs ++ [x]) (es ++ [e])
  | [], [], _ => ⟨h1, h2, trivial⟩
  | _ :: _, _ :: _, ⟨a, b, r⟩ => ⟨a, b, IRel.snoc h1 h2 r⟩
theorem stored_new {xs : List (Int × Value)} {k : Int} {v : Value} (h : valueAt xs k = none) : stored xs k v = xs ++ [(k, v)] := by
  unfold stored
  rw [if_neg]
  intro hq
  rw [List.any_eq_true] at hq
  obtain ⟨y, hy, he⟩ := hq
  unfold valueAt at h
  have h' : xs.find? (fun x => decide (x.1 = k)) = none := by simpa using h
  have := List.find?_eq_none.mp h' y hy
  exact this he

theorem dictMeth_sound {p : Addr} {n : Str} {id : String} {vs : List Val} {vals : List Value} {Q : VPost} (hid : dictId n = some id) (hB : ∃ o, B.get? sysModules = some o) (hu : A.units + 70 < cLine) (S : St prog w F B env ρ σ s) (hv : VRels F s.heap vals vs) (h : dictMeth p n vs σ Q) :
    wpAny (model prog w) A (call (.builtin id) (.ref p :: vals)) (EvP prog w F B env ρ σ s Q) E s := by
  have hc : cap = 1000000 := rfl
  have hcl := cap_line
  have setd : ∀ {es : List (Int × Val)} {k : Int} {d : Val} {kv dv : Value} {kvs : List (Int × Value)} {ao : AObj}, σ p = some ao → (∀ es, ao ≠ .dictR es) → VRel F s.heap kv (.int k) → VRel F s.heap dv d → s.heap.DictOf (intKind prog w) p kvs → IRel F s.heap kvs es → es.length ≤ cap →
      (match lookI k es with
        | some v => Q v σ
        | Option.none => es.length < cap ∧ Q d (σ.set p (.dictI (es ++ [(k, d)])))) → wpAny (model prog w) A (call (.builtin "dict.setdefault") (.ref p :: [kv, dv])) (EvP prog w F B env ρ σ s Q) E s := by
    intro es k d kv dv kvs ao hp hro hkv hdv hD hR hz h
    cases hkv
    have hlen := hR.length
    refine call_meetsIn PySem.F.slot_dict_setdefault hD.typeIs PySem.F.entry_dict_setdefault (PySem.F.args_dict_setdefault_3 _ _ _) (kt_meets_setdefault (intKind prog w) p (intKind_is prog w _ _) (sys_off S hB hp) dv)
      ⟨kvs, hD, by lia, fun v hv => ?_, fun hn h' hD' hs' => ?_⟩
    · cases hl : lookI k es with
      | none => rw [(hR.at (k := k)).2 hl] at hv; cases hv
      | some u =>
        obtain ⟨q, hq, hr⟩ := (hR.at (k := k)).1 u hl
        rw [hq] at hv; cases hv
        rw [hl] at h
        exact EvP.pure S _ hr h
    · cases hl : lookI k es with
      | some u =>
        obtain ⟨q, hq, hr⟩ := (hR.at (k := k)).1 u hl
        rw [hq] at hn; cases hn
      | none =>
        rw [hl] at h
        have hk : ∀ a o, a ≠ p → s.heap.get? a = some o → h'.get? a = some o := fun a o hne e => hs'.extBut a o hne e
        have fz : ∀ a o, s.heap.get? a = some o → Frozen o → h'.get? a = some o := fun a o e hf => hk a o (by
          rintro rfl
          obtain ⟨ob, _, _, e', _, hdd, _⟩ := hD
          rw [e] at e'; cases e'; exact hf.2.1 _ _ hdd) e
        rw [stored_new hn] at hD'
        obtain ⟨S', g⟩ := S.turn (tk := s.toks + 1) hp hro hk (ao := .dictI (es ++ [(k, d)])) ⟨_, hD', IRel.snoc rfl (hdv.mono fz) (hR.mono fz), by simp; lia⟩
        exact ⟨_, _, S.val g hdv, S', g, h.2⟩
  have getd : ∀ {es : List (Int × Val)} {k : Int} {d : Val} {kv dv : Value} {kvs : List (Int × Value)} {ao : AObj}, σ p = some ao → VRel F s.heap kv (.int k) → VRel F s.heap dv d → s.heap.DictOf (intKind prog w) p kvs → IRel F s.heap kvs es →
      Q ((lookI k es).getD d) σ → wpAny (model prog w) A (call (.builtin "dict.get") (.ref p :: [kv, dv])) (EvP prog w F B env ρ σ s Q) E s := by
    intro es k d kv dv kvs ao hp hkv hdv hD hR h
    cases hkv
    refine call_meetsIn PySem.F.slot_dict_get hD.typeIs PySem.F.entry_dict_get (PySem.F.args_dict_get_3 _ _ _) (meets_dict_get_default (intKind prog w) p (intKind_is prog w _ _) (sys_off S hB hp) dv)
      ⟨_, hD.mapOf, ?_⟩
    cases hl : lookI k es with
    | none =>
      rw [hl] at h
      rw [(hR.at (k := k)).2 hl]
      exact EvP.pure S _ hdv h
    | some u =>
      rw [hl] at h
      obtain ⟨q, hq, hr⟩ := (hR.at (k := k)).1 u hl
      rw [hq]
      exact EvP.pure S _ hr h
  unfold dictMeth at h
  split at h
  · rename_i es hp
    obtain ⟨xs, hD, hR, hz⟩ := (S.inv.obj p _ hp).2
    split at h
    · rename_i hn; subst hn
      split at h
      · obtain rfl := hv.zero
        have : id = "dict.keys" := by rw [dictId, if_pos rfl] at hid; exact (Option.some.inj hid).symm
        subst this
        refine wpAny_call_entry PySem.F.slot_dict_keys hD.typeIs PySem.F.entry_dict_keys ?_ (PySem.F.args_dict_keys_1 _)
        refine wpAny_bind ?_
        unfold Builtin.Dict.noArgs
        refine wpAny_bind (wpAny_notOrdered_dict hD.typeIs ?_)
        show wpAny _ _ (pure p) _ _ s
        refine wpAny_pure ?_
        show wpAny _ _ (Builtin.Dict.showsAll p >>= _) _ _ s
        unfold Builtin.Dict.showsAll
        rw [if_neg (by rw [sys_off S hB hp]; exact Bool.false_ne_true)]
        refine wpAny_bind (wpAny_pure ?_)
        obtain ⟨S', g⟩ := S.push { cls := .type "dict_keys", data := .fields #[.ref p] } s.toks
        exact wpAny_bind (wpAny_newObj_type (wpAny_pure ⟨_, rfl, ⟨_, σ, .keys (Heap.get?_push_size _ rfl), S', g, h⟩⟩))
      · exact h.elim
    · split at h
      · rename_i hn; subst hn
        split at h
        · rename_i k d
          obtain ⟨rfl, h⟩ := h
          have := hR.nil; subst this
          obtain ⟨kv, dv, rfl, hk, hd⟩ := hv.two
          have : id = "dict.get" := by rw [dictId, if_neg (by decide), if_pos rfl] at hid; exact (Option.some.inj hid).symm
          subst this
          exact getd (es := []) hp hk hd (DictOfH.nil_int hD) trivial h
        · exact h.elim
      · split at h
        · rename_i hn; subst hn
          split at h
          · rename_i k d
            obtain ⟨rfl, h⟩ := h
            have := hR.nil; subst this
            obtain ⟨kv, dv, rfl, hk, hd⟩ := hv.two
            have : id = "dict.setdefault" := by rw [dictId, if_neg (by decide), if_neg (by decide), if_pos rfl] at hid; exact (Option.some.inj hid).symm
            subst this
            exact setd (es := []) hp nofun hk hd (DictOfH.nil_int hD) trivial (by simp) ⟨by simp [cap], by simpa using h⟩
          · exact h.elim
        · exact h.elim
  · rename_i es hp
    obtain ⟨xs, hD, hR, hz⟩ := (S.inv.obj p _ hp).2
    split at h
    · rename_i hn; subst hn
      split at h
      · rename_i k d
        obtain ⟨kv, dv, rfl, hk, hd⟩ := hv.two
        have : id = "dict.get" := by rw [dictId, if_neg (by decide), if_pos rfl] at hid; exact (Option.some.inj hid).symm
        subst this
        exact getd hp hk hd hD hR h
      · exact h.elim
    · split at h
      · rename_i hn; subst hn
        split at h
        · rename_i k d
          obtain ⟨kv, dv, rfl, hk, hd⟩ := hv.two
          have : id = "dict.setdefault" := by rw [dictId, if_neg (by decide), if_neg (by decide), if_pos rfl] at hid; exact (Option.some.inj hid).symm
          subst this
          exact setd hp nofun hk hd hD hR hz h
        · exact h.elim
      · exact h.elim
  · exact h.elim
end
end Mine

set_option linter.unusedVariables false
namespace Mine
open PySem PySem.W PyProof.Rows

/-- what is the frame's own -/
def Own (env : Env) (sc : Scope) (a : Addr) : Prop := a = env.locals ∨ ∃ x, sc.names.lookup x = some .cell ∧ env.cells.lookup x = some a

section
variable (prog : Program) (w : World) (F : Tab) (B : Heap)

/-- what a raised exception's end says -/
def ExP (env : Env) (sc : Scope) (σ : Store) (s : Shared) (X : VPost) (v : Value) (s' : Shared) : Prop :=
  ∃ a ρ' σ', VRel F s'.heap v a ∧ St prog w F B env ρ' σ' s' ∧ Go (Own env sc) σ s σ' s' ∧ X a σ'

inductive FlRel (F : Tab) (h : Heap) : Flow → Fl → Prop
  | next : FlRel F h .next .next
  | ret {v : Value} {a : Val} : VRel F h v a → FlRel F h (.ret v) (.ret a)

/-- what a statement's end says -/
def NxP (env : Env) (sc : Scope) (σ : Store) (s : Shared) (Q : Fl → Rho → Store → Prop) (f : Flow) (s' : Shared) : Prop :=
  ∃ fl ρ' σ', FlRel F s'.heap f fl ∧ St prog w F B env ρ' σ' s' ∧ Go (Own env sc) σ s σ' s' ∧ Q fl ρ' σ'

structure Sta (C : Cx) (A : Around) (env : Env) (sc : Scope) : Prop where
  kind : env.scope.kind = .function
  names : ∀ x, env.kindOf x = sc.names.lookup x ∨ (sc.names.lookup x = some .free ∧ env.kindOf x = some .cell)
  dbg : sc.names.lookup ("__debug__" : Str) = none
  cdict : sc.names.lookup ("__classdict__" : Str) = none
  cells : ∀ x, env.kindOf x = some .cell ∨ env.kindOf x = some .free → ∃ c, env.cells.lookup x = some c
  apart : ∀ x y c, env.cells.lookup x = some c → env.cells.lookup y = some c → x = y
  glob : ∀ x v, C.gl x = some v → ∀ (s : Shared) (Q : Value → Shared → Prop) (E : Value → Shared → Prop), (∀ a o, B.get? a = some o → s.heap.get? a = some o) → (∀ val, VRel F s.heap val v → Q val s) → wpAny (model prog w) A (loadGlobal env x) Q E s
  units : A.units + 70 < cLine
  calm : C.calm = true → A.handled = none
  sys : ∃ o, B.get? sysModules = some o
  fns : ∀ n a, F.fn n = some a → ∃ o fd, B.get? a = some o ∧ o.data = .func fd
  call : ∀ env n vs ρ σ Q X, C.call (.top n) vs σ Q X → ∀ s vals a, F.fn n = some a → St prog w F B env ρ σ s → VRels F s.heap vals vs →
    wpAny (model prog w) A (PySem.call (.ref a) vals) (EvP prog w F B env ρ σ s Q) (EvP prog w F B env ρ σ s X) s
  clsK : ∀ c a, F.cls c = some a → ∃ k, (k = Keeper.frame ∨ k = Keeper.machine ∨ k = Keeper.boundFrame) ∧ Looks (model prog w) B (keeperOf (.ref a)) k
  make : ∀ env c vs ρ σ Q X, newInst { C with exc := X } c vs σ Q → ∀ s vals a, F.cls c = some a → St prog w F B env ρ σ s → VRels F s.heap vals vs →
    wpAny (model prog w) A (PySem.call (.ref a) vals) (EvP prog w F B env ρ σ s Q) (EvP prog w F B env ρ σ s X) s
  attr : ∀ env v a n ρ σ s Q E, St prog w F B env ρ σ s → VRel F s.heap v a → getattr a n σ Q → wpAny (model prog w) A (getAttr v n true) (EvP prog w F B env ρ σ s Q) E s
  sattr : ∀ env v a n x b ρ σ s Q E, St prog w F B env ρ σ s → VRel F s.heap v a → VRel F s.heap x b → setattr a n b σ Q → wpAny (model prog w) A (setAttr v n x) (UnP prog w F B env ρ σ s Q) E s
  meth : ∀ c n, C.mth c n = true → ∃ f, F.meth c n = some f ∧ ∀ env p ρ σ s Q E pl, St prog w F B env ρ σ s → methKind (.ref p) n σ = some (.inst c p) → Q (.ref f, [.ref p]) s → wpAny (model prog w) A (getMethod (.ref p) n pl) Q E s
  methFn : ∀ c n f, F.meth c n = some f → ∃ o fd, B.get? f = some o ∧ o.data = .func fd
  mcall : ∀ env c n vs ρ σ Q X, C.call (.meth c n) vs σ Q X → ∀ s vals a, F.meth c n = some a → St prog w F B env ρ σ s → VRels F s.heap vals vs →
    wpAny (model prog w) A (PySem.call (.ref a) vals) (EvP prog w F B env ρ σ s Q) (EvP prog w F B env ρ σ s X) s
  own : (∀ a σ, ¬ C.exc a σ) ∨ ∀ X σ s, PassesOwn (model prog w) A env (ExP prog w F B env sc σ s X)
end

section
variable {prog : Program} {w : World} {F : Tab} {B : Heap} {env : Env} {sc : Scope} {C : Cx} {ρ : Rho} {σ σ₁ σ' : Store} {s s₁ s' : Shared} {A : Around} {E : Value → Shared → Prop}

theorem Go.owns {σ σ' : Store} {s s' : Shared} (g : GoE env σ s σ' s') : Go (Own env sc) σ s σ' s' := g.mono fun a o _ h => .inl h

theorem St.frozenO (S : St prog w F B env ρ σ s) (g : Go (Own env sc) σ s σ' s') : ∀ a o, s.heap.get? a = some o → Frozen o → s'.heap.get? a = some o :=
  g.frozen S.inv fun a o hp e hf => by
    rcases hp with rfl | ⟨x, _, hx⟩
    · obtain ⟨⟨m, hn, _⟩, _⟩ := S.fra.rho; exact ns_thaw hn o e hf
    · obtain ⟨_, _, v, oc, e', hd⟩ := S.fra.offC x a hx
      rw [e] at e'; cases e'; exact hf.2.2 _ hd
theorem St.valO (S : St prog w F B env ρ σ s) (g : Go (Own env sc) σ s σ' s') {v : Value} {a : Val} (h : VRel F s.heap v a) : VRel F s'.heap v a := h.mono (S.frozenO g)

theorem Sta.hush (T : Sta prog w F B C A env sc) : Sta prog w F B C.hush A env sc := { T with own := .inl fun _ _ h => h, call := T.call, make := T.make, attr := T.attr, sattr := T.sattr, meth := T.meth, mcall := T.mcall }
theorem Sta.pull (T : Sta prog w F B C A env sc) (f : Store → Store) : Sta prog w F B (C.pull f) A env sc :=
  { T with call := T.call, make := T.make, attr := T.attr, sattr := T.sattr, meth := T.meth, mcall := T.mcall, own := T.own.elim (fun h => .inl fun a σ => h a (f σ)) .inr }

/-- a name is read -/
theorem load_sound {x : Str} {pos : Pos} {Q : VPost} {a : Val} (T : Sta prog w F B C A env sc) (S : St prog w F B env ρ σ s)
    (hk : sc.names.lookup x = some .local ∨ sc.names.lookup x = some .cell ∨ sc.names.lookup x = some .free) (ha : ρ x = some a) (h : Q a σ) :
    wpAny (model prog w) A (eval (.Name x pos) env) (EvP prog w F B env ρ σ s Q) E s := by
  have hd : (x == ("__debug__" : Str)) = false := by
    rw [beq_eq_false_iff_ne]; rintro rfl; rw [T.dbg] at hk; simp at hk
  have hcd : (x == ("__classdict__" : Str)) = false := by
    rw [beq_eq_false_iff_ne]; rintro rfl; rw [T.cdict] at hk; simp at hk
  refine wpAny_Name ?_ hd
  have hcel : env.kindOf x = some .cell ∨ env.kindOf x = some .free → wpAny (model prog w) A (loadName env x) (EvP prog w F B env ρ σ s Q) E s := by
    intro hx
    obtain ⟨c, v, h1, h2, h3⟩ := S.fra.rho.cel x a hx ha
    rcases hx with hx | hx
    · exact wpAny_loadName_cell T.kind hx h1 h2 (EvP.now S h3 h)
    · exact wpAny_loadName_free T.kind hx h1 h2 (EvP.now S h3 h) hcd
  rcases T.names x with e | ⟨e1, e2⟩
  · rcases hk with hk | hk | hk
    · obtain ⟨m, hm, hl⟩ := S.fra.rho.loc
      rw [hk] at e
      obtain ⟨v, h1, h2⟩ := hl x a e ha
      exact wpAny_loadName_local T.kind e hm h1 (EvP.now S h2 h)
    · exact hcel (.inl (e.trans hk))
    · exact hcel (.inr (e.trans hk))
  · exact hcel (.inl e2)

/-- a global name is read -/
theorem glob_sound {x : Str} {pos : Pos} {Q : VPost} {a : Val} (T : Sta prog w F B C A env sc) (S : St prog w F B env ρ σ s)
    (hk : sc.names.lookup x = some .globalImplicit) (ha : C.gl x = some a) (h : Q a σ) :
    wpAny (model prog w) A (eval (.Name x pos) env) (EvP prog w F B env ρ σ s Q) E s := by
  have hd : (x == ("__debug__" : Str)) = false := by
    rw [beq_eq_false_iff_ne]; rintro rfl; rw [T.dbg] at hk; simp at hk
  have hx : env.kindOf x = some .globalImplicit := by
    rcases T.names x with e | ⟨e1, e2⟩
    · exact e.trans hk
    · rw [hk] at e1; cases e1
  exact Calls.Name_function_global T.kind hx (T.glob x a ha s _ _ S.inv.keep fun val hv => EvP.now S hv h) hd

/-- a name is stored -/
theorem store_sound {x : Str} {v : Value} {a : Val} {Q : Unit → Shared → Prop} (T : Sta prog w F B C A env sc) (S : St prog w F B env ρ σ s) (hl : isLoc sc x = true) (hv : VRel F s.heap v a)
    (h : ∀ s', St prog w F B env (upd ρ x a) σ s' → Go (Own env sc) σ s σ s' → Q () s') : wpAny (model prog w) A (storeName env x v) Q E s := by
  have hp : (env.scope.kind == .class || (env.scope.kind == .module && env.locals != env.globals)) = false := by rw [T.kind]; rfl
  obtain ⟨m, hm, hlo⟩ := S.fra.rho.loc
  have hL0 : ∃ o, s.heap.get? env.locals = some o := let ⟨o, _, _, e, _⟩ := hm; ⟨o, e⟩
  have key : env.kindOf x = some .local ∨ (env.kindOf x = some .cell ∧ sc.names.lookup x = some .cell) := by
    unfold isLoc at hl
    rcases T.names x with e | ⟨e1, e2⟩
    · split at hl
      · rename_i hq; exact .inl (e.trans hq)
      · rename_i hq; exact .inr ⟨e.trans hq, hq⟩
      · cases hl
    · rw [e1] at hl; cases hl
  rcases key with hx | ⟨hx, hsx⟩
  · refine wpAny_storeName_local hx hm (fun h' hn' hs' => ?_) hp
    have hk : ∀ a o, a ≠ env.locals → s.heap.get? a = some o → h'.get? a = some o := fun a o hne e => hs'.extBut a o hne e
    have g : Go (Own env sc) σ s σ { s with heap := h', toks := s.toks + 1 } := by
      refine ⟨⟨_, _, rfl⟩, fun a o hP e _ => hk a o (fun q => hP (.inl q)) e, fun a o e => ?_, fun _ a b => absurd a b, fun _ a => a, fun a es e => ⟨e, ?_⟩⟩
      · by_cases ha : a = env.locals
        · subst ha; obtain ⟨o', _, _, e', _⟩ := hn'; exact ⟨o', e'⟩
        · exact ⟨o, hk a o ha e⟩
      · obtain ⟨ob, e1, _⟩ := ORel.live prog w F (S.inv.obj a _ e).2
        exact (hk a ob (by rintro rfl; rw [S.fra.offL] at e; cases e) e1).trans e1.symm
    have fz := S.frozenO g
    refine h _ ⟨⟨fun a o e => hk a o (by rintro rfl; rw [S.offB] at e; cases e) (S.inv.keep a o e), fun a o e => ⟨(S.inv.obj a o e).1, ?_⟩, S.inv.scr⟩, ⟨⟨⟨_, hn', fun y b h1 h2 => ?_⟩, fun y b h1 h2 => ?_⟩, S.fra.offL, fun y c hc => ?_⟩, S.offB, S.offC⟩ g
    · obtain ⟨ob, e1, _⟩ := ORel.live prog w F (S.inv.obj a o e).2
      have hne : a ≠ env.locals := by rintro rfl; rw [S.fra.offL] at e; cases e
      exact ORel.mono prog w F fz ((hk a ob hne e1).trans e1.symm) (S.inv.obj a o e).2
    · unfold upd at h2
      by_cases hy : y = x
      · subst hy; rw [if_pos rfl] at h2; cases h2
        exact ⟨v, by simp, hv.mono fz⟩
      · rw [if_neg hy] at h2
        obtain ⟨v', h3, h4⟩ := hlo y b h1 h2
        exact ⟨v', by simp [hy, h3], h4.mono fz⟩
    · have hy : y ≠ x := by rintro rfl; rw [hx] at h1; simp at h1
      unfold upd at h2; rw [if_neg hy] at h2
      obtain ⟨c, v', h3, ⟨oc, h4, h5⟩, h6⟩ := S.fra.rho.cel y b h1 h2
      exact ⟨c, v', h3, ⟨oc, hk _ _ (S.fra.offC y c h3).2.1 h4, h5⟩, h6.mono fz⟩
    · obtain ⟨h1, h2, v', oc, h3, h4⟩ := S.fra.offC y c hc
      exact ⟨h1, h2, v', oc, hk _ _ h2 h3, h4⟩
  · obtain ⟨c, hc⟩ := T.cells x (.inl hx)
    obtain ⟨k1, k2, v0, hv0⟩ := S.fra.offC x c hc
    refine wpAny_storeName_cell T.kind hx hc hv0 fun h' hc' hs' => ?_
    have hk : ∀ a o, a ≠ c → s.heap.get? a = some o → h'.get? a = some o := fun a o hne e => hs'.extBut a o hne e
    have g : Go (Own env sc) σ s σ { s with heap := h' } := by
      refine ⟨⟨_, _, rfl⟩, fun a o hP e _ => hk a o (fun q => hP (.inr ⟨x, hsx, q ▸ hc⟩)) e, fun a o e => ?_, fun _ a b => absurd a b, fun _ a => a, fun a es e => ⟨e, ?_⟩⟩
      · by_cases ha : a = c
        · subst ha; obtain ⟨o', e', _⟩ := hc'; exact ⟨o', e'⟩
        · exact ⟨o, hk a o ha e⟩
      · obtain ⟨ob, e1, _⟩ := ORel.live prog w F (S.inv.obj a _ e).2
        exact (hk a ob (by rintro rfl; rw [k1] at e; cases e) e1).trans e1.symm
    have fz := S.frozenO g
    have hBc : B.get? c = none := S.offC x c hc
    refine h _ ⟨⟨fun a o e => hk a o (by rintro rfl; rw [hBc] at e; cases e) (S.inv.keep a o e), fun a o e => ⟨(S.inv.obj a o e).1, ?_⟩, S.inv.scr⟩, ⟨⟨⟨m, hm.at' fun o e => hk _ o (Ne.symm k2) e, fun y b h1 h2 => ?_⟩, fun y b h1 h2 => ?_⟩, S.fra.offL, fun y d hd => ?_⟩, S.offB, S.offC⟩ g
    · obtain ⟨ob, e1, _⟩ := ORel.live prog w F (S.inv.obj a o e).2
      have hne : a ≠ c := by rintro rfl; rw [k1] at e; cases e
      exact ORel.mono prog w F fz ((hk a ob hne e1).trans e1.symm) (S.inv.obj a o e).2
    · have hy : y ≠ x := by rintro rfl; rw [hx] at h1; cases h1
      unfold upd at h2; rw [if_neg hy] at h2
      obtain ⟨v', h3, h4⟩ := hlo y b h1 h2
      exact ⟨v', h3, h4.mono fz⟩
    · unfold upd at h2
      by_cases hy : y = x
      · subst hy; rw [if_pos rfl] at h2; cases h2
        exact ⟨c, v, hc, hc', hv.mono fz⟩
      · rw [if_neg hy] at h2
        obtain ⟨d, v', h3, ⟨oc, h4, h5⟩, h6⟩ := S.fra.rho.cel y b h1 h2
        exact ⟨d, v', h3, ⟨oc, hk _ _ (by rintro rfl; exact hy (T.apart _ _ _ h3 hc)) h4, h5⟩, h6.mono fz⟩
    · obtain ⟨h1, h2, v', oc, h3, h4⟩ := S.fra.offC y d hd
      by_cases hdc : d = c
      · subst hdc; exact ⟨h1, h2, _, hc'⟩
      · exact ⟨h1, h2, v', oc, hk _ _ hdc h3, h4⟩
end
end Mine

set_option linter.unusedVariables false
namespace Mine
open PySem PySem.W PyProof.Rows

section
variable (prog : Program) (w : World) (F : Tab) (B : Heap)
def EvsP (env : Env) (ρ : Rho) (σ : Store) (s : Shared) (k : Nat) (Q : List Val → Store → Prop) (vs : List Value) (s' : Shared) : Prop :=
  vs.length = k ∧ ∃ as σ', VRels F s'.heap vs as ∧ St prog w F B env ρ σ' s' ∧ GoE env σ s σ' s' ∧ Q as σ'
def OptP (env : Env) (ρ : Rho) (σ : Store) (s : Shared) (Q : Option Int → Store → Prop) (v : Value) (s' : Shared) : Prop :=
  ∃ o σ', IsPart v o ∧ St prog w F B env ρ σ' s' ∧ GoE env σ s σ' s' ∧ Q o σ'

structure Snd (n : Nat) : Prop where
  ev : ∀ {C : Cx} {A : Around} {env : Env} {sc : Scope} {e : Expr} {ρ : Rho} {σ : Store} {s : Shared} {Q : VPost}, Sta prog w F B C A env sc → St prog w F B env ρ σ s → Mine.ev C n sc e ρ σ Q →
    wpAny (model prog w) A (eval e env) (EvP prog w F B env ρ σ s Q) (EvP prog w F B env ρ σ s C.exc) s
  evs : ∀ {C : Cx} {A : Around} {env : Env} {sc : Scope} {es : List Expr} {ρ : Rho} {σ : Store} {s : Shared} {Q : List Val → Store → Prop} (pos : Pos), Sta prog w F B C A env sc → St prog w F B env ρ σ s → fewArgs es = true → Mine.evs C n sc es ρ σ Q →
    wpAny (model prog w) A (spliced (backTo pos (starEach es env))) (EvsP prog w F B env ρ σ s es.length Q) (EvP prog w F B env ρ σ s C.exc) s
  opt : ∀ {C : Cx} {A : Around} {env : Env} {sc : Scope} {e : Option Expr} {ρ : Rho} {σ : Store} {s : Shared} {Q : Option Int → Store → Prop}, Sta prog w F B C A env sc → St prog w F B env ρ σ s → Mine.evOpt C n sc e ρ σ Q →
    wpAny (model prog w) A (valueOrNone (evalOpt e env)) (OptP prog w F B env ρ σ s Q) (EvP prog w F B env ρ σ s C.exc) s
  bool : ∀ {C : Cx} {A : Around} {env : Env} {sc : Scope} {op : BoolOp} {es : List Expr} {ρ : Rho} {σ : Store} {s : Shared} {Q : VPost} (pos : Pos), Sta prog w F B C A env sc → St prog w F B env ρ σ s → Mine.evBool C n sc op es ρ σ Q →
    wpAny (model prog w) A (boolOp pos op (evalEach es env)) (EvP prog w F B env ρ σ s Q) (EvP prog w F B env ρ σ s C.exc) s
  cmp : ∀ {C : Cx} {A : Around} {env : Env} {sc : Scope} {v : Value} {a : Val} {ops : List CmpOp} {rs : List Expr} {ρ : Rho} {σ : Store} {s : Shared} {Q : BPost} (pos : Pos), Sta prog w F B C A env sc → St prog w F B env ρ σ s → VRel F s.heap v a → Mine.evCmp C n sc a ops rs ρ σ Q →
    wpAny (model prog w) A (compareChain pos v ops (markedEach ops rs (evalEach rs env))) (fun x s' => ∃ r, x = .bool r ∧ TsP prog w F B env ρ σ s Q r s') (EvP prog w F B env ρ σ s C.exc) s
  tcmp : ∀ {C : Cx} {A : Around} {env : Env} {sc : Scope} {v : Value} {a : Val} {ops : List CmpOp} {rs : List Expr} {ρ : Rho} {σ : Store} {s : Shared} {Q : BPost} (pos : Pos), Sta prog w F B C A env sc → St prog w F B env ρ σ s → VRel F s.heap v a → Mine.evCmp C n sc a ops rs ρ σ Q →
    wpAny (model prog w) A (testChain pos v ops (markedEach ops rs (evalEach rs env))) (TsP prog w F B env ρ σ s Q) (EvP prog w F B env ρ σ s C.exc) s
  tst : ∀ {C : Cx} {A : Around} {env : Env} {sc : Scope} {e : Expr} {ρ : Rho} {σ : Store} {s : Shared} {Q : BPost}, Sta prog w F B C A env sc → St prog w F B env ρ σ s → Mine.tst C n sc e ρ σ Q →
    wpAny (model prog w) A (isTrue e env (eval e env)) (TsP prog w F B env ρ σ s Q) (EvP prog w F B env ρ σ s C.exc) s
  all : ∀ {C : Cx} {A : Around} {env : Env} {sc : Scope} {op : BoolOp} {es : List Expr} {ρ : Rho} {σ : Store} {s : Shared} {Q : BPost}, Sta prog w F B C A env sc → St prog w F B env ρ σ s → Mine.tstAll C n sc op es ρ σ Q →
    wpAny (model prog w) A (allTrue op es env) (TsP prog w F B env ρ σ s Q) (EvP prog w F B env ρ σ s C.exc) s
  ifs : ∀ {C : Cx} {A : Around} {env : Env} {sc : Scope} {es : List Expr} {ρ : Rho} {σ : Store} {s : Shared} {Q : BPost}, Sta prog w F B C A env sc → St prog w F B env ρ σ s → Mine.evIfs C n sc es ρ σ Q →
    wpAny (model prog w) A (forIn es true fun c r => if r = true then do let ok ← isTrue c env (eval c env); pure (ForInStep.yield ok) else pure (ForInStep.yield r)) (TsP prog w F B env ρ σ s Q) (EvP prog w F B env ρ σ s C.exc) s
end

section
variable {prog : Program} {w : World} {F : Tab} {B : Heap} {env : Env} {sc : Scope} {C : Cx} {ρ : Rho} {σ σ₁ σ' : Store} {s s₁ s' : Shared} {A : Around} {E : Value → Shared → Prop} {n : Nat} {X : VPost}

/-- later, told from the earlier point -/
theorem shiftV {m : Sem Value} {Q : VPost} (g : GoE env σ s σ₁ s₁) (h : wpAny (model prog w) A m (EvP prog w F B env ρ σ₁ s₁ Q) (EvP prog w F B env ρ σ₁ s₁ X) s') :
    wpAny (model prog w) A m (EvP prog w F B env ρ σ s Q) (EvP prog w F B env ρ σ s X) s' := wpAny_mono h (fun _ _ q => q.back g) (fun _ _ q => q.back g)
theorem shiftB {m : Sem Bool} {Q : BPost} (g : GoE env σ s σ₁ s₁) (h : wpAny (model prog w) A m (TsP prog w F B env ρ σ₁ s₁ Q) (EvP prog w F B env ρ σ₁ s₁ X) s') :
    wpAny (model prog w) A m (TsP prog w F B env ρ σ s Q) (EvP prog w F B env ρ σ s X) s' := wpAny_mono h (fun _ _ q => q.back g) (fun _ _ q => q.back g)
theorem shiftX {α : Type} {m : Sem α} {Q : α → Shared → Prop} (g : GoE env σ s σ₁ s₁) (h : wpAny (model prog w) A m Q (EvP prog w F B env ρ σ₁ s₁ X) s') :
    wpAny (model prog w) A m Q (EvP prog w F B env ρ σ s X) s' := wpAny_mono h (fun _ _ q => q) (fun _ _ q => q.back g)
theorem EvP.bind {m : Sem Value} {Q : VPost} {R : Value → Shared → Prop} (h : wpAny (model prog w) A m (EvP prog w F B env ρ σ s Q) E s)
    (k : ∀ v a σ₁ s₁, VRel F s₁.heap v a → St prog w F B env ρ σ₁ s₁ → GoE env σ s σ₁ s₁ → Q a σ₁ → R v s₁) : wpAny (model prog w) A m R E s :=
  wpAny_mono h (fun v s₁ ⟨a, σ₁, h1, h2, h3, h4⟩ => k v a σ₁ s₁ h1 h2 h3 h4) fun _ _ x => x
theorem TsP.bind {m : Sem Bool} {Q : BPost} {R : Bool → Shared → Prop} (h : wpAny (model prog w) A m (TsP prog w F B env ρ σ s Q) E s)
    (k : ∀ b σ₁ s₁, St prog w F B env ρ σ₁ s₁ → GoE env σ s σ₁ s₁ → Q b σ₁ → R b s₁) : wpAny (model prog w) A m R E s :=
  wpAny_mono h (fun v s₁ ⟨σ₁, h2, h3, h4⟩ => k v σ₁ s₁ h2 h3 h4) fun _ _ x => x

theorem ev_notSet {op : CmpOp} {e : Expr} {Q : VPost} (h : ev C n sc e ρ σ Q) : behindInMarks op e = false := by
  cases n with
  | zero => exact False.elim h
  | succ n => cases e <;> first | rfl | exact False.elim h
theorem star_plain {e : Expr} {r : List Expr} (h : fewArgs (e :: r) = true) : starEach (e :: r) env = (false, eval e env) :: starEach r env ∧ fewArgs r = true ∧ r.length < 20 := by
  cases e <;> first | (simp [fewArgs] at h; done) | (simp only [fewArgs, Bool.and_eq_true, decide_eq_true_eq] at h; exact ⟨rfl, h.1, h.2⟩)

theorem snd_evs (ih : Snd prog w F B n) : ∀ {C : Cx} {A : Around} {env : Env} {sc : Scope} {es : List Expr} {ρ : Rho} {σ : Store} {s : Shared} {Q : List Val → Store → Prop} (pos : Pos), Sta prog w F B C A env sc → St prog w F B env ρ σ s → fewArgs es = true → Mine.evs C (n + 1) sc es ρ σ Q →
    wpAny (model prog w) A (spliced (backTo pos (starEach es env))) (EvsP prog w F B env ρ σ s es.length Q) (EvP prog w F B env ρ σ s C.exc) s := by
  intro C A env sc es ρ σ s Q pos T S hf h
  cases es with
  | nil => exact wpAny_items_nil ⟨rfl, [], σ, .nil, S, Go.refl _ _ _, h⟩
  | cons e r =>
    rw [evs_1] at h
    obtain ⟨h1, h2, h3⟩ := star_plain (env := env) hf
    refine wpAny_items_cons (EvP.bind (ih.ev T S h) fun v a σ₁ s₁ hv S₁ g hq => ?_) h1
    refine wpAny_mono (ih.evs pos T S₁ h2 hq) (fun vs s₂ ⟨hl, as, σ₂, q1, q2, q3, q4⟩ => ⟨by rw [List.length_cons, List.length_cons, hl], a :: as, σ₂, .cons (S₁.val q3 hv) q1, q2, g.trans q3, q4⟩) fun _ _ q => q.back g

theorem snd_opt (ih : Snd prog w F B n) : ∀ {C : Cx} {A : Around} {env : Env} {sc : Scope} {e : Option Expr} {ρ : Rho} {σ : Store} {s : Shared} {Q : Option Int → Store → Prop}, Sta prog w F B C A env sc → St prog w F B env ρ σ s → Mine.evOpt C (n + 1) sc e ρ σ Q →
    wpAny (model prog w) A (valueOrNone (evalOpt e env)) (OptP prog w F B env ρ σ s Q) (EvP prog w F B env ρ σ s C.exc) s := by
  intro C A env sc e ρ σ s Q T S h
  cases e with
  | none => exact wpAny_pure ⟨none, σ, .none, S, Go.refl _ _ _, h⟩
  | some e =>
    rw [evOpt_1] at h
    show wpAny _ A (eval e env) _ _ s
    refine EvP.bind (ih.ev T S h) fun v a σ₁ s₁ hv S₁ g hq => ?_
    split at hq
    · cases hv; exact ⟨some _, σ₁, .int _ _, S₁, g, hq⟩
    · exact hq.elim

theorem snd_bool (ih : Snd prog w F B n) : ∀ {C : Cx} {A : Around} {env : Env} {sc : Scope} {op : BoolOp} {es : List Expr} {ρ : Rho} {σ : Store} {s : Shared} {Q : VPost} (pos : Pos), Sta prog w F B C A env sc → St prog w F B env ρ σ s → Mine.evBool C (n + 1) sc op es ρ σ Q →
    wpAny (model prog w) A (boolOp pos op (evalEach es env)) (EvP prog w F B env ρ σ s Q) (EvP prog w F B env ρ σ s C.exc) s := by
  intro C A env sc op es ρ σ s Q pos T S h
  match es with
  | [] => exact False.elim h
  | [e] =>
    rw [evBool_1] at h
    show wpAny _ A (eval e env) _ _ s
    exact ih.ev T S h
  | e :: e' :: r =>
    have h : ev C n sc e ρ σ fun v σ₁ => truth v σ₁ fun b σ₂ => (match (generalizing := false) op with
      | .And => (b = false → Q v σ₂) ∧ (b = true → evBool C n sc op (e' :: r) ρ σ₂ Q)
      | .Or => (b = true → Q v σ₂) ∧ (b = false → evBool C n sc op (e' :: r) ρ σ₂ Q)) := h
    show wpAny _ A (do
      let v ← eval e env
      standAt pos
      let t ← holding [v] (truthy v)
      match op, t with
      | .And, false | .Or, true => pure v
      | _, _ => boolOp pos op (evalEach (e' :: r) env)) _ _ s
    refine wpAny_bind (EvP.bind (ih.ev T S h) fun v a σ₁ s₁ hv S₁ g hq => wpAny_bind (wpAny_standAt (wpAny_bind (wpAny_holding (TsP.bind (truth_sound S₁ hv hq) fun b σ₂ s₂ S₂ g₂ hb => ?_)))))
    cases op with
    | And =>
      cases b with
      | false => exact wpAny_pure (EvP.back (g.trans g₂) (EvP.now S₂ (S₁.val g₂ hv) (hb.1 rfl)))
      | true => exact shiftV (g.trans g₂) (ih.bool pos T S₂ (hb.2 rfl))
    | Or =>
      cases b with
      | true => exact wpAny_pure (EvP.back (g.trans g₂) (EvP.now S₂ (S₁.val g₂ hv) (hb.1 rfl)))
      | false => exact shiftV (g.trans g₂) (ih.bool pos T S₂ (hb.2 rfl))

theorem cmpB_bind {m : Sem Value} {Q : BPost} {R : Value → Shared → Prop} (h : wpAny (model prog w) A m (fun v s' => ∃ r, v = .bool r ∧ TsP prog w F B env ρ σ s Q r s') E s)
    (k : ∀ b σ₁ s₁, St prog w F B env ρ σ₁ s₁ → GoE env σ s σ₁ s₁ → Q b σ₁ → R (.bool b) s₁) : wpAny (model prog w) A m R E s :=
  wpAny_mono h (fun v s₁ ⟨r, e, σ₁, h2, h3, h4⟩ => by subst e; exact k r σ₁ s₁ h2 h3 h4) fun _ _ x => x

theorem snd_cmp (ih : Snd prog w F B n) : ∀ {C : Cx} {A : Around} {env : Env} {sc : Scope} {v : Value} {a : Val} {ops : List CmpOp} {rs : List Expr} {ρ : Rho} {σ : Store} {s : Shared} {Q : BPost} (pos : Pos), Sta prog w F B C A env sc → St prog w F B env ρ σ s → VRel F s.heap v a → Mine.evCmp C (n + 1) sc a ops rs ρ σ Q →
    wpAny (model prog w) A (compareChain pos v ops (markedEach ops rs (evalEach rs env))) (fun x s' => ∃ r, x = .bool r ∧ TsP prog w F B env ρ σ s Q r s') (EvP prog w F B env ρ σ s C.exc) s := by
  intro C A env sc v a ops rs ρ σ s Q pos T S hv h
  match ops, rs with
  | [], _ => exact False.elim h
  | _ :: _, [] => cases ‹List CmpOp› <;> exact False.elim h
  | [op], [r] =>
    rw [evCmp_1] at h
    show wpAny _ A (do let rv ← holding [v] (markedBehindIn op r (eval r env)); standAt pos; operate [v, rv] (compareOp op v rv)) _ _ s
    rw [markedBehindIn_of_false (ev_notSet h)]
    refine wpAny_bind (wpAny_holding (EvP.bind (ih.ev T S h) fun x b σ₁ s₁ hx S₁ g hq => wpAny_bind (wpAny_standAt (wpAny_operating ?_))))
    exact cmpB_bind (cmpop_sound S₁ T.sys (S.val g hv) hx hq T.units) fun c σ₂ s₂ S₂ g₂ hc => ⟨c, rfl, σ₂, S₂, g.trans g₂, hc⟩
  | [op], r :: r' :: rs => exact False.elim h
  | op :: op' :: ops, [r] => exact False.elim h
  | op :: op' :: ops, r :: r' :: rs =>
    rw [evCmp_2] at h
    show wpAny _ A (do
      let rv ← holding [v] (eval r env)
      standAt pos
      let c ← holding [v, rv] (compareOp op v rv)
      release [v, rv] [c]
      if ← holding [c, rv] (truthy c) then compareChain pos rv (op' :: ops) (markedEach (op' :: ops) (r' :: rs) (evalEach (r' :: rs) env)) else pure c) _ _ s
    refine wpAny_bind (wpAny_holding (EvP.bind (ih.ev T S h) fun x b σ₁ s₁ hx S₁ g hq => wpAny_bind (wpAny_standAt (wpAny_bind (wpAny_holding ?_)))))
    refine cmpB_bind (cmpop_sound S₁ T.sys (S.val g hv) hx hq T.units) fun c σ₂ s₂ S₂ g₂ hc => wpAny_bind (wpAny_release (wpAny_bind (wpAny_holding (wpAny_truthy_bool ?_))))
    cases c with
    | true => exact wpAny_mono (ih.cmp pos T S₂ (S₁.val g₂ hx) (hc.1 rfl)) (fun _ _ ⟨r, e, q⟩ => ⟨r, e, q.back (g.trans g₂)⟩) fun _ _ q => q.back (g.trans g₂)
    | false => exact wpAny_pure ⟨false, rfl, σ₂, S₂, g.trans g₂, hc.2 rfl⟩

theorem snd_tcmp (ih : Snd prog w F B n) : ∀ {C : Cx} {A : Around} {env : Env} {sc : Scope} {v : Value} {a : Val} {ops : List CmpOp} {rs : List Expr} {ρ : Rho} {σ : Store} {s : Shared} {Q : BPost} (pos : Pos), Sta prog w F B C A env sc → St prog w F B env ρ σ s → VRel F s.heap v a → Mine.evCmp C (n + 1) sc a ops rs ρ σ Q →
    wpAny (model prog w) A (testChain pos v ops (markedEach ops rs (evalEach rs env))) (TsP prog w F B env ρ σ s Q) (EvP prog w F B env ρ σ s C.exc) s := by
  intro C A env sc v a ops rs ρ σ s Q pos T S hv h
  match ops, rs with
  | [], _ => exact False.elim h
  | _ :: _, [] => cases ‹List CmpOp› <;> exact False.elim h
  | [op], [r] =>
    rw [evCmp_1] at h
    show wpAny _ A (do let rv ← holding [v] (markedBehindIn op r (eval r env)); standAt pos; let c ← operate [v, rv] (compareOp op v rv); holding [c] (truthy c)) _ _ s
    rw [markedBehindIn_of_false (ev_notSet h)]
    refine wpAny_bind (wpAny_holding (EvP.bind (ih.ev T S h) fun x b σ₁ s₁ hx S₁ g hq => wpAny_bind (wpAny_standAt (wpAny_bind (wpAny_operating ?_)))))
    exact cmpB_bind (cmpop_sound S₁ T.sys (S.val g hv) hx hq T.units) fun c σ₂ s₂ S₂ g₂ hc => wpAny_holding (wpAny_truthy_bool ⟨σ₂, S₂, g.trans g₂, hc⟩)
  | [op], r :: r' :: rs => exact False.elim h
  | op :: op' :: ops, [r] => exact False.elim h
  | op :: op' :: ops, r :: r' :: rs =>
    rw [evCmp_2] at h
    show wpAny _ A (do
      let rv ← holding [v] (eval r env)
      standAt pos
      let c ← holding [v, rv] (compareOp op v rv)
      release [v, rv] [c]
      if ← holding [c, rv] (truthy c) then testChain pos rv (op' :: ops) (markedEach (op' :: ops) (r' :: rs) (evalEach (r' :: rs) env)) else pure false) _ _ s
    refine wpAny_bind (wpAny_holding (EvP.bind (ih.ev T S h) fun x b σ₁ s₁ hx S₁ g hq => wpAny_bind (wpAny_standAt (wpAny_bind (wpAny_holding ?_)))))
    refine cmpB_bind (cmpop_sound S₁ T.sys (S.val g hv) hx hq T.units) fun c σ₂ s₂ S₂ g₂ hc => wpAny_bind (wpAny_release (wpAny_bind (wpAny_holding (wpAny_truthy_bool ?_))))
    cases c with
    | true => exact shiftB (g.trans g₂) (ih.tcmp pos T S₂ (S₁.val g₂ hx) (hc.1 rfl))
    | false => exact wpAny_pure ⟨σ₂, S₂, g.trans g₂, hc.2 rfl⟩

theorem tst_value (ih : Snd prog w F B n) {e : Expr} {Q : BPost} (T : Sta prog w F B C A env sc) (S : St prog w F B env ρ σ s) (h : Mine.ev C n sc e ρ σ fun v σ₁ => truth v σ₁ Q)
    (he : isTrue e env (eval e env) = (do let v ← eval e env; standAt e.pos; holding [v] (truthy v))) :
    wpAny (model prog w) A (isTrue e env (eval e env)) (TsP prog w F B env ρ σ s Q) (EvP prog w F B env ρ σ s C.exc) s :=
  wpAny_isTrue_value (EvP.bind (ih.ev T S h) fun v a σ₁ s₁ hv S₁ g hq => wpAny_mono (truth_sound (E := fun _ _ => False) S₁ hv hq) (fun _ _ q => q.back g) fun _ _ q => q.elim) he

theorem snd_tst (ih : Snd prog w F B n) : ∀ {C : Cx} {A : Around} {env : Env} {sc : Scope} {e : Expr} {ρ : Rho} {σ : Store} {s : Shared} {Q : BPost}, Sta prog w F B C A env sc → St prog w F B env ρ σ s → Mine.tst C (n + 1) sc e ρ σ Q →
    wpAny (model prog w) A (isTrue e env (eval e env)) (TsP prog w F B env ρ σ s Q) (EvP prog w F B env ρ σ s C.exc) s := by
  intro C A env sc e ρ σ s Q T S h
  cases e with
  | UnaryOp op x pos =>
    cases op with
    | Not =>
      rw [tst_Not] at h
      exact wpAny_isTrue_Not (TsP.bind (ih.tst T S h) fun b σ₁ s₁ S₁ g hq => ⟨σ₁, S₁, g, hq⟩)
    | _ => exact tst_value ih T S h rfl
  | BoolOp op vs pos => rw [tst_Bool] at h; exact wpAny_isTrue_BoolOp (ih.all T S h)
  | Compare l ops rs pos =>
    rw [tst_Cmp] at h
    rw [arm_isTrue_Compare]
    exact wpAny_bind (EvP.bind (ih.ev T S h) fun v a σ₁ s₁ hv S₁ g hq => shiftB g (ih.tcmp pos T S₁ hv hq))
  | IfExp => cases n <;> exact False.elim h
  | _ => exact tst_value ih T S h rfl

theorem snd_all (ih : Snd prog w F B n) : ∀ {C : Cx} {A : Around} {env : Env} {sc : Scope} {op : BoolOp} {es : List Expr} {ρ : Rho} {σ : Store} {s : Shared} {Q : BPost}, Sta prog w F B C A env sc → St prog w F B env ρ σ s → Mine.tstAll C (n + 1) sc op es ρ σ Q →
    wpAny (model prog w) A (allTrue op es env) (TsP prog w F B env ρ σ s Q) (EvP prog w F B env ρ σ s C.exc) s := by
  intro C A env sc op es ρ σ s Q T S h
  cases es with
  | nil =>
    cases op
    · exact wpAny_allTrue_And_nil (TsP.now S h)
    · exact wpAny_allTrue_Or_nil (TsP.now S h)
  | cons e r =>
    cases op
    · rw [tstAll_1a] at h
      refine wpAny_allTrue_And_cons (TsP.bind (ih.tst T S h) fun b σ₁ s₁ S₁ g hq => ?_)
      cases b with
      | true => exact shiftB g (ih.all T S₁ (hq.2 rfl))
      | false => exact ⟨σ₁, S₁, g, hq.1 rfl⟩
    · rw [tstAll_1o] at h
      refine wpAny_allTrue_Or_cons (TsP.bind (ih.tst T S h) fun b σ₁ s₁ S₁ g hq => ?_)
      cases b with
      | false => exact shiftB g (ih.all T S₁ (hq.2 rfl))
      | true => exact ⟨σ₁, S₁, g, hq.1 rfl⟩

theorem snd_ifs (ih : Snd prog w F B n) : ∀ {C : Cx} {A : Around} {env : Env} {sc : Scope} {es : List Expr} {ρ : Rho} {σ : Store} {s : Shared} {Q : BPost}, Sta prog w F B C A env sc → St prog w F B env ρ σ s → Mine.evIfs C (n + 1) sc es ρ σ Q →
    wpAny (model prog w) A (forIn es true fun c r => if r = true then do let ok ← isTrue c env (eval c env); pure (ForInStep.yield ok) else pure (ForInStep.yield r)) (TsP prog w F B env ρ σ s Q) (EvP prog w F B env ρ σ s C.exc) s := by
  intro C A env sc es ρ σ s Q T S h
  match es with
  | [] => rw [List.forIn_nil]; exact wpAny_pure (TsP.now S h)
  | [c] =>
    rw [evIfs_1] at h
    rw [List.forIn_cons]
    simp only [if_true]
    refine wpAny_bind (wpAny_bind (TsP.bind (ih.tst T S h) fun b σ₁ s₁ S₁ g hq => wpAny_pure ?_))
    show wpAny _ A (forIn [] b _) _ _ _
    rw [List.forIn_nil]
    exact wpAny_pure ⟨σ₁, S₁, g, hq⟩
  | _ :: _ :: _ => exact False.elim h
end
end Mine

set_option linter.unusedVariables false
namespace Mine
open PySem PySem.W PyProof.Rows

theorem everySecond_length : ∀ l : List Val, (everySecond l).length = (l.length + 1) / 2
  | [] => rfl
  | [x] => by simp [everySecond]
  | x :: y :: r => by simp only [everySecond, List.length_cons, everySecond_length r]; lia
def every2 : List Value → List Value
  | [] => []
  | [x] => [x]
  | x :: _ :: r => x :: every2 r
theorem VRels.every2 {F : Tab} {h : Heap} : ∀ {vs : List Value} {as : List Val}, VRels F h vs as → VRels F h (Mine.every2 vs) (everySecond as)
  | _, _, .nil => .nil
  | _, _, .cons x .nil => .cons x .nil
  | _, _, .cons x (.cons y r) => .cons x (VRels.every2 r)
theorem every2_pick : ∀ l : List Value, (List.range ((l.length + 1) / 2)).filterMap (fun k => l[2 * k]?) = every2 l
  | [] => rfl
  | [x] => by simp [every2]
  | x :: y :: r => by
    have ih := every2_pick r
    have e : ((x :: y :: r).length + 1) / 2 = (r.length + 1) / 2 + 1 := by simp only [List.length_cons]; lia
    rw [e, List.range_succ_eq_map, every2, ← ih]
    simp only [List.filterMap_cons, Nat.mul_zero, List.getElem?_cons_zero, List.filterMap_map]
    congr 1
theorem pick2 (items : Array Value) : (slicePick items none none (some 2)).toList = every2 items.toList := by
  obtain ⟨l⟩ := items
  rw [← every2_pick l]
  unfold slicePick sliceBounds sliceRange
  cases l with
  | nil => rfl
  | cons x r =>
    have e : ((((x :: r).length : Nat) : Int) - 0 + 2 - 1) / 2 = ((((x :: r).length + 1) / 2 : Nat) : Int) := by lia
    simp only [Option.getD_some, show (2 : Int) > 0 from by decide, if_true, List.size_toArray, e, Int.toNat_natCast, show (0 : Int) < (((x :: r).length : Nat) : Int) from by simp only [List.length_cons]; lia, List.filterMap_map]
    congr 1
    funext k
    simp only [Function.comp]
    have e2 : (0 + 2 * (k : Int)).toNat = 2 * k := by lia
    rw [e2]; simp

section
variable {prog : Program} {w : World} {F : Tab} {B : Heap} {env : Env} {sc : Scope} {C : Cx} {ρ : Rho} {σ σ₁ σ' : Store} {s s₁ s' : Shared} {A : Around} {E : Value → Shared → Prop} {n : Nat} {X : VPost}

theorem base_plain {o : Expr} {attr : Str} {t : Sem Value} (h : plainBase o = true) : attributeBase o attr env t = t := by
  cases o with
  | Name x p => rfl
  | Call f as ks p => cases f with
    | Attribute b m q => rfl
    | _ => cases h
  | _ => cases h
theorem few_all {pos : Pos} : ∀ {es : List Expr}, fewArgs es = true → (backTo pos (starEach es env)).all (fun x => !x.1) = true ∧ (backTo pos (starEach es env)).any (·.1) = false ∧ es.length ≤ 20
  | [], _ => ⟨rfl, rfl, by simp⟩
  | e :: r, h => by
    obtain ⟨h1, h2, h3⟩ := star_plain (env := env) h
    have ih := few_all (pos := pos) h2
    rw [h1]
    refine ⟨?_, ?_, by simp; lia⟩
    · show (!false && (backTo pos (starEach r env)).all fun x => !x.1) = true
      rw [ih.1]; rfl
    · show (false || (backTo pos (starEach r env)).any (·.1)) = false
      rw [ih.2.1]; rfl
theorem evalArgs_any {M : Model} {f : Value} {args : List (Bool × Sem Value)} {Q : Args → Shared → Prop} (hp : args.any (·.1) = false) (h : wpAny M A (spliced args) (fun vs s' => Q ⟨vs, []⟩ s') E s) :
    wpAny M A (evalArgs f true args []) Q E s := by
  match args, hp with
  | (true, x) :: r, hp => simp at hp
  | (false, x) :: r, _ => exact Calls.evalArgs_plain h
  | [], _ =>
    unfold evalArgs
    show wpAny M A (spliced [] >>= _) Q E s
    refine wpAny_bind (wpAny_mono h (fun vs s' h' => wpAny_bind (wpAny_pure (wpAny_holding ?_))) fun _ _ x => x)
    exact wpAny_bind (wpAny_pure (wpAny_bind (wpAny_pure (wpAny_pure h'))))

/-- a call of what is no method -/
theorem callV_sound {f : Value} {fv : Val} {pos : Pos} {trees : List (Bool × Sem Value)} {Q : VPost} {k : Nat} (T : Sta prog w F B C A env sc) (S : St prog w F B env ρ σ s) (hf : VRel F s.heap f fv) (hp : trees.any (·.1) = false)
    (h : wpAny (model prog w) A (spliced trees) (EvsP prog w F B env ρ σ s k fun vs σ₂ => callV C fv vs σ₂ Q) (EvP prog w F B env ρ σ s C.exc) s) :
    wpAny (model prog w) A (callWith pos f [] trees []) (EvP prog w F B env ρ σ s Q) (EvP prog w F B env ρ σ s C.exc) s := by
  cases hf with
  | fn e =>
    rename_i m a
    obtain ⟨o, fd, h1, h2⟩ := T.fns m a e
    refine Calls.callWith_function (o := o) (fd := fd) (evalArgs_any hp (wpAny_mono h (fun vs s₂ ⟨_, as, σ₂, q1, q2, q3, q4⟩ => ⟨⟨q2.inv.keep _ _ h1, h2⟩, ?_⟩) fun _ _ x => x))
    exact shiftV q3 (T.call env m as ρ σ₂ Q C.exc q4 s₂ vs a e q2 q1)
  | cls e =>
    rename_i m a
    obtain ⟨k, hk, hL⟩ := T.clsK m a e
    refine callWith_of (P := fun h => ∀ a o, B.get? a = some o → h.get? a = some o) (by simp [hp]) (fun h hP => ⟨k, hk, hL.keeps hP⟩) (evalArgs_any hp (wpAny_mono h (fun vs s₂ ⟨_, as, σ₂, q1, q2, q3, q4⟩ => ⟨q2.inv.keep, ?_⟩) fun _ _ x => x))
    exact shiftV q3 (T.make env m as ρ σ₂ Q C.exc q4 s₂ vs a e q2 q1)
  | blt id =>
    refine Calls.callWith_builtin hp (evalArgs_any hp (wpAny_mono h (fun vs s₂ ⟨_, as, σ₂, q1, q2, q3, q4⟩ => ?_) fun _ _ x => x))
    exact wpAny_mono (callBlt_sound (E := fun _ _ => False) T.sys T.units T.calm q2 q1 q4) (fun _ _ q => q.back q3) fun _ _ q => q.elim
  | typ Ty =>
    refine PySem.callWith_type hp (evalArgs_any hp (wpAny_mono h (fun vs s₂ ⟨_, as, σ₂, q1, q2, q3, q4⟩ => ?_) fun _ _ x => x))
    exact wpAny_mono (callTyp_sound (E := fun _ _ => False) T.sys T.calm q2 q1 q4) (fun _ _ q => q.back q3) fun _ _ q => q.elim
  | _ =>
    refine wpAny_mono (Q := fun _ _ => False) ?_ (fun _ _ q => q.elim) fun _ _ x => x
    unfold callWith
    refine wpAny_bind (wpAny_holding (evalArgs_any hp (wpAny_mono h (fun vs s₂ ⟨_, as, σ₂, q1, q2, q3, q4⟩ => ?_) fun _ _ x => x)))
    exact q4.elim

theorem unop_sound {op : UnaryOp} {v : Value} {a : Val} {Q : VPost} (S : St prog w F B env ρ σ s) (hv : VRel F s.heap v a) (h : unop op a σ Q) :
    wpAny (model prog w) A (unaryOp op v) (EvP prog w F B env ρ σ s Q) E s := by
  unfold unop at h
  split at h
  · cases hv; exact P.neg_int (EvP.pure S _ (.int _ _) h)
  · exact not_value (TsP.bind (truth_sound S hv h) fun b σ₁ s₁ S₁ g hq => ⟨_, σ₁, .bool _, S₁, g, hq⟩)
  · exact h.elim

theorem slice_sound {p : Addr} {xs : List Val} {vl vu vs : Value} {l u st : Option Int} {value slice : Expr} {ops : List Value} {Q : VPost} (S : St prog w F B env ρ σ s) (hp : σ p = some (.list xs)) (pl : IsPart vl l) (pu : IsPart vu u) (ps : IsPart vs st) (h : sliceV xs l u st σ Q)
    (hs : subscripted slice false (.ref p) (.ref s.heap.objs.size) = operate ops (getItem (.ref p) (.ref s.heap.objs.size))) :
    wpAny (model prog w) A (subscriptTail value slice (.ref p) (.ref s.heap.objs.size)) (EvP prog w F B env ρ σ s Q) E { s with heap := s.heap.push { cls := .type "slice", data := .fields #[vl, vu, vs] } } := by
  have hc := cap_line
  obtain ⟨S₁, g₁⟩ := S.push { cls := .type "slice", data := .fields #[vl, vu, vs] } s.toks
  obtain ⟨i1, n1, e1, r1, z1⟩ := S₁.listAt hp
  have hl := r1.length
  simp only [Array.length_toList] at hl
  have hL : (s.heap.push { cls := .type "slice", data := .fields #[vl, vu, vs] }).IsList p i1 := ⟨_, e1, rfl, n1, rfl⟩
  have fin : ∀ ys : List Val, ys.length ≤ cap → (∀ h', VRels F h' i1.toList xs → VRels F h' (slicePick i1 l u st).toList ys) → st ≠ some 0 → (∀ c, σ c = none → Q (.ref c) (σ.set c (.list ys))) →
      wpAny (model prog w) A (subscriptTail value slice (.ref p) (.ref s.heap.objs.size)) (EvP prog w F B env ρ σ s Q) E { s with heap := s.heap.push { cls := .type "slice", data := .fields #[vl, vu, vs] } } := by
    intro ys hy hr h0 hq
    refine tail_any (s := { s with heap := s.heap.push { cls := .type "slice", data := .fields #[vl, vu, vs] } }) hL.typeIs slot_list_getitem.lookup
      (wpAny_getItem_list_slice (s := { s with heap := s.heap.push { cls := .type "slice", data := .fields #[vl, vu, vs] } }) hL (Heap.IsSliceOf.new ..) pl pu ps h0 ?_ (by lia)) hs
    refine EvP.back g₁ (EvP.alloc (ao := .list ys) S₁ ⟨_, _, Heap.get?_push_size _ rfl, hr _ (r1.mono fun a o e _ => Heap.get?_push_of_some _ e), hy⟩ hq)
  rcases l with _ | l
  · rcases u with _ | u
    · rcases st with _ | k
      · exact False.elim h
      · obtain ⟨rfl, h⟩ : k = 2 ∧ ∀ c, σ c = Option.none → Q (.ref c) (σ.set c (.list (everySecond xs))) := h
        refine fin _ (by rw [everySecond_length]; lia) (fun h' r => ?_) (by simp) h
        rw [pick2]; exact r.every2
    · exact False.elim h
  · exact False.elim h

theorem snd_call_meth (ih : Snd prog w F B n) {o : Expr} {m : Str} {ap cp : Pos} {args : List Expr} {Q : VPost} (T : Sta prog w F B C A env sc) (S : St prog w F B env ρ σ s)
    (h : (plainBase o = true ∧ fewArgs args = true ∧ (ap.endLine == cp.line) = true) ∧ ev C n sc o ρ σ fun ov σ₁ => match methKind ov m σ₁ with
        | some k => methOk C k m = true ∧ evs C n sc args ρ σ₁ fun vs σ₂ => methV C k m vs σ₂ Q
        | Option.none => False) :
    wpAny (model prog w) A (eval (.Call (.Attribute o m ap) args [] cp) env) (EvP prog w F B env ρ σ s Q) (EvP prog w F B env ρ σ s C.exc) s := by
  obtain ⟨⟨hb, hf, hl⟩, h⟩ := h
  obtain ⟨f1, f2, f3⟩ := few_all (env := env) (pos := cp) hf
  rw [arm_eval_Call, base_plain hb]
  refine wpAny_bind (EvP.bind (ih.ev T S h) fun v a σ₁ s₁ hv S₁ g hq => wpAny_bind (wpAny_standAt (shiftV g ?_)))
  split at hq
  · rename_i k hk
    obtain ⟨hok, hq⟩ := hq
    have hform : methodCallForm (args.length + ([] : List Keyword).length) (backTo cp (starEach args env)) (backToKw cp (keywordEach [] env)) = true := by
      unfold methodCallForm
      rw [f1]
      simp [keywordEach, backToKw]; lia
    have hpos : methodCallPos true o env ap cp = pure cp := by unfold methodCallPos; simp [hl]
    have ha := ih.evs cp T S₁ hf hq
    unfold methodCall
    rw [hform]
    unfold methKind at hk
    split at hk
    · rename_i p
      cases hv
      split at hk
      · rename_i xs hp
        cases hk
        obtain ⟨i1, n1, e1, r1, z1⟩ := S₁.listAt hp
        obtain ⟨id, hid⟩ : ∃ id, listId m = some id := by
          unfold listId; simp only [methOk, beq_iff_eq] at hok
          subst hok
          exact ⟨_, rfl⟩
        obtain ⟨sl, ty⟩ := listId_slot hid
        refine wpAny_bind (wpAny_holding (getMethod_builtin ⟨_, e1, rfl⟩ PySem.F.plainAttrs_list sl ty (fun a ha => by cases ha; exact ⟨_, e1, rfl⟩) ?_))
        refine wpAny_bind (wpAny_of_eq hpos (Calls.callWith_builtin f2 (evalArgs_any f2 (wpAny_mono ha (fun vs s₂ ⟨_, as, σ₂, q1, q2, q3, q4⟩ => ?_) fun _ _ x => x))))
        exact wpAny_mono (listMeth_sound (E := fun _ _ => False) hid q2 q1 q4) (fun _ _ q => q.back q3) fun _ _ q => q.elim
      · rename_i xs hp
        cases hk
        obtain ⟨o1, e1, d1⟩ : ∃ o, s₁.heap.get? p = some o ∧ o.ExactDict := by
          obtain ⟨_, ⟨o1, _, _, e1, x1, _⟩, _⟩ := (S₁.inv.obj p _ hp).2; exact ⟨o1, e1, x1⟩
        obtain ⟨id, hid⟩ : ∃ id, dictId m = some id := by
          unfold dictId; simp only [methOk, Bool.or_eq_true, beq_iff_eq] at hok
          rcases hok with (e | e) | e <;> subst e
          · exact ⟨_, rfl⟩
          · exact ⟨_, by rw [if_neg (by decide), if_pos rfl]⟩
          · exact ⟨_, by rw [if_neg (by decide), if_neg (by decide), if_pos rfl]⟩
        obtain ⟨sl, ty⟩ := dictId_slot hid
        refine wpAny_bind (wpAny_holding (getMethod_builtin ⟨_, e1, d1.1⟩ PySem.F.plainAttrs_dict sl ty (fun a ha => by cases ha; exact ⟨_, e1, d1.2.1⟩) ?_))
        refine wpAny_bind (wpAny_of_eq hpos (Calls.callWith_builtin f2 (evalArgs_any f2 (wpAny_mono ha (fun vs s₂ ⟨_, as, σ₂, q1, q2, q3, q4⟩ => ?_) fun _ _ x => x))))
        exact wpAny_mono (dictMeth_sound (E := fun _ _ => False) hid T.sys T.units q2 q1 q4) (fun _ _ q => q.back q3) fun _ _ q => q.elim
      · rename_i xs hp
        cases hk
        obtain ⟨o1, e1, d1⟩ : ∃ o, s₁.heap.get? p = some o ∧ o.ExactDict := by
          obtain ⟨_, ⟨o1, _, _, e1, x1, _⟩, _⟩ := (S₁.inv.obj p _ hp).2; exact ⟨o1, e1, x1⟩
        obtain ⟨id, hid⟩ : ∃ id, dictId m = some id := by
          unfold dictId; simp only [methOk, Bool.or_eq_true, beq_iff_eq] at hok
          rcases hok with (e | e) | e <;> subst e
          · exact ⟨_, rfl⟩
          · exact ⟨_, by rw [if_neg (by decide), if_pos rfl]⟩
          · exact ⟨_, by rw [if_neg (by decide), if_neg (by decide), if_pos rfl]⟩
        obtain ⟨sl, ty⟩ := dictId_slot hid
        refine wpAny_bind (wpAny_holding (getMethod_builtin ⟨_, e1, d1.1⟩ PySem.F.plainAttrs_dict sl ty (fun a ha => by cases ha; exact ⟨_, e1, d1.2.1⟩) ?_))
        refine wpAny_bind (wpAny_of_eq hpos (Calls.callWith_builtin f2 (evalArgs_any f2 (wpAny_mono ha (fun vs s₂ ⟨_, as, σ₂, q1, q2, q3, q4⟩ => ?_) fun _ _ x => x))))
        exact wpAny_mono (dictMeth_sound (E := fun _ _ => False) hid T.sys T.units q2 q1 q4) (fun _ _ q => q.back q3) fun _ _ q => q.elim
      · rename_i c dx hp
        split at hk
        · rename_i fs hfs
          split at hk
          · rename_i hno
            cases hk
            obtain ⟨f, hf1, hf2⟩ := T.meth c m hok
            obtain ⟨ob, fd, h1, h2⟩ := T.methFn c m f hf1
            refine wpAny_bind (wpAny_holding (hf2 env p ρ σ₁ s₁ _ _ _ S₁ (by unfold methKind; simp only [hp, hfs, hno, if_true]) ?_))
            refine wpAny_bind (wpAny_of_eq hpos (Calls.callWith_function (o := ob) (fd := fd) (evalArgs_any f2 (wpAny_mono ha (fun vs s₂ ⟨_, as, σ₂, q1, q2, q3, q4⟩ => ⟨⟨q2.inv.keep _ _ h1, h2⟩, ?_⟩) fun _ _ x => x))))
            exact shiftV q3 (T.mcall env c m _ ρ σ₂ Q C.exc q4 s₂ (.ref p :: vs) f hf1 q2 (.cons (.ref p) q1))
          · cases hk
        · cases hk
      · cases hk
    · cases hk
  · exact hq.elim
end
end Mine

set_option linter.unusedVariables false
namespace Mine
open PySem PySem.W PyProof.Rows
section
variable {prog : Program} {w : World} {F : Tab} {B : Heap} {env : Env} {sc : Scope} {C : Cx} {ρ : Rho} {σ σ₁ σ' : Store} {s s₁ s' : Shared} {A : Around} {E : Value → Shared → Prop} {n : Nat} {X : VPost}

theorem EvP.tupd {Q : VPost} {vs : List Value} {as : List Val} {tk : Nat} (S : St prog w F B env ρ σ s) (hv : VRels F s.heap vs as) (hz : vs.length ≤ cap) (h : Q (.tup as) σ) :
    EvP prog w F B env ρ σ s Q (.ref s.heap.objs.size) { s with heap := s.heap.push { cls := .type "tuple", data := .seq vs.toArray }, toks := tk } := by
  obtain ⟨S', g⟩ := S.push { cls := .type "tuple", data := .seq vs.toArray } tk
  exact ⟨_, σ, .tup (Heap.get?_push_size _ rfl) rfl rfl (by simpa using S.vals g hv) (by simpa using hz), S', g, h⟩

theorem new_dict (S : St prog w F B env ρ σ s) : (s.heap.push { cls := .type "dict", data := .dict #[] }).DictOfH (tupleKind (intKind prog w)) s.heap.objs.size [] :=
  ⟨_, #[], 0, Heap.get?_push_size _ rfl, ⟨rfl, rfl, rfl⟩, rfl, rfl, fun x hx => by simp at hx, List.nodup_nil⟩

theorem Go.newObj {P : Addr → Prop} {σ σ₂ : Store} {s s₂ : Shared} {d : Addr} {h' : Heap} {tk : Nat} {ao : AObj} (g : Go P σ s σ₂ s₂) (I : Inv prog w F B σ₂ s₂.heap) (hd : s.heap.get? d = none) (hσ : σ₂ d = none)
    (hk : ∀ a o, a ≠ d → s₂.heap.get? a = some o → h'.get? a = some o) : Go P σ s (σ₂.set d ao) { s₂ with heap := h', toks := tk } := by
  have off : ∀ a o, s.heap.get? a = some o → a ≠ d := by rintro a o e rfl; rw [hd] at e; cases e
  refine ⟨?_, fun a o hp e hn => hk a o (off a o e) (g.keep a o hp e hn), fun a o e => ?_, fun a h1 h2 => ?_, fun a h1 => ?_, fun a es e => ?_⟩
  · obtain ⟨h1, t1, e⟩ := g.same; exact ⟨h', tk, by rw [e]⟩
  · obtain ⟨o', e'⟩ := g.live a o e; exact ⟨o', hk a o' (off a o e) e'⟩
  · by_cases ha : a = d
    · subst ha; exact hd
    · unfold Store.set at h2; rw [if_neg ha] at h2; exact g.grow a h1 h2
  · unfold Store.set; split
    · simp
    · exact g.dom a h1
  · obtain ⟨e1, e2⟩ := g.ro a es e
    have hne : a ≠ d := by rintro rfl; rw [hσ] at e1; cases e1
    obtain ⟨ob, e3, _⟩ := ORel.live prog w F (I.obj a _ e1).2
    exact ⟨by unfold Store.set; rw [if_neg hne]; exact e1, (hk a ob hne e3).trans (e3.symm.trans e2)⟩

/-- what the comprehension owes -/
def CompOk (prog : Program) (w : World) (F : Tab) (B : Heap) (n : Nat) : Prop :=
  ∀ {C : Cx} {A : Around} {env : Env} {sc : Scope} {elt target iter : Expr} {ifs : List Expr} {csc : Scope} {pos : Pos} {ρ : Rho} {σ : Store} {s : Shared} {Q : VPost}, Sta prog w F B C A env sc → St prog w F B env ρ σ s →
    ev C (n + 1) sc (.ListComp elt [⟨target, iter, ifs, 0⟩] csc pos) ρ σ Q →
    wpAny (model prog w) A (eval (.ListComp elt [⟨target, iter, ifs, 0⟩] csc pos) env) (EvP prog w F B env ρ σ s Q) (EvP prog w F B env ρ σ s C.exc) s

theorem snd_ev (ih : Snd prog w F B n) (hcomp : CompOk prog w F B n) : ∀ {C : Cx} {A : Around} {env : Env} {sc : Scope} {e : Expr} {ρ : Rho} {σ : Store} {s : Shared} {Q : VPost}, Sta prog w F B C A env sc → St prog w F B env ρ σ s → Mine.ev C (n + 1) sc e ρ σ Q →
    wpAny (model prog w) A (eval e env) (EvP prog w F B env ρ σ s Q) (EvP prog w F B env ρ σ s C.exc) s := by
  intro C A env sc e ρ σ s Q T S h
  have hcl := cap_line
  have hc0 : cap = 1000000 := rfl
  cases e with
  | Constant c k p =>
    cases c with
    | none => exact wpAny_Constant_none (EvP.now S .none h)
    | bool b => exact wpAny_Constant_bool (EvP.now S (.bool b) h)
    | int i => exact wpAny_Constant_int (EvP.pure S _ (.int i _) h)
    | str x => exact wpAny_Constant_str (EvP.pure S _ (.str x _) h)
    | _ => exact False.elim h
  | Name x p =>
    rw [ev_Name] at h
    split at h
    · rename_i hk
      split at h
      · rename_i v hv; exact glob_sound T S hk hv h
      · exact h.elim
    · rename_i hk
      split at h
      · rename_i v hv; exact load_sound T S (.inl hk) hv h
      · exact h.elim
    · rename_i hk
      split at h
      · rename_i v hv; exact load_sound T S (.inr (.inl hk)) hv h
      · exact h.elim
    · rename_i hk
      split at h
      · rename_i v hv; exact load_sound T S (.inr (.inr hk)) hv h
      · exact h.elim
    · exact h.elim
  | BinOp l op r p =>
    rw [ev_BinOp] at h
    refine wpAny_BinOp (EvP.bind (ih.ev T S h) fun a va σ₁ s₁ ha S₁ g hq => EvP.bind (shiftX g (ih.ev T S₁ hq)) fun b vb σ₂ s₂ hb S₂ g₂ hq₂ => ?_)
    exact wpAny_mono (binop_sound (E := fun _ _ => False) S₂ (S₁.val g₂ ha) hb hq₂) (fun _ _ q => q.back (g.trans g₂)) fun _ _ q => q.elim
  | UnaryOp op x p =>
    rw [ev_UnaryOp] at h
    refine wpAny_UnaryOp (EvP.bind (ih.ev T S h) fun a va σ₁ s₁ ha S₁ g hq => ?_)
    exact wpAny_mono (unop_sound (E := fun _ _ => False) S₁ ha hq) (fun _ _ q => q.back g) fun _ _ q => q.elim
  | BoolOp op vs p => rw [ev_BoolOp] at h; rw [arm_eval_BoolOp]; exact ih.bool p T S h
  | Compare l ops rs p =>
    rw [ev_Compare] at h
    rw [arm_eval_Compare]
    refine wpAny_bind (EvP.bind (ih.ev T S h) fun a va σ₁ s₁ ha S₁ g hq => ?_)
    exact wpAny_mono (ih.cmp p T S₁ ha hq) (fun _ _ ⟨r, e, σ₂, S₂, g₂, hq₂⟩ => e ▸ ⟨_, σ₂, .bool r, S₂, g.trans g₂, hq₂⟩) fun _ _ q => q.back g
  | List es p =>
    rw [ev_List] at h
    have hl := (few_all (env := env) (pos := p) h.1).2.2
    refine wpAny_List (wpAny_mono (ih.evs p T S h.1 h.2) (fun vs s₁ ⟨hk, as, σ₁, hv, S₁, g, hq⟩ => ⟨by lia, ?_⟩) fun _ _ x => x)
    have hvl := hv.length
    exact EvP.back g (EvP.alloc (ao := .list as) S₁ ⟨_, _, Heap.get?_push_size _ rfl, by simpa using hv.mono fun a o e _ => Heap.get?_push_of_some _ e, by lia⟩ hq)
  | Tuple es k p =>
    rw [ev_Tuple] at h
    have hl := (few_all (env := env) (pos := p) h.1).2.2
    refine wpAny_Tuple (wpAny_mono (ih.evs p T S h.1 h.2) (fun vs s₁ ⟨hk, as, σ₁, hv, S₁, g, hq⟩ => ⟨by lia, ?_⟩) fun _ _ x => x)
    exact EvP.back g (EvP.tupd S₁ hv (by lia) hq)
  | Subscript o i p =>
    cases i with
    | Slice l u st sp =>
      rw [ev_Slice] at h
      refine Subscript_ (EvP.bind (ih.ev T S h) fun v va σ₁ s₁ hv S₁ g hq => ?_)
      rw [arm_eval_Slice]
      refine wpAny_bind (wpAny_mono (ih.opt T S₁ hq) (fun vl s₂ ⟨lo, σ₂, pl, S₂, g₂, hq₂⟩ => wpAny_bind (wpAny_holding (wpAny_mono (ih.opt T S₂ hq₂) (fun vu s₃ ⟨uo, σ₃, pu, S₃, g₃, hq₃⟩ => wpAny_bind (wpAny_holding
        (wpAny_mono (ih.opt T S₃ hq₃) (fun vs s₄ ⟨so, σ₄, ps, S₄, g₄, hq₄⟩ => ?_) fun _ _ q => q.back (g.trans (g₂.trans g₃))))) fun _ _ q => q.back (g.trans g₂)))) fun _ _ q => q.back g)
      have gg := g.trans (g₂.trans (g₃.trans g₄))
      cases va with
      | ref pa =>
        dsimp only at hq₄
        split at hq₄
        · rename_i xs hpa
          cases hv
          refine wpAny_newObj_type (wpAny_mono (slice_sound (E := fun _ _ => False) (ops := if st.isNone then [.ref s₄.heap.objs.size, .ref pa] else [.ref pa, .ref s₄.heap.objs.size]) S₄ hpa pl pu ps hq₄ ?_) (fun _ _ q => q.back gg) fun _ _ q => q.elim)
          cases st <;> rfl
        · exact hq₄.elim
      | _ => exact hq₄.elim
    | _ =>
      refine Subscript_ (EvP.bind (ih.ev T S (Q := fun ov σ₁ => ev C n sc _ ρ σ₁ fun iv σ₂ => subscr ov iv σ₂ Q) h) fun v va σ₁ s₁ hv S₁ g hq => EvP.bind (shiftX g (ih.ev T S₁ hq)) fun x xa σ₂ s₂ hx S₂ g₂ hq₂ => ?_)
      exact wpAny_mono (subscr_sound (E := fun _ _ => False) S₂ (S₁.val g₂ hv) hx hq₂ (fun _ _ => rfl) T.units) (fun _ _ q => q.back (g.trans g₂)) fun _ _ q => q.elim
  | Call f args ks cp =>
    cases ks with
    | cons _ _ => cases f <;> exact False.elim h
    | nil =>
      cases f with
      | Name x p =>
        rw [ev_CallN] at h
        obtain ⟨f1, f2, f3⟩ := few_all (env := env) (pos := cp) h.1
        refine Call_Name rfl (EvP.bind (ih.ev T S h.2) fun v va σ₁ s₁ hv S₁ g hq => shiftV g ?_)
        exact callV_sound T S₁ hv f2 (ih.evs cp T S₁ h.1 hq)
      | Attribute o m ap =>
        exact snd_call_meth ih T S h
      | _ => exact False.elim h
  | Dict ks vs p =>
    match ks, vs with
    | [], [] =>
      rw [ev_Dict0] at h
      rw [eval_Dict_empty]
      refine wpAny_bind (wpAny_standAt (wpAny_newObj_type ?_))
      exact EvP.alloc (ao := .dictP []) S ⟨[], new_dict S, trivial, by simp⟩ h
    | [], _ :: _ => exact False.elim h
    | _ :: _, _ => exact False.elim h
  | ListComp elt gens csc pos =>
    match gens with
    | [] => exact False.elim h
    | [⟨target, iter, ifs, k⟩] =>
      by_cases hk : k = 0
      · subst hk; exact hcomp T S h
      · cases k with
        | ofNat m => cases m with
          | zero => exact absurd rfl hk
          | succ m => exact False.elim h
        | negSucc m => exact False.elim h
    | g :: g' :: l =>
      obtain ⟨t, i, f, k⟩ := g
      cases k with
      | ofNat m => cases m <;> exact False.elim h
      | negSucc m => exact False.elim h
  | _ => exact False.elim h
end
end Mine

set_option linter.unusedVariables false
namespace Mine
open PySem PySem.W PyProof.Rows

theorem ofInts_get (l : List Int) (i : Nat) : (ofInts l)[i]? = (l[i]?).map Val.int := by simp [ofInts]
theorem rangeL_get {lo hi : Int} {i : Nat} : (rangeL lo hi)[i]? = if i < (hi - lo).toNat then some (lo + i) else none := by
  unfold rangeL
  rw [List.getElem?_map]
  by_cases h : i < (hi - lo).toNat
  · rw [if_pos h, List.getElem?_range h]; rfl
  · rw [if_neg h, List.getElem?_eq_none (by simp; lia)]; rfl
theorem rangeL_length (lo hi : Int) : (rangeL lo hi).length = (hi - lo).toNat := by simp [rangeL]

/-- an iterator on its way -/
def ItAt (σ : Store) (v : Val) (I : Addr) (i : Nat) (items : List Val) (h : Heap) : Prop :=
  match v with
  | .ref l => h.IsListIter I l i ∧ σ l = some (.list items)
  | .rng lo hi => IsRangeIter h I (lo + i) (((hi - lo).toNat : Int) - i) 1 ∧ items = ofInts (rangeL lo hi) ∧ i ≤ (hi - lo).toNat
  | _ => False

section
variable {prog : Program} {w : World} {F : Tab} {B : Heap} {env : Env} {sc : Scope} {C : Cx} {ρ : Rho} {σ σ₁ σ' : Store} {s s₁ s' : Shared} {A : Around} {E : Value → Shared → Prop} {n : Nat} {X : VPost}

theorem ItAt.at {v : Val} {I : Addr} {i : Nat} {items : List Val} {h h' : Heap} (x : ItAt σ v I i items h) (hk : ∀ o, h.get? I = some o → h'.get? I = some o) (hs : still σ v σ') : ItAt σ' v I i items h' := by
  cases v with
  | ref l => obtain ⟨⟨o, e, r⟩, e2⟩ := x; exact ⟨⟨o, hk o e, r⟩, (show σ' l = σ l from hs).trans e2⟩
  | rng lo hi => exact ⟨hk _ x.1, x.2⟩
  | _ => exact x.elim
theorem ItAt.thaw {v : Val} {I : Addr} {i : Nat} {items : List Val} {h : Heap} (x : ItAt σ v I i items h) : ∃ o, h.get? I = some o ∧ ¬ Frozen o := by
  cases v with
  | ref l => obtain ⟨⟨o, e, c, d⟩, _⟩ := x; exact ⟨o, e, by rintro ⟨q, _⟩; rw [c] at q; simp at q⟩
  | rng lo hi => exact ⟨_, x.1, by simp [Frozen]⟩
  | _ => exact x.elim

theorem iter_start {v : Value} {a : Val} {items : List Val} {Q : Value → Shared → Prop} (S : St prog w F B env ρ σ s) (hv : VRel F s.heap v a) (hi : itemsOf σ a = some items)
    (h : ∀ h', (∀ b o, s.heap.get? b = some o → h'.get? b = some o) → ItAt σ a s.heap.objs.size 0 items h' → Q (.ref s.heap.objs.size) { s with heap := h' }) :
    wpAny (model prog w) A (pyIter v) Q E s := by
  have hc : cap = 1000000 := rfl
  unfold itemsOf at hi
  split at hi
  · split at hi
    · rename_i p xs hp
      cases hi; cases hv
      obtain ⟨i1, n1, e1, r1, z1⟩ := S.listAt hp
      exact wpAny_pyIter_list ⟨_, e1, rfl, n1, rfl⟩ (h _ (fun b o e => Heap.get?_push_of_some _ e) ⟨⟨_, Heap.get?_push_size _ rfl, rfl, rfl⟩, hp⟩)
    · cases hi
  · rename_i lo hi'
    cases hi
    cases hv with
    | rng hr h1 h2 h3 =>
      refine wpAny_pyIter_range hr (small_one (by lia) (by lia) (by lia) (by lia)) (h _ (fun b o e => Heap.get?_push_of_some _ e) ⟨?_, rfl, Nat.zero_le _⟩)
      have e : Builtin.Range.rangeSize lo hi' 1 = (((hi' - lo).toNat : Nat) : Int) := by rw [rangeSize_one]; split <;> lia
      have := Heap.get?_push_size s.heap (o := { cls := .type "range_iterator", data := .fields #[rawInt lo, rawInt (Builtin.Range.rangeSize lo hi' 1), rawInt 1] }) rfl
      rw [e] at this ⊢
      simpa using this
  · cases hi

theorem iter_next {a : Val} {I : Addr} {i : Nat} {items : List Val} {Q : Option Value → Shared → Prop} (S : St prog w F B env ρ σ s) (hI : σ I = none) (x : ItAt σ a I i items s.heap) (hm : items[i]? = none → A.handled = none)
    (hnext : ∀ y b h' tk, items[i]? = some b → VRel F s.heap y b → ItAt σ a I (i + 1) items h' → (∀ b o, b ≠ I → s.heap.get? b = some o → h'.get? b = some o) → Q (some y) { s with heap := h', toks := tk })
    (hend : ∀ h', items[i]? = none → (∀ b o, b ≠ I → s.heap.get? b = some o → h'.get? b = some o) → Q none { s with heap := h' }) :
    wpAny (model prog w) A (pyNext (.ref I)) Q E s := by
  cases a with
  | ref l =>
    obtain ⟨hit, hl⟩ := x
    obtain ⟨i1, n1, e1, r1, z1⟩ := S.listAt hl
    have hL : s.heap.IsList l i1 := ⟨_, e1, rfl, n1, rfl⟩
    cases hx : i1[i]? with
    | some y =>
      obtain ⟨b, hb, hr⟩ := r1.getL (i := i) (v := y) (by simpa using hx)
      refine wpAny_pyNext_list_item hit hL hx fun h' hit' hs' => ?_
      exact hnext y b h' s.toks hb hr ⟨hit', hl⟩ fun b o hne e => hs'.extBut b o hne e
    | none =>
      have hn : items[i]? = none := by
        have := r1.length
        simp only [Array.length_toList] at this
        rw [Array.getElem?_eq_none_iff] at hx
        rw [List.getElem?_eq_none_iff]; lia
      refine wpAny_pyNext_list_end (hm hn) hit hL hx fun h' he' => ?_
      exact hend h' hn fun b o hne e => he' b o hne e
  | rng lo hi =>
    obtain ⟨hit, rfl, hle⟩ := x
    by_cases hlt : i < (hi - lo).toNat
    · refine wpAny_pyNext_range_item hit (by lia) fun h' hit' hs' => ?_
      have hb : (ofInts (rangeL lo hi))[i]? = some (.int (lo + i)) := by rw [ofInts_get, rangeL_get, if_pos hlt]; rfl
      refine hnext _ _ h' (s.toks + 1) hb (.int _ _) ⟨?_, rfl, hlt⟩ fun b o hne e => hs'.extBut b o hne e
      have e1 : lo + (i : Int) + 1 = lo + ((i + 1 : Nat) : Int) := by lia
      have e2 : ((hi - lo).toNat : Int) - (i : Int) - 1 = ((hi - lo).toNat : Int) - ((i + 1 : Nat) : Int) := by lia
      rw [e1, e2] at hit'
      exact hit'
    · have hn : (ofInts (rangeL lo hi))[i]? = none := by rw [ofInts_get, rangeL_get, if_neg hlt]; rfl
      refine wpAny_pyNext_range_end (hm hn) hit (by lia) fun h' he' => ?_
      exact hend h' hn fun b o hne e => he' b o hne e
  | _ => exact x.elim

/-- an object beside the store turns -/
theorem St.aside {h' : Heap} {tk : Nat} {I : Addr} (S : St prog w F B env ρ σ s) (hk : ∀ a o, a ≠ I → s.heap.get? a = some o → h'.get? a = some o) (hB : B.get? I = none) (hσ : σ I = none) (hL : I ≠ env.locals)
    (hC : ∀ x c, env.cells.lookup x = some c → c ≠ I) (hf : ∀ o, s.heap.get? I = some o → ¬ Frozen o) : St prog w F B env ρ σ { s with heap := h', toks := tk } := by
  have fz : ∀ a o, s.heap.get? a = some o → Frozen o → h'.get? a = some o := fun a o e hfr => hk a o (by rintro rfl; exact hf o e hfr) e
  obtain ⟨m, hm, hl⟩ := S.fra.rho.loc
  refine ⟨⟨fun a o e => hk a o (by rintro rfl; rw [hB] at e; cases e) (S.inv.keep a o e), fun a o e => ⟨(S.inv.obj a o e).1, ?_⟩, S.inv.scr⟩, ⟨⟨⟨m, hm.at' fun o e => hk _ o (Ne.symm hL) e, fun x a h1 h2 => ?_⟩, fun x a h1 h2 => ?_⟩, S.fra.offL, fun x c hc => ?_⟩, S.offB, S.offC⟩
  · obtain ⟨ob, e1, _⟩ := ORel.live prog w F (S.inv.obj a o e).2
    exact ORel.mono prog w F fz ((hk a ob (by rintro rfl; rw [hσ] at e; cases e) e1).trans e1.symm) (S.inv.obj a o e).2
  · obtain ⟨v, h3, h4⟩ := hl x a h1 h2
    exact ⟨v, h3, h4.mono fz⟩
  · obtain ⟨c, v, h3, ⟨oc, h4, h5⟩, h6⟩ := S.fra.rho.cel x a h1 h2
    exact ⟨c, v, h3, ⟨oc, hk _ _ (hC x c h3) h4, h5⟩, h6.mono fz⟩
  · obtain ⟨h1, h2, v, oc, h3, h4⟩ := S.fra.offC x c hc
    exact ⟨h1, h2, v, oc, hk _ _ (hC x c hc) h3, h4⟩
theorem Go.aside {P : Addr → Prop} {σ₀ : Store} {s₀ : Shared} {I : Addr} {h' : Heap} {tk : Nat} (g : Go P σ₀ s₀ σ s) (J : Inv prog w F B σ s.heap) (hd : s₀.heap.get? I = none) (hσ : σ I = none)
    (hk : ∀ a o, a ≠ I → s.heap.get? a = some o → h'.get? a = some o) : Go P σ₀ s₀ σ { s with heap := h', toks := tk } := by
  have off : ∀ a o, s₀.heap.get? a = some o → a ≠ I := by rintro a o e rfl; rw [hd] at e; cases e
  refine ⟨?_, fun a o hp e hn => hk a o (off a o e) (g.keep a o hp e hn), fun a o e => ?_, g.grow, g.dom, fun a es e => ?_⟩
  · obtain ⟨h1, t1, e⟩ := g.same; exact ⟨h', tk, by rw [e]⟩
  · obtain ⟨o', e'⟩ := g.live a o e; exact ⟨o', hk a o' (off a o e) e'⟩
  · obtain ⟨e1, e2⟩ := g.ro a es e
    obtain ⟨ob, e3, _⟩ := ORel.live prog w F (J.obj a _ e1).2
    exact ⟨e1, (hk a ob (by rintro rfl; rw [hσ] at e1; cases e1) e3).trans (e3.symm.trans e2)⟩

/-- an address that was not there is no one's -/
theorem St.newAddr {I : Addr} (S : St prog w F B env ρ σ s) (hI : s.heap.get? I = none) : B.get? I = none ∧ σ I = none ∧ I ≠ env.locals ∧ ∀ x c, env.cells.lookup x = some c → c ≠ I := by
  refine ⟨?_, S.freshOf hI, ?_, ?_⟩
  · cases e : B.get? I with
    | none => rfl
    | some o => have := S.inv.keep _ _ e; rw [hI] at this; cases this
  · rintro rfl
    obtain ⟨m, o, _, _, e, _⟩ := S.ns
    rw [hI] at e; cases e
  · rintro x c hc rfl
    obtain ⟨_, _, v, o, e, _⟩ := S.fra.offC x c hc
    rw [hI] at e; cases e
theorem sizeNone (h : Heap) : h.get? h.objs.size = none := by
  cases e : h.get? h.objs.size with
  | none => rfl
  | some o => exact absurd (Heap.lt_size e) (Nat.lt_irrefl _)

theorem ev_notSetIt {e : Expr} {Q : VPost} (h : ev C n sc e ρ σ Q) : ∀ x, foldedSetIterable e env x = pure x := by
  cases n with
  | zero => exact False.elim h
  | succ n => cases e <;> first | exact fun _ => rfl | exact False.elim h

theorem letGo_it {target : Expr} {a : Val} {I : Addr} {i : Nat} {items : List Val} {v : Value} {Q : Unit → Shared → Prop} (x : ItAt σ a I i items s.heap) (h : Q () s) : wpAny (model prog w) A (letOwnedTupleGo target (.ref I) v) Q E s := by
  cases a with
  | ref l => exact letGo_listiter x.1 h
  | rng lo hi =>
    have ho := x.1
    unfold letOwnedTupleGo
    cases target <;> first
      | exact wpAny_pure h
      | (cases v <;> first
          | exact wpAny_pure h
          | (refine wpAny_bind (wpAny_load ho ?_)
             exact wpAny_pure h))
  | _ => exact x.elim

/-- a target takes its value -/
theorem assign_sound {t : Expr} {v : Value} {a : Val} {ρ' : Rho} {Q : Unit → Shared → Prop} (T : Sta prog w F B C A env sc) (S : St prog w F B env ρ σ s) (hv : VRel F s.heap v a) (hb : bindT C.calm sc t a ρ = some ρ')
    (h : ∀ s', St prog w F B env ρ' σ s' → Go (Own env sc) σ s σ s' → Q () s') : wpAny (model prog w) A (assign t env v) Q E s := by
  rcases bindT_is hb with ⟨x, px, rfl, hl, rfl⟩ | ⟨x, px, y, py, k, p, u, w', rfl, rfl, hc, rfl⟩
  · exact wpAny_assign_Name (store_sound T S hl hv h)
  · simp only [Bool.and_eq_true] at hc
    obtain ⟨⟨⟨h1, h2⟩, h3⟩, h4⟩ := hc
    cases hv with
    | tup e c d r z =>
      rename_i ta to items nn
      have hl := r.length
      simp only [Array.length_toList, List.length_cons, List.length_nil] at hl
      refine assign_Tuple_tuple (items := items) (T.calm h1) ⟨_, e, c, nn, d⟩ (by rw [hl]; rfl) rfl fun h' he => ?_
      obtain ⟨q1, q2, q3, q4⟩ := S.newAddr (sizeNone s.heap)
      have hk : ∀ a o, a ≠ s.heap.objs.size → s.heap.get? a = some o → h'.get? a = some o := fun a o hne e => he a o hne e
      have S₁ : St prog w F B env ρ σ { s with heap := h' } := S.aside (tk := s.toks) hk q1 q2 q3 q4 fun o e => by rw [sizeNone] at e; cases e
      have g₁ : Go (Own env sc) σ s σ { s with heap := h' } := Go.aside (tk := s.toks) (Go.refl _ σ s) S.inv (sizeNone _) q2 hk
      have r₁ := r.mono (S.frozenO g₁)
      generalize items.toList = l at r₁
      obtain ⟨vx, vy, rfl, hx, hy⟩ := r₁.two
      · show wpAny _ A (assignInOrder [assign (.Name x px) env, assign (.Name y py) env] [vx, vy]) _ _ _
        refine assignInOrder_cons (wpAny_assign_Name (store_sound T S₁ h2 hx fun s₂ S₂ g₂ => assignInOrder_cons (wpAny_assign_Name (store_sound T S₂ h3 (S₁.valO g₂ hy) fun s₃ S₃ g₃ => assignInOrder_nil ?_))))
        exact h s₃ S₃ (g₁.trans (g₂.trans g₃))
end
end Mine

set_option linter.unusedVariables false
namespace Mine
open PySem PySem.W PyProof.Rows

section
variable {prog : Program} {w : World} {F : Tab} {B : Heap} {env : Env} {sc csc : Scope} {C : Cx} {ρ : Rho} {σ σ₁ σ' : Store} {s s₁ s' : Shared} {A : Around} {E : Value → Shared → Prop} {n : Nat} {X : VPost}

theorem codeAny_compLoop_any {R : Result → Shared → Prop} {elt target iter : Expr} {ifs : List Expr} {scope : Scope} {pos : Pos} {it acc : Value} {env : Env} (I : Nat → Shared → Prop)
    (turn : ∀ n s, I n s → wpAny (model prog w) A (pyNext it) (fun r s₁ => match r with
      | none => R (.ok .next) s₁
      | some v => wpAny (model prog w) A (letOwnedTupleGo target it v) (fun _ s₁' => wpAny (model prog w) A (assign target env v) (fun _ s₂ =>
          wpAny (model prog w) A (forIn ifs true fun c r => if r = true then do let ok ← isTrue c env (eval c env); pure (ForInStep.yield ok) else pure (ForInStep.yield r)) (fun ok s₃ =>
            if ok = true then wpAny (model prog w) A (eval elt env) (fun x s₄ =>
              wpAny (model prog w) A (call (.builtin "list.append") [acc, x]) (fun _ s₅ => ∃ m, m < n ∧ I m s₅) (notedBy (model prog w) A env fun e s' => R (.error e) s') s₄) (notedBy (model prog w) A env fun e s' => R (.error e) s') s₃
            else ∃ m, m < n ∧ I m s₃) (notedBy (model prog w) A env fun e s' => R (.error e) s') s₂) (notedBy (model prog w) A env fun e s' => R (.error e) s') s₁') (notedBy (model prog w) A env fun e s' => R (.error e) s') s₁) (notedBy (model prog w) A env fun e s' => R (.error e) s') s)
    (n : Nat) (h : I n s) :
    codeAny (model prog w) A (.compLoop (.ListComp elt [⟨target, iter, ifs, 0⟩] scope pos) 0 it acc env) R s := by
  refine codeAny_loop rfl I (fun n s hI => ?_) n h
  show wpAny _ A ((compTurn (.ListComp elt [⟨target, iter, ifs, 0⟩] scope pos) 0 it acc env).onRaise (fun x => do noteFrame x env; theTreesLotGoes x)) _ _ s
  refine wpAny_noted ?_
  rw [compTurn_list]
  refine wpAny_bind (wpAny_standAt (wpAny_bind (wpAny_mono (turn n s hI) (fun r s₁ h₁ => ?_) fun _ _ h' => h')))
  cases r with
  | none => exact wpAny_pure h₁
  | some v =>
    refine wpAny_bind (wpAny_mono h₁ (fun _ s₁' h₁' => ?_) fun _ _ h' => h')
    refine wpAny_bind (wpAny_mono h₁' (fun _ s₂ h₂ => wpAny_bind (wpAny_mono h₂ (fun ok s₃ h₃ => ?_) fun _ _ h' => h')) fun _ _ h' => h')
    cases ok with
    | false => exact wpAny_pure ⟨rfl, h₃⟩
    | true =>
      exact wpAny_bind (wpAny_bind (wpAny_mono h₃ (fun x s₄ h₄ => wpAny_bind (wpAny_mono h₄ (fun _ s₅ h₅ => wpAny_pure (wpAny_pure ⟨rfl, h₅⟩)) fun _ _ h' => h')) fun _ _ h' => h'))

/-- a frame goes on where all that it has stays -/
theorem St.after {P : Addr → Prop} (S : St prog w F B env ρ σ s) (g : Go P σ s σ' s') (hP : ∀ a o, s.heap.get? a = some o → ¬ P a) (J : Inv prog w F B σ' s'.heap) : St prog w F B env ρ σ' s' := by
  have fz : ∀ a o, s.heap.get? a = some o → Frozen o → s'.heap.get? a = some o := g.frozen S.inv fun a o hp e => absurd hp (hP a o e)
  have hkp : ∀ a o, s.heap.get? a = some o → σ a = none → s'.heap.get? a = some o := fun a o e hn => g.keep a o (hP a o e) e hn
  obtain ⟨m, hm, hl⟩ := S.fra.rho.loc
  have hL : ∃ o, s.heap.get? env.locals = some o := let ⟨o, _, _, e, _⟩ := hm; ⟨o, e⟩
  refine ⟨J, ⟨⟨⟨m, hm.at' fun o e => hkp _ o e S.fra.offL, fun x a h1 h2 => ?_⟩, fun x a h1 h2 => ?_⟩, ?_, fun x c hc => ?_⟩, S.offB, S.offC⟩
  · obtain ⟨v, h3, h4⟩ := hl x a h1 h2
    exact ⟨v, h3, h4.mono fz⟩
  · obtain ⟨c, v, h3, ⟨oc, h4, h5⟩, h6⟩ := S.fra.rho.cel x a h1 h2
    exact ⟨c, v, h3, ⟨oc, hkp _ _ h4 (S.fra.offC x c h3).1, h5⟩, h6.mono fz⟩
  · obtain ⟨o, e⟩ := hL; exact g.off e S.fra.offL
  · obtain ⟨h1, h2, v, oc, h3, h4⟩ := S.fra.offC x c hc
    exact ⟨g.off h3 h1, h2, v, oc, hkp _ _ h3 h1, h4⟩
theorem St.weak {ρ' : Rho} (S : St prog w F B env ρ σ s) (h : ∀ x a, ρ' x = some a → ρ x = some a) : St prog w F B env ρ' σ s := by
  obtain ⟨m, hm, hl⟩ := S.fra.rho.loc
  exact ⟨S.inv, ⟨⟨⟨m, hm, fun x a h1 h2 => hl x a h1 (h x a h2)⟩, fun x a h1 h2 => S.fra.rho.cel x a h1 (h x a h2)⟩, S.fra.offL, S.fra.offC⟩, S.offB, S.offC⟩

theorem clos_loop (f : Str × NameKind → List (Str × Addr) → Sem (ForInStep (List (Str × Addr))))
    (hf : ∀ name kind cs, f (name, kind) cs = if kind == .free then (do let a ← cellOf env name; pure (.yield ((name, a) :: cs))) else pure (.yield cs)) :
    ∀ (names : List (Str × NameKind)) (acc : List (Str × Addr)), (∀ x ∈ names, x.2 = .free → ∃ c, env.cells.lookup x.1 = some c) → (∀ x c, acc.lookup x = some c → env.cells.lookup x = some c) →
    ∃ cl, forIn names acc f = pure cl ∧ (∀ x c, cl.lookup x = some c → env.cells.lookup x = some c) ∧ (∀ x, (∃ c, acc.lookup x = some c) → ∃ c, cl.lookup x = some c) ∧ (∀ x, (x, NameKind.free) ∈ names → ∃ c, cl.lookup x = some c)
  | [], acc, _, h2 => ⟨acc, by rw [List.forIn_nil], h2, fun _ h => h, fun _ h => by simp at h⟩
  | (name, kind) :: r, acc, h1, h2 => by
    by_cases hk : (kind == NameKind.free) = true
    · obtain ⟨c, hc⟩ := h1 (name, kind) (.head _) (by simpa using hk)
      have hacc : ∀ x d, ((name, c) :: acc).lookup x = some d → env.cells.lookup x = some d := by
        intro x d e
        rw [List.lookup_cons] at e
        cases hb : x == name with
        | true => rw [hb] at e; cases e; rw [beq_iff_eq.mp hb]; exact hc
        | false => rw [hb] at e; exact h2 x d e
      obtain ⟨cl, e1, e2, e3, e4⟩ := clos_loop f hf r ((name, c) :: acc) (fun x hx => h1 x (.tail _ hx)) hacc
      refine ⟨cl, ?_, e2, fun x ⟨d, hd⟩ => ?_, fun x hx => ?_⟩
      · rw [List.forIn_cons, hf, if_pos hk]
        simp only [cellOf, hc, pure_bind]
        exact e1
      · apply e3
        rw [List.lookup_cons]
        cases x == name with
        | true => exact ⟨_, rfl⟩
        | false => exact ⟨d, hd⟩
      · rcases List.mem_cons.mp hx with q | q
        · cases q
          exact e3 _ ⟨c, by simp⟩
        · exact e4 x q
    · obtain ⟨cl, e1, e2, e3, e4⟩ := clos_loop f hf r acc (fun x hx => h1 x (.tail _ hx)) h2
      refine ⟨cl, ?_, e2, e3, fun x hx => ?_⟩
      · rw [List.forIn_cons, hf, if_neg hk, pure_bind]; exact e1
      · rcases List.mem_cons.mp hx with q | q
        · cases q; exact absurd rfl hk
        · exact e4 x q
theorem clos_ok (h1 : ∀ x ∈ csc.names, x.2 = .free → ∃ c, env.cells.lookup x.1 = some c) :
    ∃ cl, closureFor csc env = pure cl ∧ (∀ x c, cl.lookup x = some c → env.cells.lookup x = some c) ∧ (∀ x, (x, NameKind.free) ∈ csc.names → ∃ c, cl.lookup x = some c) := by
  obtain ⟨cl, e1, e2, _, e4⟩ := clos_loop (env := env) (fun x cs => match x with | (name, kind) => if kind == .free then (do let a ← cellOf env name; pure (.yield ((name, a) :: cs))) else pure (.yield cs)) (fun _ _ _ => rfl) csc.names [] h1 (fun x c e => by simp at e)
  refine ⟨cl, ?_, e2, e4⟩
  unfold closureFor
  rw [← e1]
  simp only [bind_pure]

theorem relabel_lookup (h : ∀ x ∈ csc.names, x.2 = .free → env.scope.kind = .function ∧ env.kindOf x.1 = some .cell) : ∀ (x : Str), (relabel csc env).names.lookup x = if csc.names.lookup x = some .free then some .cell else csc.names.lookup x := by
  intro x
  unfold relabel
  simp only
  generalize csc.names = names at h
  induction names with
  | nil => rfl
  | cons p r ih =>
    obtain ⟨nm, k⟩ := p
    have ih := ih fun y hy => h y (.tail _ hy)
    rw [List.map_cons]
    cases hx : x == nm with
    | true =>
      have hxe := beq_iff_eq.mp hx
      by_cases hk : k = .free
      · obtain ⟨q1, q2⟩ := h (nm, k) (.head _) hk
        subst hk
        simp [List.lookup_cons, hx, q1, q2]
      · have : (k == NameKind.free) = false := by simpa using hk
        simp [List.lookup_cons, hx, this, hk]
    | false =>
      have e : ∀ (q : Str × NameKind) l, q.1 = nm → List.lookup x (q :: l) = List.lookup x l := by
        intro q l hq; obtain ⟨q1, q2⟩ := q; simp only at hq; subst hq; rw [List.lookup_cons, hx]
      rw [e _ _ (by split <;> rfl), e _ _ rfl]
      exact ih

theorem compOk_facts (T : Sta prog w F B C A env sc) (h : compOk sc csc = true) : csc.kind = .function ∧ csc.names.lookup ("__debug__" : Str) = none ∧ csc.names.lookup ("__classdict__" : Str) = none ∧ (∀ x ∈ csc.names, x.2 ≠ .cell) ∧
    (∀ x ∈ csc.names, x.2 = .local → csc.names.lookup x.1 = some .local) ∧ (∀ x ∈ csc.names, x.2 = .free → env.kindOf x.1 = some .cell ∧ ∃ c, env.cells.lookup x.1 = some c) := by
  unfold compOk at h
  simp only [Bool.and_eq_true, List.all_eq_true, Option.isNone_iff_eq_none, beq_iff_eq, bne_iff_ne, Bool.or_eq_true, ne_eq] at h
  obtain ⟨⟨⟨h1, h2⟩, h3⟩, h4⟩ := h
  refine ⟨by simpa using h1, h2, h3, fun x hx => (h4 x hx).1.1, fun x hx hl => ((h4 x hx).1.2).resolve_left (by simp [hl]), fun x hx hl => ?_⟩
  have q := ((h4 x hx).2).resolve_left (by simp [hl])
  have k : env.kindOf x.1 = some .cell := by
    rcases T.names x.1 with e | ⟨e, _⟩
    · exact e.trans q
    · rw [q] at e; cases e
  exact ⟨k, T.cells _ (.inl k)⟩
theorem mem_free {x : Str} (h : csc.names.lookup x = some .free) : (x, NameKind.free) ∈ csc.names := mem_of_lookup h

theorem comp_kind (T : Sta prog w F B C A env sc) (h : compOk sc csc = true) (cl : List (Str × Addr)) (L : Addr) (x : Str) : (compEnvC csc cl L env).kindOf x = if csc.names.lookup x = some .free then some .cell else csc.names.lookup x := by
  obtain ⟨h1, h2, h3, h4, h5, h6⟩ := compOk_facts T h
  exact relabel_lookup (fun x hx hl => ⟨T.kind, (h6 x hx hl).1⟩) x

theorem comp_sta (T : Sta prog w F B C A env sc) (h : compOk sc csc = true) {cl : List (Str × Addr)} (L : Addr) (hcl : ∀ x c, cl.lookup x = some c → env.cells.lookup x = some c) (hcf : ∀ x, (x, NameKind.free) ∈ csc.names → ∃ c, cl.lookup x = some c) :
    Sta prog w F B C.hush A (compEnvC csc cl L env) csc := by
  obtain ⟨h1, h2, h3, h4, h5, h6⟩ := compOk_facts T h
  have hk := comp_kind T h cl L
  exact { T.hush with
    kind := by simpa [compEnvC, relabel] using h1
    names := fun x => by
      rw [hk]
      by_cases hx : csc.names.lookup x = some .free
      · exact .inr ⟨hx, by rw [if_pos hx]⟩
      · exact .inl (by rw [if_neg hx])
    dbg := h2
    cdict := h3
    cells := fun x hx => by
      rw [hk] at hx
      by_cases hf : csc.names.lookup x = some .free
      · exact hcf x (mem_free hf)
      · rw [if_neg hf] at hx
        rcases hx with hx | hx
        · exact absurd rfl (h4 _ (mem_of_lookup hx))
        · exact absurd hx hf
    apart := fun x y c hx hy => T.apart x y c (hcl x c hx) (hcl y c hy)
    glob := T.glob
    own := .inl fun _ _ q => q
    call := T.call
    make := T.make
    attr := T.attr
    sattr := T.sattr
    meth := T.meth
    mcall := T.mcall }

theorem comp_st (T : Sta prog w F B C A env sc) (h : compOk sc csc = true) {cl : List (Str × Addr)} {L : Addr} {m : Str → Option Value} (S : St prog w F B env ρ σ s) (hcl : ∀ x c, cl.lookup x = some c → env.cells.lookup x = some c) (hcf : ∀ x, (x, NameKind.free) ∈ csc.names → ∃ c, cl.lookup x = some c)
    (hn : s.heap.Ns L m) (hσ : σ L = none) (hB : B.get? L = none) (hC : ∀ x c, env.cells.lookup x = some c → c ≠ L) : St prog w F B (compEnvC csc cl L env) (compRho csc ρ) σ s := by
  obtain ⟨h1, h2, h3, h4, h5, h6⟩ := compOk_facts T h
  have hk := comp_kind T h cl L
  refine ⟨S.inv, ⟨⟨⟨m, hn, fun x a q1 q2 => ?_⟩, fun x a q1 q2 => ?_⟩, hσ, fun x c hc => ?_⟩, hB, fun x c hc => S.offC x c (hcl x c hc)⟩
  · exfalso
    rw [hk] at q1
    unfold compRho at q2
    split at q2
    · rename_i hf; rw [if_pos hf] at q1; cases q1
    · cases q2
  · unfold compRho at q2
    split at q2
    · rename_i hf
      obtain ⟨c, hc⟩ := hcf x (mem_free hf)
      obtain ⟨c', v, e1, e2, e3⟩ := S.fra.rho.cel x a (.inl (h6 _ (mem_free hf) rfl).1) q2
      rw [hcl x c hc] at e1; cases e1
      exact ⟨c, v, hc, e2, e3⟩
    · cases q2
  · obtain ⟨q1, q2, q3⟩ := S.fra.offC x c (hcl x c hc)
    exact ⟨q1, hC x c (hcl x c hc), q3⟩

theorem itemsOf_cap {v : Value} {a : Val} {items : List Val} (S : St prog w F B env ρ σ s) (hv : VRel F s.heap v a) (hi : itemsOf σ a = some items) : items.length ≤ cap := by
  unfold itemsOf at hi
  split at hi
  · split at hi
    · rename_i hp; cases hi; obtain ⟨_, _, _, _, z⟩ := S.listAt hp; exact z
    · cases hi
  · cases hi
    cases hv with
    | rng hr h1 h2 h3 =>
      have hc : cap = 1000000 := rfl
      have := h3.2
      simp only [ofInts, List.length_map, rangeL_length]; lia
  · cases hi
theorem bindT_keep {calm : Bool} {t : Expr} {a : Val} {ρ₁ ρ₂ : Rho} (hb : bindT calm sc t a ρ₁ = some ρ₂) : ∀ y, isLoc sc y = false → ρ₂ y = ρ₁ y := by
  intro y hy
  rcases bindT_is hb with ⟨x, px, rfl, hl, rfl⟩ | ⟨x, px, z, py, k, p, u, w', rfl, rfl, hc, rfl⟩
  · unfold upd; rw [if_neg]; rintro rfl; rw [hy] at hl; cases hl
  · simp only [Bool.and_eq_true] at hc
    unfold upd
    rw [if_neg (by rintro rfl; rw [hy] at hc; exact absurd hc.1.2 (by simp)), if_neg (by rintro rfl; rw [hy] at hc; exact absurd hc.1.1.2 (by simp))]

theorem comp_core (ih : Snd prog w F B n) {elt target iter : Expr} {ifs : List Expr} {pos : Pos} {use : Option (Value → Sem Unit)} {Q : VPost} {K E : Value → Shared → Prop} (T : Sta prog w F B C A env sc) (S : St prog w F B env ρ σ s)
    (h : ev C (n + 1) sc (.ListComp elt [⟨target, iter, ifs, 0⟩] csc pos) ρ σ Q)
    (hE : ∀ v s', EvP prog w F B env ρ σ s C.exc v s' → E v s')
    (fin : ∀ D L σ' s' m, s.heap.get? D = none → s.heap.get? L = none → D ≠ L → s'.heap.Ns L m → σ' L = none → St prog w F B env ρ σ' s' → GoE env σ s σ' s' → Q (.ref D) σ' → compPost (model prog w) A E use K (.ref D) L (.ok .next) s') :
    wpAny (model prog w) A (comprehension (.ListComp elt [⟨target, iter, ifs, 0⟩] csc pos) csc env (firstIterPos [⟨target, iter, ifs, 0⟩] pos) (newList []) false (eval iter env) use) K E s := by
  have hcl0 := cap_line
  rw [ev_Comp] at h
  obtain ⟨⟨hcalm, hok⟩, h⟩ := h
  obtain ⟨h1, h2, h3, h4, h5, h6⟩ := compOk_facts T hok
  obtain ⟨cl, c1, c2, c3⟩ := clos_ok (env := env) (csc := csc) fun x hx hl => (h6 x hx hl).2
  refine wpAny_comprehension_free (use := use) (Q := K) rfl (ev_notSetIt h) c1 h1 h5 (wpAny_mono (ih.ev T S h) (fun x s₁ ⟨xa, σ₁, hx, S₁, g, hq⟩ => ?_) hE)
  dsimp only at hq
  split at hq
  · rename_i items hitems
    have hcap := itemsOf_cap S₁ hx hitems
    obtain ⟨step, hstep, hq⟩ : ∃ step : Val → Store → (Option Val → Store → Prop) → Prop, (∀ x σ₂ k, step x σ₂ k → ∃ ρ', bindT C.calm csc target x (compRho csc ρ) = some ρ' ∧
        evIfs C.hush n csc ifs ρ' σ₂ fun b σ₃ => (b = true → ev C.hush n csc elt ρ' σ₃ fun y σ₄ => k (some y) σ₄) ∧ (b = false → k Option.none σ₃)) ∧
        compLoop step (still σ₁ xa) items [] σ₁ fun acc σ₂ => ∀ c, σ₂ c = none → Q (.ref c) (σ₂.set c (.list acc)) := by
      refine ⟨_, fun x σ₂ k hs => ?_, hq⟩
      unfold compStep at hs
      split at hs
      · rename_i ρ' hρ; exact ⟨ρ', hρ, hs⟩
      · exact hs.elim
    refine iter_start S₁ hx hitems fun h₂ hk₂ hit => ?_
    refine wpAny_newObj_type (wpAny_newFunctionEnv h4 (by intro y hy; simp at hy) (fun h₄ hns₄ hsb₄ => ?_) h1)
    dsimp only at hns₄ hsb₄ ⊢
    -- the addresses
    have eI : s₁.heap.get? s₁.heap.objs.size = none := sizeNone _
    generalize hI : s₁.heap.objs.size = I at hit eI ⊢
    generalize hD : h₂.objs.size = D at hns₄ hsb₄ ⊢
    generalize hH3 : h₂.push { cls := .type "list", dict := none, data := .seq ([] : List Value).toArray } = H3 at hns₄ hsb₄ ⊢
    generalize hLL : H3.objs.size = L at hns₄ hsb₄ ⊢
    have oldI : ∃ o, h₂.get? I = some o := let ⟨o, e, _⟩ := hit.thaw; ⟨o, e⟩
    have eD2 : h₂.get? D = none := hD ▸ sizeNone _
    have eL3 : H3.get? L = none := hLL ▸ sizeNone _
    have up1 : ∀ b o, s₁.heap.get? b = some o → h₂.get? b = some o := hk₂
    have up2 : ∀ b o, h₂.get? b = some o → H3.get? b = some o := fun b o e => hH3 ▸ Heap.get?_push_of_some _ e
    have up3 : ∀ b o, H3.get? b = some o → h₄.get? b = some o := fun b o e => hsb₄.extBut b o (by rintro rfl; rw [eL3] at e; cases e) (Heap.get?_push_of_some _ e)
    have eD1 : s₁.heap.get? D = none := by
      cases e : s₁.heap.get? D with
      | none => rfl
      | some o => rw [up1 _ _ e] at eD2; cases eD2
    have eL1 : s₁.heap.get? L = none := by
      cases e : s₁.heap.get? L with
      | none => rfl
      | some o => rw [up2 _ _ (up1 _ _ e)] at eL3; cases eL3
    have hID : I ≠ D := by rintro rfl; obtain ⟨o, e⟩ := oldI; rw [eD2] at e; cases e
    have hIL : I ≠ L := by rintro rfl; obtain ⟨o, e⟩ := oldI; rw [up2 _ _ e] at eL3; cases eL3
    have plD : H3.PlainList D #[] := by rw [← hH3, ← hD]; exact ⟨_, Heap.get?_push_size _ rfl⟩
    have hDL : D ≠ L := by rintro rfl; obtain ⟨k, e⟩ := plD; rw [eL3] at e; cases e
    -- the frames
    have S₂ : St prog w F B env ρ σ₁ { s₁ with heap := h₄, toks := s₁.toks + ([] : List (Str × Value)).length } := (S₁.ext (tk := s₁.toks + ([] : List (Str × Value)).length) fun b o e => up3 b o (up2 b o (up1 b o e))).1
    have g₂ : Go (fun a => s₁.heap.get? a = none) σ₁ s₁ σ₁ { s₁ with heap := h₄, toks := s₁.toks + ([] : List (Str × Value)).length } := by
      refine ⟨⟨_, _, rfl⟩, fun a o _ e _ => up3 a o (up2 a o (up1 a o e)), fun a o e => ⟨o, up3 a o (up2 a o (up1 a o e))⟩, fun _ a b => absurd a b, fun _ a => a, fun a es e => ⟨e, ?_⟩⟩
      obtain ⟨ob, e1, _⟩ := ORel.live prog w F (S₁.inv.obj a _ e).2
      exact (up3 a ob (up2 a ob (up1 a ob e1))).trans e1.symm
    obtain ⟨bI1, bI2, bI3, bI4⟩ := S₁.newAddr eI
    obtain ⟨bD1, bD2, bD3, bD4⟩ := S₁.newAddr eD1
    obtain ⟨bL1, bL2, bL3, bL4⟩ := S₁.newAddr eL1
    have T' := comp_sta T hok L c2 c3
    have Sc := comp_st T hok S₂ c2 c3 hns₄ bL2 bL1 bL4
    have hit₄ : ItAt σ₁ xa I 0 items h₄ := hit.at (fun o e => up3 _ _ (up2 _ _ e)) (by cases xa <;> simp [still])
    have pl₄ : h₄.PlainList D #[] := plD.at fun o e => up3 _ _ e
    have oldD : ∃ o, h₄.get? D = some o := let ⟨k, e⟩ := pl₄; ⟨_, e⟩
    have loop : codeAny (model prog w) A (.compLoop (.ListComp elt [⟨target, iter, ifs, 0⟩] csc pos) 0 (.ref I) (.ref D) (compEnvC csc cl L env)) (compPost (model prog w) A E use K (.ref D) L) { s₁ with heap := h₄, toks := s₁.toks + ([] : List (Str × Value)).length } := by
      refine codeAny_compLoop_any (fun k s' => ∃ i σ' acc ys, k = items.length + 1 - i ∧ i ≤ items.length ∧ ItAt σ' xa I i items s'.heap ∧ St prog w F B (compEnvC csc cl L env) (compRho csc ρ) σ' s' ∧
          Go (fun a => s₁.heap.get? a = none) σ₁ s₁ σ' s' ∧ σ' I = none ∧ σ' D = none ∧ s'.heap.PlainList D ys ∧ VRels F s'.heap ys.toList acc ∧ acc.length ≤ i ∧
          compLoop step (still σ₁ xa) (items.drop i) acc σ' fun acc σ₂ => ∀ c, σ₂ c = none → Q (.ref c) (σ₂.set c (.list acc))) ?_ (items.length + 1)
        ⟨0, σ₁, [], #[], rfl, Nat.zero_le _, hit₄, Sc, g₂, bI2, bD2, pl₄, .nil, Nat.le_refl _, by simpa using hq⟩
      rintro k s' ⟨i, σ', acc, ys, rfl, hi, hit', S', g', zI, zD, pl', hys, hacc, hq'⟩
      have nc : ∀ x c, (compEnvC csc cl L env).cells.lookup x = some c → env.cells.lookup x = some c := c2
      refine iter_next S' zI hit' (fun _ => T.calm hcalm) (fun y b h₅ tk₅ hb hy hit₅ hk₅ => ?_) (fun h₅ hend hk₅ => ?_)
      · -- an item
        have hdrop : items.drop i = b :: items.drop (i + 1) := by
          obtain ⟨hlt, e⟩ := List.getElem?_eq_some_iff.mp hb
          rw [← e]; exact List.drop_eq_getElem_cons hlt
        have hlt : i < items.length := (List.getElem?_eq_some_iff.mp hb).1
        rw [hdrop, compLoop] at hq'
        obtain ⟨ρ', hρ', hq'⟩ := hstep _ _ _ hq'
        obtain ⟨oI, eoI, thI⟩ := hit'.thaw
        have S₅ : St prog w F B (compEnvC csc cl L env) (compRho csc ρ) σ' { s' with heap := h₅, toks := tk₅ } := S'.aside hk₅ bI1 zI hIL (fun x c hc => bI4 x c (c2 x c hc)) fun o e => by rw [eoI] at e; cases e; exact thI
        have g₅ := Go.aside (tk := tk₅) g' S'.inv eI zI hk₅
        have pl₅ : h₅.PlainList D ys := pl'.at fun o e => hk₅ _ o (Ne.symm hID) e
        have fz₅ : ∀ a o, s'.heap.get? a = some o → Frozen o → h₅.get? a = some o := fun a o e hf => hk₅ a o (by rintro rfl; rw [eoI] at e; cases e; exact thI hf) e
        have hlast : ∀ σ₆ (s₆ : Shared) acc₆ ys₆, ItAt σ₆ xa I (i + 1) items s₆.heap → St prog w F B (compEnvC csc cl L env) (compRho csc ρ) σ₆ s₆ → Go (fun a => s₁.heap.get? a = none) σ₁ s₁ σ₆ s₆ → σ₆ I = none → σ₆ D = none → s₆.heap.PlainList D ys₆ → VRels F s₆.heap ys₆.toList acc₆ → acc₆.length ≤ i + 1 →
            compLoop step (still σ₁ xa) (items.drop (i + 1)) acc₆ σ₆ (fun acc σ₂ => ∀ c, σ₂ c = none → Q (.ref c) (σ₂.set c (.list acc))) →
            ∃ m, m < items.length + 1 - i ∧ ∃ i σ' acc ys, m = items.length + 1 - i ∧ i ≤ items.length ∧ ItAt σ' xa I i items s₆.heap ∧ St prog w F B (compEnvC csc cl L env) (compRho csc ρ) σ' s₆ ∧
              Go (fun a => s₁.heap.get? a = none) σ₁ s₁ σ' s₆ ∧ σ' I = none ∧ σ' D = none ∧ s₆.heap.PlainList D ys ∧ VRels F s₆.heap ys.toList acc ∧ acc.length ≤ i ∧
              compLoop step (still σ₁ xa) (items.drop i) acc σ' fun acc σ₂ => ∀ c, σ₂ c = none → Q (.ref c) (σ₂.set c (.list acc)) :=
          fun σ₆ s₆ acc₆ ys₆ a1 a2 a3 a4 a5 a6 a7 a8 a9 => ⟨_, by lia, i + 1, σ₆, acc₆, ys₆, rfl, hlt, a1, a2, a3, a4, a5, a6, a7, a8, a9⟩
        have never : ∀ {ρ₀ σ₀ s₀} (R : Value → Shared → Prop) v s'', EvP prog w F B (compEnvC csc cl L env) ρ₀ σ₀ s₀ C.hush.exc v s'' → R v s'' := fun R v s'' ⟨_, _, _, _, _, f⟩ => f.elim
        have wk : ∀ x a, compRho csc ρ x = some a → ρ' x = some a := by
          intro x a hx
          rw [bindT_keep hρ' x ?_]; exact hx
          unfold compRho at hx
          unfold isLoc
          split at hx
          · rename_i hf; rw [hf]
          · cases hx
        refine letGo_it (s := { s' with heap := h₅, toks := tk₅ }) hit₅ (assign_sound (C := C.hush) T' S₅ (hy.mono fz₅) hρ' fun s₆ S₆ gA => ?_)
        have gA' : GoE (compEnvC csc cl L env) σ' { s' with heap := h₅, toks := tk₅ } σ' s₆ := gA.mono fun a o _ hp => by
          rcases hp with hp | ⟨x, hx, _⟩
          · exact hp
          · exact absurd rfl (h4 _ (mem_of_lookup hx))
        -- what lies beside stays
        have side : ∀ {ρ₇ ρ₈ σ₇ σ₈ s₇ s₈}, St prog w F B (compEnvC csc cl L env) ρ₇ σ₇ s₇ → GoE (compEnvC csc cl L env) σ₇ s₇ σ₈ s₈ → (∃ o, s₇.heap.get? I = some o) → σ₇ I = none → σ₇ D = none → s₇.heap.PlainList D ys → Go (fun a => s₁.heap.get? a = none) σ₁ s₁ σ₇ s₇ →
            St prog w F B (compEnvC csc cl L env) ρ₈ σ₈ s₈ → (∀ o, s₇.heap.get? I = some o → s₈.heap.get? I = some o) ∧ σ₈ I = none ∧ σ₈ D = none ∧ s₈.heap.PlainList D ys ∧ Go (fun a => s₁.heap.get? a = none) σ₁ s₁ σ₈ s₈ := by
          intro ρ₇ ρ₈ σ₇ σ₈ s₇ s₈ S₇ gg it z1 z2 p G S₈
          obtain ⟨o, e⟩ := it
          obtain ⟨kD, eD⟩ := id p
          refine ⟨fun o e => gg.keep I o hIL e z1, gg.off e z1, gg.off eD z2, p.at fun o e => gg.keep D o hDL e z2, G.trans (gg.mono fun a o _ hp => ?_)⟩
          have hp : a = L := hp
          subst hp; exact eL1
        have exI : ∃ o, h₅.get? I = some o := let ⟨o, e, _⟩ := hit₅.thaw; ⟨o, e⟩
        have zz := side S₅ gA' exI zI zD pl₅ g₅ S₆
        have exI₆ : ∃ o, s₆.heap.get? I = some o := let ⟨o, e⟩ := exI; ⟨o, zz.1 o e⟩
        have hit₆ : ItAt σ' xa I (i + 1) items s₆.heap := hit₅.at zz.1 (by cases xa <;> simp [still])
        refine wpAny_mono (ih.ifs T' S₆ hq') (fun ok s₇ ⟨σ₇, S₇, g₇, hq₇⟩ => ?_) (never _)
        have z7 := side S₆ g₇ exI₆ zz.2.1 zz.2.2.1 zz.2.2.2.1 zz.2.2.2.2 S₇
        have r₆ : VRels F s₆.heap ys.toList acc := S₅.vals gA' (hys.mono fz₅)
        have exI₇ : ∃ o, s₇.heap.get? I = some o := let ⟨o, e⟩ := exI₆; ⟨o, z7.1 o e⟩
        have stl : ∀ σ₇, still σ₁ xa σ₇ → still σ' xa σ₇ := by
          intro σ₇ hst
          cases xa with
          | ref l => exact (show σ₇ l = σ₁ l from hst).trans (show σ' l = σ₁ l from by
              have a1 := hit₅.2; have a2 := hit₄.2; rw [a1, a2]).symm
          | _ => trivial
        cases ok with
        | false =>
          obtain ⟨hst, hq₈⟩ := hq₇.2 rfl
          have hst' := stl _ hst
          exact hlast σ₇ s₇ acc ys (hit₆.at z7.1 hst') (S₇.weak wk) z7.2.2.2.2 z7.2.1 z7.2.2.1 z7.2.2.2.1 (S₆.vals g₇ r₆) (by lia) hq₈
        | true =>
          show wpAny _ A (eval elt (compEnvC csc cl L env)) _ _ s₇
          refine wpAny_mono (ih.ev T' S₇ (hq₇.1 rfl)) (fun y₈ s₈ ⟨b₈, σ₈, hy₈, S₈, g₈, hst, hq₈⟩ => ?_) (never _)
          have z8 := side S₇ g₈ exI₇ z7.2.1 z7.2.2.1 z7.2.2.2.1 z7.2.2.2.2 S₈
          have r₈ : VRels F s₈.heap ys.toList acc := S₇.vals g₈ (S₆.vals g₇ r₆)
          have hl := r₈.length
          simp only [Array.length_toList] at hl
          refine wpAny_list_append_plain (hsz := by lia) z8.2.2.2.1 fun h₉ pl₉ hs₉ => ?_
          have hk₉ : ∀ a o, a ≠ D → s₈.heap.get? a = some o → h₉.get? a = some o := fun a o hne e => hs₉.extBut a o hne e
          have thD : ∀ o, s₈.heap.get? D = some o → ¬ Frozen o := fun o e => by obtain ⟨kD, eD⟩ := z8.2.2.2.1; rw [e] at eD; cases eD; simp [Frozen]
          have S₉ : St prog w F B (compEnvC csc cl L env) ρ' σ₈ { s₈ with heap := h₉ } := S₈.aside (tk := s₈.toks) hk₉ bD1 z8.2.2.1 hDL (fun x c hc => bD4 x c (c2 x c hc)) thD
          have fz₉ : ∀ a o, s₈.heap.get? a = some o → Frozen o → h₉.get? a = some o := fun a o e hf => hk₉ a o (by rintro rfl; exact thD o e hf) e
          refine hlast σ₈ { s₈ with heap := h₉ } (acc ++ [b₈]) (ys.push y₈) (hit₆.at (fun o e => hk₉ _ o hID (z8.1 o (z7.1 o e))) (stl _ hst)) (S₉.weak wk) (Go.aside (tk := s₈.toks) z8.2.2.2.2 S₈.inv eD1 z8.2.2.1 hk₉) z8.2.1 z8.2.2.1 pl₉ ?_ (by simp; lia) hq₈
          simpa using (r₈.mono fz₉).append (.cons (hy₈.mono fz₉) .nil)
      · -- the end
        have hn : items.drop i = [] := List.drop_eq_nil_of_le (List.getElem?_eq_none_iff.mp hend)
        rw [hn, compLoop] at hq'
        obtain ⟨oI, eoI, thI⟩ := hit'.thaw
        have S₅ : St prog w F B (compEnvC csc cl L env) (compRho csc ρ) σ' { s' with heap := h₅ } := S'.aside (tk := s'.toks) hk₅ bI1 zI hIL (fun x c hc => bI4 x c (c2 x c hc)) fun o e => by rw [eoI] at e; cases e; exact thI
        have g₅ := Go.aside (tk := s'.toks) g' S'.inv eI zI hk₅
        have pl₅ : h₅.PlainList D ys := pl'.at fun o e => hk₅ _ o (Ne.symm hID) e
        have fz₅ : ∀ a o, s'.heap.get? a = some o → Frozen o → h₅.get? a = some o := fun a o e hf => hk₅ a o (by rintro rfl; rw [eoI] at e; cases e; exact thI hf) e
        have So : St prog w F B env ρ σ' { s' with heap := h₅ } := S₁.after g₅ (fun a o e hp => by rw [e] at hp; cases hp) S₅.inv
        have eDs : s.heap.get? D = none := by
          cases e : s.heap.get? D with
          | none => rfl
          | some o => obtain ⟨o', e'⟩ := g.live _ o e; rw [eD1] at e'; cases e'
        have eLs : s.heap.get? L = none := by
          cases e : s.heap.get? L with
          | none => rfl
          | some o => obtain ⟨o', e'⟩ := g.live _ o e; rw [eL1] at e'; cases e'
        obtain ⟨kD, eD⟩ := pl₅
        have ho : ORel prog w F h₅ D (.list acc) := ⟨ys, kD, eD, hys.mono fz₅, by lia⟩
        have Sk : St prog w F B env ρ (σ'.set D (.list acc)) { s' with heap := h₅ } := So.know bD1 bD3 bD4 ho
        have gk : GoE env σ s (σ'.set D (.list acc)) { s' with heap := h₅ } := by
          have G1 : GoE env σ₁ s₁ σ' { s' with heap := h₅ } := g₅.mono fun a o e hp => by rw [e] at hp; cases hp
          exact Go.newObj (s₂ := { s' with heap := h₅ }) (tk := s'.toks) (h' := h₅) (g.trans G1) S₅.inv eDs zD (fun a o _ e => e)
        obtain ⟨mL, hmL⟩ := S₅.ns
        exact fin D L _ _ mL eDs eLs hDL hmL (by unfold Store.set; rw [if_neg (Ne.symm hDL)]; exact S₅.fra.offL) Sk gk (hq' D zD)
    refine codeAny_compStart_list loop ?_
    cases xa with
    | ref l => exact wpAny_pyIter_listiter hit₄.1 loop
    | rng lo hi => exact wpAny_pyIter_rangeiter hit₄.1 loop
    | _ => exact hit₄.elim
  · exact hq.elim

theorem comp_ok (ih : Snd prog w F B n) : CompOk prog w F B n := by
  intro C A env sc elt target iter ifs csc pos ρ σ s Q T S h
  rw [eval_ListComp]
  refine comp_core ih (use := none) T S h (fun _ _ q => q) fun D L σ' s' m eD eL hDL hn zL S' g' hq => ⟨m, hn, fun h' hs' => ?_⟩
  obtain ⟨b1, b2, b3, b4⟩ := S.newAddr eL
  have hk : ∀ a o, a ≠ L → s'.heap.get? a = some o → h'.get? a = some o := fun a o hne e => hs'.extBut a o hne e
  exact ⟨_, σ', .ref D, S'.aside (tk := s'.toks) hk b1 zL b3 b4 fun o e => ns_thaw hn o e, Go.aside (tk := s'.toks) g' S'.inv eL zL hk, hq⟩

theorem snd_all_n : ∀ n, Snd prog w F B n
  | 0 => ⟨fun _ _ h => False.elim h, fun {C A env sc es ρ σ s Q} pos T S hf h => (by
      cases es with
      | nil => exact wpAny_items_nil ⟨rfl, [], σ, .nil, S, Go.refl _ _ _, h⟩
      | cons _ _ => exact False.elim h), fun {C A env sc e ρ σ s Q} T S h => (by
      cases e with
      | none => exact wpAny_pure ⟨none, σ, .none, S, Go.refl _ _ _, h⟩
      | some _ => exact False.elim h), fun _ _ _ h => False.elim h, fun _ _ _ _ h => False.elim h, fun _ _ _ _ h => False.elim h, fun _ _ h => False.elim h, fun _ _ h => False.elim h, fun _ _ h => False.elim h⟩
  | n + 1 =>
    have ih := snd_all_n n
    ⟨snd_ev ih (comp_ok ih), snd_evs ih, snd_opt ih, snd_bool ih, snd_cmp ih, snd_tcmp ih, snd_tst ih, snd_all ih, snd_ifs ih⟩
end
end Mine

set_option linter.unusedVariables false
namespace Mine
open PySem PySem.W PyProof.Rows

section
variable {prog : Program} {w : World} {F : Tab} {B : Heap} {env : Env} {sc csc : Scope} {C : Cx} {ρ : Rho} {σ σ₁ σ' : Store} {s s₁ s' : Shared} {A : Around} {E : Value → Shared → Prop} {n : Nat} {X : VPost}

theorem EvP.toX {v : Value} (h : EvP prog w F B env ρ σ s X v s') : ExP prog w F B env sc σ s X v s' := by
  obtain ⟨a, σ', h1, h2, h3, h4⟩ := h
  exact ⟨a, ρ, σ', h1, h2, h3.owns, h4⟩
theorem ExP.back {v : Value} (g : Go (Own env sc) σ s σ₁ s₁) (h : ExP prog w F B env sc σ₁ s₁ X v s') : ExP prog w F B env sc σ s X v s' := by
  obtain ⟨a, ρ', σ', h1, h2, h3, h4⟩ := h
  exact ⟨a, ρ', σ', h1, h2, g.trans h3, h4⟩
theorem NxP.back {Q : Fl → Rho → Store → Prop} {f : Flow} (g : Go (Own env sc) σ s σ₁ s₁) (h : NxP prog w F B env sc σ₁ s₁ Q f s') : NxP prog w F B env sc σ s Q f s' := by
  obtain ⟨a, ρ', σ', h1, h2, h3, h4⟩ := h
  exact ⟨a, ρ', σ', h1, h2, g.trans h3, h4⟩
theorem shiftN {m : Sem Flow} {Q : Fl → Rho → Store → Prop} (g : Go (Own env sc) σ s σ₁ s₁) (h : wpAny (model prog w) A m (NxP prog w F B env sc σ₁ s₁ Q) (ExP prog w F B env sc σ₁ s₁ X) s') :
    wpAny (model prog w) A m (NxP prog w F B env sc σ s Q) (ExP prog w F B env sc σ s X) s' := wpAny_mono h (fun _ _ q => q.back g) (fun _ _ q => q.back g)
/-- an expression within a statement -/
theorem evIn {e : Expr} {Q : VPost} {R : Value → Shared → Prop} (T : Sta prog w F B C A env sc) (S : St prog w F B env ρ σ s) (h : ev C n sc e ρ σ Q)
    (k : ∀ v a σ₁ s₁, VRel F s₁.heap v a → St prog w F B env ρ σ₁ s₁ → GoE env σ s σ₁ s₁ → Q a σ₁ → R v s₁) : wpAny (model prog w) A (eval e env) R (ExP prog w F B env sc σ s C.exc) s :=
  wpAny_mono ((snd_all_n n).ev T S h) (fun v s₁ ⟨a, σ₁, h1, h2, h3, h4⟩ => k v a σ₁ s₁ h1 h2 h3 h4) fun _ _ q => q.toX
theorem shiftE {α : Type} {m : Sem α} {R : α → Shared → Prop} (g : Go (Own env sc) σ s σ₁ s₁) (h : wpAny (model prog w) A m R (ExP prog w F B env sc σ₁ s₁ X) s') :
    wpAny (model prog w) A m R (ExP prog w F B env sc σ s X) s' := wpAny_mono h (fun _ _ q => q) (fun _ _ q => q.back g)

theorem own_pass (T : Sta prog w F B C A env sc) : ∀ e s', ExP prog w F B env sc σ s C.exc e s' → notedBy (model prog w) A env (cameBackBy (model prog w) A env (ExP prog w F B env sc σ s C.exc)) e s' := by
  intro e s' h
  rcases T.own with h1 | h1
  · obtain ⟨a, ρ', σ', _, _, _, q⟩ := h; exact absurd q (h1 a σ')
  · exact h1 C.exc σ s e s' h

def SndX (prog : Program) (w : World) (F : Tab) (B : Heap) (n : Nat) : Prop :=
  ∀ {C : Cx} {A : Around} {env : Env} {sc : Scope} {b : List Stmt} {ρ : Rho} {σ : Store} {s : Shared} {Q : Fl → Rho → Store → Prop}, Sta prog w F B C A env sc → St prog w F B env ρ σ s → exs C n sc b ρ σ Q →
    wpAny (model prog w) A (execs b env) (NxP prog w F B env sc σ s Q) (ExP prog w F B env sc σ s C.exc) s

/-- a loop over what an iterator tells -/
theorem for_core (ih : SndX prog w F B n) {t : Expr} {b : List Stmt} {I : Addr} {items : List Val} {step : Val → Rho → Store → (Fl → Rho → Store → Prop) → Prop} {ok : Store → Prop} {Q : Fl → Rho → Store → Prop} {At : Nat → Store → Heap → Prop}
    (T : Sta prog w F B C A env sc) (S : St prog w F B env ρ σ s) (eI : s₁.heap.get? I = none) (S₁ : St prog w F B env ρ σ₁ s₁) (gs : Go (fun x => s₁.heap.get? x = none ∨ Own env sc x) σ₁ s₁ σ s) (zI : σ I = none)
    (hstep : ∀ x ρ' σ' K, step x ρ' σ' K → ∃ ρ'', bindT C.calm sc t x ρ' = some ρ'' ∧ exs C n sc b ρ'' σ' K)
    (hfr : ∀ i ρ' σ' σ'' (s' s'' : Shared), At i σ' s'.heap → St prog w F B env ρ' σ' s' → Go (Own env sc) σ' s' σ'' s'' → (∀ o, s'.heap.get? I = some o → s''.heap.get? I = some o) → ok σ'' → At i σ'' s''.heap)
    (hnx : ∀ i ρ' σ' (s' : Shared) (Q' : Option Value → Shared → Prop) (E' : Value → Shared → Prop), At i σ' s'.heap → St prog w F B env ρ' σ' s' → σ' I = none → (items[i]? = none → A.handled = none) →
      (∀ y x h' tk, items[i]? = some x → VRel F s'.heap y x → At (i + 1) σ' h' → (∀ a o, a ≠ I → s'.heap.get? a = some o → h'.get? a = some o) → Q' (some y) { s' with heap := h', toks := tk }) →
      (∀ h', items[i]? = none → (∀ a o, a ≠ I → s'.heap.get? a = some o → h'.get? a = some o) → Q' none { s' with heap := h' }) → wpAny (model prog w) A (pyNext (.ref I)) Q' E' s')
    (hth : ∀ i σ' h, At i σ' h → ∃ o, h.get? I = some o ∧ ¬ Frozen o)
    (hlg : ∀ i σ' (s' : Shared) v (Q' : Unit → Shared → Prop) (E' : Value → Shared → Prop), At i σ' s'.heap → Q' () s' → wpAny (model prog w) A (letOwnedTupleGo t (.ref I) v) Q' E' s')
    (hok : ok σ) (h0 : At 0 σ s.heap) (h : forLoop step C.calm ok items ρ σ Q) :
    codeAny (model prog w) A (.forLoop t (.ref I) b [] env) (fun r s' => match r with | .ok f => NxP prog w F B env sc σ₁ s₁ Q f s' | .error e => cameBackBy (model prog w) A env (ExP prog w F B env sc σ₁ s₁ C.exc) e s') s := by
  have hP : ∀ a o, s₁.heap.get? a = some o → (s₁.heap.get? a = none ∨ Own env sc a) → Own env sc a := fun a o e hp => hp.resolve_left (by rw [e]; simp)
  obtain ⟨bI1, bI2, bI3, bI4⟩ := S₁.newAddr eI
  have hOI : ¬ Own env sc I := by
    rintro (e | ⟨x, _, hx⟩)
    · exact bI3 e
    · exact bI4 x I hx rfl
  refine codeAny_forLoop_any (fun k s' => ∃ i ρ' σ', k = items.length + 1 - i ∧ i ≤ items.length ∧ At i σ' s'.heap ∧ St prog w F B env ρ' σ' s' ∧ Go (fun x => s₁.heap.get? x = none ∨ Own env sc x) σ₁ s₁ σ' s' ∧ σ' I = none ∧
    forLoop step C.calm ok (items.drop i) ρ' σ' Q) ?_ (items.length + 1) ⟨0, ρ, σ, rfl, Nat.zero_le _, h0, S, gs, zI, by simpa using h⟩
  rintro k s' ⟨i, ρ', σ', rfl, hi, hat, S', g', zI', hq⟩
  obtain ⟨oI, eoI, thI⟩ := hth _ _ _ hat
  refine hnx i ρ' σ' s' _ _ hat S' zI' (fun hn => ?_) (fun y x h₅ tk₅ hb hy hat₅ hk₅ => ?_) (fun h₅ hend hk₅ => ?_)
  · rw [List.drop_eq_nil_of_le (List.getElem?_eq_none_iff.mp hn), forLoop] at hq
    exact T.calm hq.1
  · have hdrop : items.drop i = x :: items.drop (i + 1) := by
      obtain ⟨hlt, e⟩ := List.getElem?_eq_some_iff.mp hb
      rw [← e]; exact List.drop_eq_getElem_cons hlt
    have hlt : i < items.length := (List.getElem?_eq_some_iff.mp hb).1
    rw [hdrop, forLoop] at hq
    obtain ⟨ρ₅, hρ₅, hq⟩ := hstep _ _ _ _ hq
    have S₅ : St prog w F B env ρ' σ' { s' with heap := h₅, toks := tk₅ } := S'.aside hk₅ bI1 zI' bI3 bI4 fun o e => by rw [eoI] at e; cases e; exact thI
    have g₅ := Go.aside (tk := tk₅) g' S'.inv eI zI' hk₅
    have fz₅ : ∀ a o, s'.heap.get? a = some o → Frozen o → h₅.get? a = some o := fun a o e hf => hk₅ a o (by rintro rfl; rw [eoI] at e; cases e; exact thI hf) e
    refine hlg (i + 1) σ' { s' with heap := h₅, toks := tk₅ } _ _ _ hat₅ (assign_sound T S₅ (hy.mono fz₅) hρ₅ fun s₆ S₆ gA => ?_)
    have G₆ : Go (fun x => s₁.heap.get? x = none ∨ Own env sc x) σ₁ s₁ σ' s₆ := g₅.trans (gA.mono fun a o _ hp => .inr hp)
    refine wpAny_mono (ih T S₆ hq) (fun f s₇ ⟨fl, ρ₇, σ₇, hf, S₇, g₇, hq₇⟩ => ?_) fun e s₇ hx => own_pass T e s₇ (by
      obtain ⟨a, ρ₇, σ₇, q1, q2, q3, q4⟩ := hx
      exact ⟨a, ρ₇, σ₇, q1, q2, (G₆.trans (q3.mono fun a o _ hp => .inr hp)).mono hP, q4⟩)
    have G₇ : Go (fun x => s₁.heap.get? x = none ∨ Own env sc x) σ₁ s₁ σ₇ s₇ := G₆.trans (g₇.mono fun a o _ hp => .inr hp)
    cases hf with
    | next =>
      obtain ⟨hok₇, hq₇⟩ := hq₇
      obtain ⟨oI₅, eoI₅, _⟩ := hth _ _ _ hat₅
      have e6 := gA.keep I oI₅ hOI eoI₅ zI'
      have hk : ∀ o, h₅.get? I = some o → s₇.heap.get? I = some o := fun o e => g₇.keep I o hOI (gA.keep I o hOI e zI') zI'
      exact ⟨_, by lia, i + 1, ρ₇, σ₇, rfl, hlt, hfr (i + 1) ρ' σ' σ₇ { s' with heap := h₅, toks := tk₅ } s₇ hat₅ S₅ (gA.trans g₇) hk hok₇, S₇, G₇, g₇.off e6 zI', hq₇⟩
    | ret hv => exact ⟨_, ρ₇, σ₇, .ret hv, S₇, G₇.mono hP, hq₇⟩
  · rw [List.drop_eq_nil_of_le (List.getElem?_eq_none_iff.mp hend), forLoop] at hq
    have S₅ : St prog w F B env ρ' σ' { s' with heap := h₅ } := S'.aside (tk := s'.toks) hk₅ bI1 zI' bI3 bI4 fun o e => by rw [eoI] at e; cases e; exact thI
    have g₅ := Go.aside (tk := s'.toks) g' S'.inv eI zI' hk₅
    exact wpAny_execs_nil ⟨_, ρ', σ', .next, S₅, g₅.mono hP, hq.2⟩
end
end Mine

set_option linter.unusedVariables false
namespace Mine
open PySem PySem.W PyProof.Rows

section
variable {prog : Program} {w : World} {F : Tab} {B : Heap} {env : Env} {sc csc : Scope} {C : Cx} {ρ : Rho} {σ σ₁ σ' : Store} {s s₁ s' : Shared} {A : Around} {E : Value → Shared → Prop} {n : Nat} {X : VPost}

theorem came_mono {E E' : Value → Shared → Prop} (h : ∀ v s', E v s' → E' v s') {e : Value} (q : cameBackBy (model prog w) A env E e s') : cameBackBy (model prog w) A env E' e s' :=
  wpAny_mono q (fun _ s'' x => h _ _ x) fun _ _ x => h _ _ x

theorem for_plain (ih : SndX prog w F B n) {t : Expr} {b : List Stmt} {v : Value} {a : Val} {items : List Val} {step : Val → Rho → Store → (Fl → Rho → Store → Prop) → Prop} {Q : Fl → Rho → Store → Prop} (T : Sta prog w F B C A env sc) (S : St prog w F B env ρ σ s)
    (hv : VRel F s.heap v a) (hi : itemsOf σ a = some items) (hstep : ∀ x ρ' σ' K, step x ρ' σ' K → ∃ ρ'', bindT C.calm sc t x ρ' = some ρ'' ∧ exs C n sc b ρ'' σ' K) (h : forLoop step C.calm (still σ a) items ρ σ Q) :
    wpAny (model prog w) A (pyIter v) (fun it s₂ => codeAny (model prog w) A (.forLoop t it b [] env) (fun r s' => match r with | .ok f => NxP prog w F B env sc σ s Q f s' | .error e => cameBackBy (model prog w) A env (ExP prog w F B env sc σ s C.exc) e s') s₂) E s := by
  refine iter_start S hv hi fun h' hk hit => ?_
  have S' : St prog w F B env ρ σ { s with heap := h' } := (S.ext (tk := s.toks) hk).1
  have g' : Go (fun x => s.heap.get? x = none ∨ Own env sc x) σ s σ { s with heap := h' } := (S.ext (tk := s.toks) hk).2.mono fun a o _ hp => .inr (.inl hp)
  refine for_core ih (At := fun i σ' h => ItAt σ' a s.heap.objs.size i items h) (ok := still σ a) T S' (sizeNone _) S g' (S.freshOf (sizeNone _)) hstep (fun i ρ' σ' σ'' s' s'' x S' g hk hok => ?_) (fun i ρ' σ' s' Q' E' x S' z hm h1 h2 => iter_next S' z x hm h1 h2) (fun i σ' h x => x.thaw)
    (fun i σ' s' v Q' E' x hq => letGo_it x hq) (by cases a <;> simp [still]) hit h
  refine x.at hk ?_
  cases a with
  | ref l => exact (show σ'' l = σ l from hok).trans (show σ' l = σ l from by rw [x.2, hit.2]).symm
  | _ => trivial

theorem ORel.roP {h : Heap} {d : Addr} {es : List ((Int × Int) × Val)} (x : ORel prog w F h d (.dictP es)) : ORel prog w F h d (.dictR es) := x
theorem St.rawR (S : St prog w F B env ρ σ s) {d : Addr} {es : List ((Int × Int) × Val)} (h : σ d = some (.dictR es)) :
    ∃ ens ep, RawDict s.heap d ens ep ∧ ens.size = es.length ∧ VRels F s.heap (ens.toList.map (·.key)) (es.map fun e => pairV e.1) ∧ es.length ≤ cap := by
  have hL : d ≠ env.locals := by rintro rfl; rw [S.fra.offL] at h; cases h
  have hC : ∀ x c, env.cells.lookup x = some c → c ≠ d := by rintro x c hc rfl; rw [(S.fra.offC x c hc).1] at h; cases h
  exact (S.know (ao := .dictP es) (S.inv.obj d _ h).1 hL hC (S.inv.obj d _ h).2).rawP (by simp [Store.set])
theorem Raw_same {h : Heap} {d : Addr} {es es' : Array DictEntry} {ep ep' : Nat} (x : RawDict h d es ep) (y : RawDict h d es' ep') : es = es' ∧ ep = ep' := by
  obtain ⟨o, e, _, d1⟩ := x
  obtain ⟨o', e', _, d2⟩ := y
  rw [e] at e'; cases e'; rw [d1] at d2; cases d2; exact ⟨rfl, rfl⟩

theorem for_keys (ih : SndX prog w F B n) {t : Expr} {b : List Stmt} {v : Value} {d : Addr} {es : List ((Int × Int) × Val)} {step : Val → Rho → Store → (Fl → Rho → Store → Prop) → Prop} {Q : Fl → Rho → Store → Prop} (T : Sta prog w F B C A env sc) (S : St prog w F B env ρ σ s)
    (hv : VRel F s.heap v (.keys d)) (hd : σ d = some (.dictP es)) (hstep : ∀ x ρ' σ' K, step x ρ' σ' K → ∃ ρ'', bindT C.calm sc t x ρ' = some ρ'' ∧ exs (C.pull fun σ => σ.set d (.dictP es)) n sc b ρ'' σ' K)
    (h : forLoop step C.calm (fun _ => True) (es.map fun e => pairV e.1) ρ (σ.set d (.dictR es)) fun fl ρ' σ' => Q fl ρ' (σ'.set d (.dictP es))) :
    wpAny (model prog w) A (pyIter v) (fun it s₂ => codeAny (model prog w) A (.forLoop t it b [] env) (fun r s' => match r with | .ok f => NxP prog w F B env sc σ s Q f s' | .error e => cameBackBy (model prog w) A env (ExP prog w F B env sc σ s C.exc) e s') s₂) E s := by
  obtain ⟨hB, hO⟩ := S.inv.obj d _ hd
  have hL : d ≠ env.locals := by rintro rfl; rw [S.fra.offL] at hd; cases hd
  have hC : ∀ x c, env.cells.lookup x = some c → c ≠ d := by rintro x c hc rfl; rw [(S.fra.offC x c hc).1] at hd; cases hd
  have S₀ : St prog w F B env ρ (σ.set d (.dictR es)) s := S.know hB hL hC hO.roP
  obtain ⟨ens, ep, hr, hz, hk, hcap⟩ := S.rawP hd
  cases hv with
  | keys e =>
    rename_i va
    refine raw_pyIter_keys ⟨_, e, rfl, rfl⟩ hr ?_
    have up : ∀ a o, s.heap.get? a = some o → (s.heap.push { cls := .type "dict_keyiterator", data := .fields #[.ref d, .int 0 0, .int ens.size 0, .int ep 0] }).get? a = some o := fun a o e => Heap.get?_push_of_some _ e
    have S₂ := (S₀.ext (tk := s.toks) up).1
    have g₂ : Go (fun x => s.heap.get? x = none ∨ Own env sc x) (σ.set d (.dictR es)) s (σ.set d (.dictR es)) _ := (S₀.ext (tk := s.toks) up).2.mono fun a o _ hp => .inr (.inl hp)
    -- back to the store as it was
    have conv : ∀ {ρ' σ'} {s' : Shared}, St prog w F B env ρ' σ' s' → Go (Own env sc) (σ.set d (.dictR es)) s σ' s' → St prog w F B env ρ' (σ'.set d (.dictP es)) s' ∧ Go (Own env sc) σ s (σ'.set d (.dictP es)) s' := by
      intro ρ' σ' s' S' g
      obtain ⟨e1, e2⟩ := g.ro d es (by simp [Store.set])
      refine ⟨S'.know hB hL hC (S'.inv.obj d _ e1).2, ⟨g.same, fun a o hp ea hn => g.keep a o hp ea ?_, g.live, fun a h1 h2 => g.grow a ?_ ?_, fun a h1 => ?_, fun a es' h1 => ?_⟩⟩
      · unfold Store.set; rw [if_neg (by rintro rfl; rw [hd] at hn; cases hn)]; exact hn
      · unfold Store.set; rw [if_neg (by rintro rfl; rw [hd] at h1; cases h1)]; exact h1
      · unfold Store.set at h2; rw [if_neg (by rintro rfl; rw [hd] at h1; cases h1)] at h2; exact h2
      · unfold Store.set; split
        · simp
        · rename_i hne; exact g.dom a (by unfold Store.set; rw [if_neg hne]; exact h1)
      · have hne : a ≠ d := by rintro rfl; rw [hd] at h1; cases h1
        obtain ⟨q1, q2⟩ := g.ro a es' (by unfold Store.set; rw [if_neg hne]; exact h1)
        exact ⟨by unfold Store.set; rw [if_neg hne]; exact q1, q2⟩
    refine codeAny_mono (for_core ih (C := C.pull fun σ => σ.set d (.dictP es)) (At := fun i σ' h => h.IsKeyIter s.heap.objs.size d i ens.size ep ∧ RawDict h d ens ep ∧ σ' d = some (.dictR es)) (ok := fun _ => True) (items := es.map fun (e : (Int × Int) × Val) => pairV e.1) (Q := fun fl ρ' σ' => Q fl ρ' (σ'.set d (.dictP es))) (T.pull _) S₂ (sizeNone _) S₀ g₂
      (S₀.freshOf (sizeNone _)) hstep (fun i ρ' σ' σ'' s' s'' x S' g hk hok => ?_) (fun i ρ' σ' s' Q' E' x S' z hm h1 h2 => ?_) (fun i σ' h x => ?_) (fun i σ' s' v Q' E' x hq => letGo_keyiter x.1 hq) trivial ⟨⟨_, Heap.get?_push_size _ rfl, rfl, rfl⟩, hr.at fun o e => up _ _ e, by simp [Store.set]⟩ h) ?_
    · obtain ⟨q1, q2⟩ := g.ro d es x.2.2
      exact ⟨x.1.at hk, x.2.1.at fun o e => q2.trans e, q1⟩
    · obtain ⟨ens', ep', r1, r2, r3, r4⟩ := S'.rawR x.2.2
      obtain ⟨rfl, rfl⟩ := Raw_same x.2.1 r1
      have hdI : d ≠ s.heap.objs.size := by rintro q; obtain ⟨o, eo, _⟩ := hr; rw [q, sizeNone] at eo; cases eo
      cases hx : ens[i]? with
      | some en =>
        obtain ⟨b', hb', hr'⟩ := r3.getL (i := i) (v := en.key) (by rw [List.getElem?_map, Array.getElem?_toList, hx]; rfl)
        refine raw_pyNext_item x.1 x.2.1 hx fun h' hit' hs' => ?_
        exact h1 en.key b' h' s'.toks hb' hr' ⟨hit', x.2.1.at fun o e => hs'.extBut d o hdI e, x.2.2⟩ fun b o hne e => hs'.extBut b o hne e
      | none =>
        have hn : (es.map fun e => pairV e.1)[i]? = none := by
          rw [Array.getElem?_eq_none_iff] at hx
          rw [List.getElem?_eq_none_iff]; simp; lia
        refine raw_pyNext_end (hm hn) x.1 x.2.1 hx fun h' he' => ?_
        exact h2 h' hn fun b o hne e => he' b o hne e
    · obtain ⟨o, e, c, _⟩ := x.1
      exact ⟨o, e, by rintro ⟨q, _⟩; rw [c] at q; simp at q⟩
    · intro r s' hr
      cases r with
      | ok f =>
        obtain ⟨fl, ρ', σ', q1, q2, q3, q4⟩ := hr
        obtain ⟨c1, c2⟩ := conv q2 q3
        exact ⟨fl, ρ', _, q1, c1, c2, q4⟩
      | error e =>
        refine came_mono (fun v s'' hx => ?_) hr
        obtain ⟨a, ρ', σ', q1, q2, q3, q4⟩ := hx
        obtain ⟨c1, c2⟩ := conv q2 q3
        exact ⟨a, ρ', _, q1, c1, c2, q4⟩

theorem swaps_no {v : Expr} {o i : Expr} {p : Pos} {l : Nat} : swapsWith v (some (.Subscript o i p)) l env = pure false := by cases v <;> rfl
theorem inter_no (T : Sta prog w F B C A env sc) : interactive env = false := by unfold interactive; rw [T.kind]; rfl

theorem assign_name (T : Sta prog w F B C A env sc) (S : St prog w F B env ρ σ s) {x : Str} {px p : Pos} {e : Expr} {Q : Fl → Rho → Store → Prop} (hl : isLoc sc x = true) (h : ev C n sc e ρ σ fun v σ₁ => Q .next (upd ρ x v) σ₁) :
    wpAny (model prog w) A (exec (.Assign [.Name x px] e p) env) (NxP prog w F B env sc σ s Q) (ExP prog w F B env sc σ s C.exc) s := by
  have plain : swapsWith e (some (.Name x px)) p.line env = pure false → wpAny (model prog w) A (exec (.Assign [.Name x px] e p) env) (NxP prog w F B env sc σ s Q) (ExP prog w F B env sc σ s C.exc) s := fun hs =>
    wpAny_Assign_Name (evIn T S h fun v a σ₁ s₁ hv S₁ g hq => store_sound T S₁ hl hv fun s₂ S₂ g₂ => ⟨_, _, σ₁, .next, S₂, g.owns.trans g₂, hq⟩) hs
  cases e with
  | ListComp elt gens csc pos =>
    have hsw : swapsWith (.ListComp elt gens csc pos) (some (.Name x px)) p.line env = pure (env.blockKind == .function && env.kindOf x == some .local && px.line == pos.line && !(csc.names.any fun (n, k) => n == x && (k == .local || k == .cell))) := rfl
    cases hb : (env.blockKind == .function && env.kindOf x == some .local && px.line == pos.line && !(csc.names.any fun (n, k) => n == x && (k == .local || k == .cell))) with
    | false => exact plain (hsw.trans (by rw [hb]))
    | true =>
      rw [hb] at hsw
      cases n with
      | zero => exact False.elim h
      | succ n =>
        match gens with
        | [] => exact False.elim h
        | g :: g' :: l =>
          obtain ⟨t, i, f, k⟩ := g
          cases k with
          | ofNat m => cases m <;> exact False.elim h
          | negSucc m => exact False.elim h
        | [⟨target, iter, ifs, k⟩] =>
          by_cases hk : k = 0
          · subst hk
            rw [exec_Assign_Name_used _ _ _ _ hsw]
            refine wpAny_bind (wpAny_standAt (wpAny_bind ?_))
            show wpAny _ A (do let _ ← comprehension (.ListComp elt [⟨target, iter, ifs, 0⟩] csc pos) csc env _ (newList []) false (eval iter env) (some (assign (.Name x px) env))) _ _ s
            refine wpAny_bind (wpAny_mono (comp_core (snd_all_n n) (use := some (assign (.Name x px) env)) (K := fun _ s' => NxP prog w F B env sc σ s Q .next s') T S h (fun _ _ q => q.toX) fun D L σ' s' m eD eL hDL hn zL S' g' hq => ?_) (fun _ s' hq => wpAny_pure (wpAny_pure hq)) fun _ _ e => e)
            obtain ⟨b1, b2, b3, b4⟩ := S.newAddr eL
            show wpAny _ A (assign (.Name x px) env (.ref D)) _ _ s'
            have oL : ¬ Own env sc L := by
              rintro (e | ⟨y, _, hy⟩)
              · exact b3 e
              · exact b4 y L hy rfl
            refine wpAny_assign_Name (store_sound T S' hl (.ref D) fun s₂ S₂ g₂ => ⟨m, hn.at' fun o e => g₂.keep L o oL e zL, fun h' hs' => ?_⟩)
            have hk : ∀ a o, a ≠ L → s₂.heap.get? a = some o → h'.get? a = some o := fun a o hne e => hs'.extBut a o hne e
            exact ⟨_, _, σ', .next, S₂.aside (tk := s₂.toks) hk b1 zL b3 b4 (fun o e => ns_thaw (hn.at' fun o e => g₂.keep L o oL e zL) o e), Go.aside (tk := s₂.toks) (g'.owns.trans g₂) S₂.inv eL zL hk, hq⟩
          · cases k with
            | ofNat m => cases m with
              | zero => exact absurd rfl hk
              | succ m => exact False.elim h
            | negSucc m => exact False.elim h
  | SetComp => cases n <;> exact False.elim h
  | DictComp => cases n <;> exact False.elim h
  | _ => exact plain rfl

theorem sndx_all : ∀ n, SndX prog w F B n ∧ ∀ {C : Cx} {A : Around} {env : Env} {sc : Scope} {st : Stmt} {ρ : Rho} {σ : Store} {s : Shared} {Q : Fl → Rho → Store → Prop}, Sta prog w F B C A env sc → St prog w F B env ρ σ s → ex C n sc st ρ σ Q →
    wpAny (model prog w) A (exec st env) (NxP prog w F B env sc σ s Q) (ExP prog w F B env sc σ s C.exc) s := by
  intro n
  induction n with
  | zero =>
    refine ⟨fun {C A env sc b ρ σ s Q} T S h => ?_, fun T S h => False.elim h⟩
    cases b with
    | nil => exact wpAny_execs_nil ⟨_, ρ, σ, .next, S, Go.refl _ _ _, h⟩
    | cons _ _ => exact False.elim h
  | succ n ih =>
    obtain ⟨ihs, ih⟩ := ih
    refine ⟨fun {C A env sc b ρ σ s Q} T S h => ?_, fun {C A env sc st ρ σ s Q} T S h => ?_⟩
    · cases b with
      | nil => exact wpAny_execs_nil ⟨_, ρ, σ, .next, S, Go.refl _ _ _, h⟩
      | cons st r =>
        rw [exs_1] at h
        refine wpAny_execs_cons (wpAny_mono (ih T S h) (fun f s₁ ⟨fl, ρ₁, σ₁, hf, S₁, g₁, hq⟩ => ?_) fun _ _ q => q)
        cases hf with
        | next => exact shiftN g₁ (ihs T S₁ hq)
        | ret hv => exact ⟨_, ρ₁, σ₁, .ret hv, S₁, g₁, hq⟩
    · cases st with
      | Pass p => exact wpAny_Pass ⟨_, ρ, σ, .next, S, Go.refl _ _ _, h⟩
      | Expr e p =>
        cases e with
        | Call f as ks cp =>
          rw [ex_Expr] at h
          rw [exec_Expr env _ p (inter_no T) rfl]
          exact wpAny_bind (wpAny_standAt (wpAny_bind (evIn T S h fun v a σ₁ s₁ hv S₁ g hq => wpAny_dropValue ⟨_, ρ, σ₁, .next, S₁, g.owns, hq⟩)))
        | _ => exact False.elim h
      | Return e p =>
        cases e with
        | none => exact wpAny_Return_none ⟨_, ρ, σ, .ret .none, S, Go.refl _ _ _, h⟩
        | some e => rw [ex_RetS] at h; exact wpAny_Return_some (evIn T S h fun v a σ₁ s₁ hv S₁ g hq => ⟨_, ρ, σ₁, .ret hv, S₁, g.owns, hq⟩)
      | If t b o p =>
        rw [ex_If] at h
        refine wpAny_If (wpAny_mono ((snd_all_n n).tst T S h) (fun c s₁ ⟨σ₁, S₁, g, hq⟩ => ?_) fun _ _ q => q.toX)
        cases c with
        | true => exact shiftN g.owns (ihs T S₁ (hq.1 rfl))
        | false => exact shiftN g.owns (ihs T S₁ (hq.2 rfl))
      | For t it b o p =>
        cases o with
        | cons _ _ => exact False.elim h
        | nil =>
          rw [ex_For] at h
          refine wpAny_For (evIn T S h fun v a σ₁ s₁ hv S₁ g hq => ?_) (ev_notSetIt h)
          have lift : wpAny (model prog w) A (pyIter v) (fun it s₂ => codeAny (model prog w) A (.forLoop t it b [] env) (fun r s' => match r with | .ok f => NxP prog w F B env sc σ₁ s₁ Q f s' | .error e => cameBackBy (model prog w) A env (ExP prog w F B env sc σ₁ s₁ C.exc) e s') s₂) (fun _ _ => False) s₁ → _ := fun hh =>
            wpAny_mono (Q' := fun it s₂ => codeAny (model prog w) A (.forLoop t it b [] env) (fun r s' => match r with | .ok f => NxP prog w F B env sc σ s Q f s' | .error e => cameBackBy (model prog w) A env (ExP prog w F B env sc σ s C.exc) e s') s₂) (E' := ExP prog w F B env sc σ s C.exc) hh (fun it s₂ q => codeAny_mono q fun r s' hr => by
              cases r with
              | ok f => exact NxP.back g.owns hr
              | error e => exact came_mono (fun v s'' hx => hx.back g.owns) hr) fun _ _ f => f.elim
          refine lift ?_
          cases a with
          | keys d =>
            unfold forV at hq
            dsimp only at hq
            split at hq
            · rename_i es hd
              refine for_keys ihs T S₁ hv hd (fun x ρ' σ' K hs => ?_) hq
              unfold forStep at hs
              split at hs
              · rename_i ρ'' hρ; exact ⟨ρ'', hρ, hs⟩
              · exact hs.elim
            · exact hq.elim
          | _ =>
            unfold forV at hq
            dsimp only at hq
            split at hq
            · rename_i items hi
              refine for_plain ihs T S₁ hv hi (fun x ρ' σ' K hs => ?_) hq
              unfold forStep at hs
              split at hs
              · rename_i ρ'' hρ; exact ⟨ρ'', hρ, hs⟩
              · exact hs.elim
            · exact hq.elim
      | Assign ts e p =>
        match ts with
        | [] => exact False.elim h
        | _ :: _ :: _ => exact False.elim h
        | [t] =>
          cases t with
          | Name x px => rw [ex_AName] at h; exact assign_name T S h.1 h.2
          | Subscript o i q =>
            rw [ex_ASub] at h
            refine wpAny_Assign_Subscript (evIn T S h fun v a σ₁ s₁ hv S₁ g hq => shiftE g.owns (evIn T S₁ hq fun ov oa σ₂ s₂ ho S₂ g₂ hq₂ => shiftE (g.trans g₂).owns (evIn T S₂ hq₂ fun iv ia σ₃ s₃ hi S₃ g₃ hq₃ => ?_))) swaps_no
            exact wpAny_mono (setitem_sound (E := fun _ _ => False) S₃ (S₂.val g₃ ho) hi (S₂.val g₃ (S₁.val g₂ hv)) hq₃ T.units) (fun _ s₄ ⟨σ₄, S₄, g₄, hq₄⟩ => ⟨_, ρ, σ₄, .next, S₄, (g.trans (g₂.trans (g₃.trans g₄))).owns, hq₄⟩) fun _ _ f => f.elim
          | Tuple tl k q =>
            have tup : ∀ {x y : Str} {px py : Pos}, (swapsWithSole [.Tuple [.Name x px, .Name y py] k q] e p.line env = pure false) → swappedStores [.Tuple [.Name x px, .Name y py] k q] e env = pure none →
                (ev C n sc e ρ σ fun v σ₁ => match bindT C.calm sc (.Tuple [.Name x px, .Name y py] k q) v ρ with
                  | some ρ' => Q .next ρ' σ₁
                  | Option.none => False) → wpAny (model prog w) A (exec (.Assign [.Tuple [.Name x px, .Name y py] k q] e p) env) (NxP prog w F B env sc σ s Q) (ExP prog w F B env sc σ s C.exc) s := by
              intro x y px py h1 h2 h
              refine wpAny_Assign_stores (evIn T S h fun v a σ₁ s₁ hv S₁ g hq => ?_) h1 h2
              split at hq
              · rename_i ρ' hρ
                show wpAny _ A (assign (.Tuple [.Name x px, .Name y py] k q) env v) _ _ _
                exact assign_sound T S₁ hv hρ fun s₂ S₂ g₂ => ⟨_, ρ', σ₁, .next, S₂, g.owns.trans g₂, hq⟩
              · exact hq.elim
            match tl with
            | [] => exact False.elim h
            | [_] => exact False.elim h
            | _ :: _ :: _ :: _ => exact False.elim h
            | [a, b] =>
              cases a with
              | Name x px =>
                cases b with
                | Name y py =>
                  cases e with
                  | Name z pz => rw [ex_ATupN] at h; exact tup rfl rfl h
                  | Call f as ks pc => rw [ex_ATupC] at h; exact tup rfl rfl h
                  | _ => exact False.elim h
                | _ => exact False.elim h
              | _ => exact False.elim h
          | _ => exact False.elim h
      | _ => exact False.elim h
end
end Mine

set_option linter.unusedVariables false
namespace Mine
open PySem PySem.W PyProof.Rows

def Tab.addr (F : Tab) : Fn → Option Addr
  | .top n => F.fn n
  | .meth c n => F.meth c n

/-- there is room for d calls within one another -/
def Room (A : Around) (d : Nat) : Prop := A.depth + d < recursionLimit ∧ A.units + 3 * d + 70 < cLine

section
variable (prog : Program) (w : World) (F : Tab) (B : Heap)

/-- what a call's end says -/
def CaP (σ : Store) (s : Shared) (Q : VPost) (v : Value) (s' : Shared) : Prop := ∃ a σ', VRel F s'.heap v a ∧ Inv prog w F B σ' s'.heap ∧ Go (fun _ => False) σ s σ' s' ∧ Q a σ'

/-- a call of one of the text's own defs -/
def LCall (d : Nat) (calm : Bool) (f : Fn) (vs : List Val) (σ : Store) (Q X : VPost) : Prop :=
  ∀ (A : Around) (s : Shared) (vals : List Value) (a : Addr), Room A d → (calm = true → A.handled = none) → F.addr f = some a → Inv prog w F B σ s.heap → VRels F s.heap vals vs →
    wpAny (model prog w) A (call (.ref a) vals) (CaP prog w F B σ s Q) (CaP prog w F B σ s X) s

def bindRho : List Str → List Val → Rho → Rho
  | p :: ps, v :: vs, ρ => bindRho ps vs (upd ρ p v)
  | _, _, ρ => ρ

/-- a def as it lies in the base -/
structure FnAt (a : Addr) (G U : Addr) (params : List Str) (body : List Stmt) (sc : Scope) : Prop where
  fd : ∃ o fd, B.get? a = some o ∧ o.data = .func fd ∧ fd.body = .stmts body ∧ fd.scope = sc ∧ fd.closure = [] ∧ fd.globals = G ∧ fd.builtins = U ∧ B.CodeRec fd.code fd.qualname ∧
    ∀ vals : List Value, vals.length = params.length → bindArgs fd ⟨vals, []⟩ = pure (params.zip vals)
  co : sc.isCoroutine = false
  gen : sc.isGenerator = false
  kind : sc.kind = .function
  dbg : sc.names.lookup ("__debug__" : Str) = none
  cdict : sc.names.lookup ("__classdict__" : Str) = none
  free : ∀ x ∈ sc.names, x.2 ≠ .free
  pars : ∀ x ∈ params, sc.names.lookup x = some .local ∨ sc.names.lookup x = some .cell

/-- what the globals hold -/
structure GlAt (G U : Addr) (gl : Str → Option Val) : Prop where
  ns : ∃ mg mb, B.Ns G mg ∧ B.Ns U mb ∧ ∀ x v, gl x = some v → (∃ val, mg x = some val ∧ VRel F B val v) ∨ (mg x = none ∧ ∃ val, mb x = some val ∧ VRel F B val v)
end

section
variable {prog : Program} {w : World} {F : Tab} {B : Heap} {env : Env} {sc csc : Scope} {C : Cx} {ρ : Rho} {σ σ₁ σ' : Store} {s s₁ s' : Shared} {A : Around} {E : Value → Shared → Prop} {n : Nat} {X : VPost}

theorem cellsFrom_mem : ∀ (names : List (Str × NameKind)) (k : Nat) (acc : List (Str × Addr)) (x : Str), ((∃ c, (x, c) ∈ acc) ∨ (x, NameKind.cell) ∈ names) → ∃ c, (cellsFrom k names acc).lookup x = some c
  | [], k, acc, x, h => by
    rcases h with ⟨c, hc⟩ | h
    · unfold cellsFrom
      induction acc with
      | nil => cases hc
      | cons p r ih =>
        rw [List.lookup_cons]
        cases hb : x == p.1 with
        | true => exact ⟨p.2, rfl⟩
        | false =>
          rcases List.mem_cons.mp hc with q | q
          · subst q; simp at hb
          · exact ih q
    · cases h
  | (nm, kd) :: r, k, acc, x, h => by
    unfold cellsFrom
    split
    · rename_i hk
      refine cellsFrom_mem r (k + 1) _ x ?_
      rcases h with ⟨c, hc⟩ | h
      · exact .inl ⟨c, .tail _ hc⟩
      · rcases List.mem_cons.mp h with q | q
        · cases q; exact .inl ⟨k, .head _⟩
        · exact .inr q
    · rename_i hk
      refine cellsFrom_mem r k acc x ?_
      rcases h with h | h
      · exact .inl h
      · rcases List.mem_cons.mp h with q | q
        · cases q; exact absurd rfl hk
        · exact .inr q

theorem CaP.to {Q : VPost} {v : Value} (S : St prog w F B env ρ σ s) (h : CaP prog w F B σ s Q v s') : EvP prog w F B env ρ σ s Q v s' := by
  obtain ⟨a, σ', h1, h2, h3, h4⟩ := h
  exact ⟨a, σ', h1, S.after h3 (fun _ _ _ f => f) h2, h3.mono fun _ _ _ f => f.elim, h4⟩

/-- the parameters stand in the frame -/
theorem bind_rel (kindOf : Str → Option NameKind) {h : Heap} : ∀ (ps : List Str) (vals : List Value) (vs : List Val) (m cm : Str → Option Value) (ρ : Rho), vals.length = ps.length → VRels F h vals vs →
    (∀ x ∈ ps, kindOf x = some .local ∨ kindOf x = some .cell) →
    (∀ x a, kindOf x = some .local → ρ x = some a → ∃ v, m x = some v ∧ VRel F h v a) → (∀ x a, (kindOf x = some .cell ∨ kindOf x = some .free) → ρ x = some a → ∃ v, cm x = some v ∧ VRel F h v a) →
    (∀ x a, kindOf x = some .local → bindRho ps vs ρ x = some a → ∃ v, bindL kindOf (ps.zip vals) m x = some v ∧ VRel F h v a) ∧
    (∀ x a, (kindOf x = some .cell ∨ kindOf x = some .free) → bindRho ps vs ρ x = some a → ∃ v, bindC kindOf (ps.zip vals) cm x = some v ∧ VRel F h v a)
  | [], vals, vs, m, cm, ρ, hl, hv, hk, h1, h2 => by simpa [bindRho, bindL, bindC] using ⟨h1, h2⟩
  | p :: ps, [], vs, m, cm, ρ, hl, hv, hk, h1, h2 => by simp at hl
  | p :: ps, v :: vals, _, m, cm, ρ, hl, .cons (a := a) (as := as) hv hvs, hk, h1, h2 => by
    simp only [bindRho, List.zip_cons_cons, bindL, bindC]
    refine bind_rel kindOf ps vals as _ _ _ (by simpa using hl) hvs (fun x hx => hk x (.tail _ hx)) (fun x b q1 q2 => ?_) (fun x b q1 q2 => ?_)
    · unfold upd at q2
      by_cases hx : x = p
      · subst hx; rw [if_pos rfl] at q2; cases q2
        rw [if_pos q1]; exact ⟨v, by simp, hv⟩
      · rw [if_neg hx] at q2
        obtain ⟨u, e1, e2⟩ := h1 x b q1 q2
        refine ⟨u, ?_, e2⟩
        split
        · simp [hx, e1]
        · exact e1
    · unfold upd at q2
      by_cases hx : x = p
      · subst hx; rw [if_pos rfl] at q2; cases q2
        rw [if_neg (by rintro e; rw [e] at q1; simp at q1)]; exact ⟨v, by simp, hv⟩
      · rw [if_neg hx] at q2
        obtain ⟨u, e1, e2⟩ := h2 x b q1 q2
        refine ⟨u, ?_, e2⟩
        split
        · exact e1
        · simp [hx, e1]

/-- what the other defs owe -/
structure Around' (prog : Program) (w : World) (F : Tab) (B : Heap) (C : Cx) (d : Nat) : Prop where
  call : ∀ f vs σ Q X, C.call f vs σ Q X → LCall prog w F B d C.calm f vs σ Q X
  sys : ∃ o, B.get? sysModules = some o
  fns : ∀ n a, F.fn n = some a → ∃ o fd, B.get? a = some o ∧ o.data = .func fd
  clsK : ∀ c a, F.cls c = some a → ∃ k, (k = Keeper.frame ∨ k = Keeper.machine ∨ k = Keeper.boundFrame) ∧ Looks (model prog w) B (keeperOf (.ref a)) k
  make : ∀ A env c vs ρ σ Q X, Room A d → (C.calm = true → A.handled = none) → newInst { C with exc := X } c vs σ Q → ∀ s vals a, F.cls c = some a → St prog w F B env ρ σ s → VRels F s.heap vals vs →
    wpAny (model prog w) A (PySem.call (.ref a) vals) (EvP prog w F B env ρ σ s Q) (EvP prog w F B env ρ σ s X) s
  attr : ∀ A env v a n ρ σ s Q E, St prog w F B env ρ σ s → VRel F s.heap v a → getattr a n σ Q → wpAny (model prog w) A (getAttr v n true) (EvP prog w F B env ρ σ s Q) E s
  sattr : ∀ A env v a n x b ρ σ s Q E, St prog w F B env ρ σ s → VRel F s.heap v a → VRel F s.heap x b → setattr a n b σ Q → wpAny (model prog w) A (setAttr v n x) (UnP prog w F B env ρ σ s Q) E s
  meth : ∀ c n, C.mth c n = true → ∃ f, F.meth c n = some f ∧ ∀ A env p ρ σ s Q E pl, St prog w F B env ρ σ s → methKind (.ref p) n σ = some (.inst c p) → Q (.ref f, [.ref p]) s → wpAny (model prog w) A (getMethod (.ref p) n pl) Q E s
  methFn : ∀ c n f, F.meth c n = some f → ∃ o fd, B.get? f = some o ∧ o.data = .func fd
  lim : B.NoLimit

theorem call_rule {d : Nat} {f : Fn} {a G U : Addr} {params : List Str} {body : List Stmt} {vs : List Val} {Q : VPost} (fuel : Nat) (R : Around' prog w F B C d) (hf : F.addr f = some a) (FA : FnAt B a G U params body sc) (GA : GlAt F B G U C.gl)
    (hlen : vs.length = params.length) (hX : ∀ a σ, ¬ C.exc a σ)
    (h : exs C fuel sc body (bindRho params vs fun _ => none) σ fun fl _ σ' => match fl with | .next => Q .none σ' | .ret v => Q v σ') :
    LCall prog w F B (d + 1) C.calm f vs σ Q X := by
  intro A s vals a' hR hcalm ha' J hv
  rw [hf] at ha'; cases ha'
  obtain ⟨o, fd, e1, e2, e3, e4, e5, e6, e7, e8, e9⟩ := FA.fd
  subst e4
  have hvl := hv.length
  obtain ⟨mg, mb, n1, n2, n3⟩ := GA.ns
  refine wpAny_call (codeAny_call_cells (by have := hR.1; lia) (J.keep _ _ e1) e2 (R.lim.keeps J.keep) (e8.keeps J.keep) e3 (e9 vals (by lia)) e5 (fun x hx => ?_) (fun s₁ IC => ?_) FA.co FA.gen FA.kind)
  · have hm : x.1 ∈ params := (List.of_mem_zip hx).1
    rcases FA.pars x.1 hm with q | q
    · exact .inl q
    · obtain ⟨c, hc⟩ := cellsFrom_mem fd.scope.names (s.heap.objs.size + 1) [] x.1 (.inr (mem_of_lookup q))
      exact .inr ⟨q, by rw [hc]; rfl⟩
  · generalize hE : callEnvC fd s.heap.objs.size a = env at IC ⊢
    have ek : ∀ x, env.kindOf x = fd.scope.names.lookup x := fun x => by rw [← hE]; rfl
    have eL : env.locals = s.heap.objs.size := by rw [← hE]; rfl
    have eC : env.cells = cellsFrom (s.heap.objs.size + 1) fd.scope.names [] := by rw [← hE]; rfl
    have eG : env.globals = G := by rw [← hE]; exact e6
    have eU : env.builtins = U := by rw [← hE]; exact e7
    have kp := IC.toInCall.keep
    have J₁ : Inv prog w F B σ s₁.heap := ⟨fun b o e => kp b o (J.keep b o e), fun b o e => ⟨(J.obj b o e).1, by
      obtain ⟨ob, e', _⟩ := ORel.live prog w F (J.obj b o e).2
      exact ORel.mono prog w F (fun a o e _ => kp a o e) ((kp _ _ e').trans e'.symm) (J.obj b o e).2⟩, J.scr⟩
    have offσ : ∀ b, s.heap.get? b = none → σ b = none := fun b hb => by
      cases hs : σ b with
      | none => rfl
      | some ao => obtain ⟨ob, e', _⟩ := ORel.live prog w F (J.obj b ao hs).2; rw [hb] at e'; cases e'
    have offB : ∀ b, s.heap.get? b = none → B.get? b = none := fun b hb => by
      cases hs : B.get? b with
      | none => rfl
      | some ao => have := J.keep _ _ hs; rw [hb] at this; cases this
    have nL : s.heap.get? env.locals = none := by rw [eL]; exact sizeNone _
    have nC : ∀ x c, env.cells.lookup x = some c → s.heap.get? c = none ∧ c ≠ env.locals := fun x c hc => by
      have h1 : env.locals < c := IC.above x c (mem_of_lookup hc)
      have h2 : s.heap.objs.size ≤ env.locals := IC.toInCall.fresh
      exact ⟨Heap.get?_none_of_le (Nat.le_of_lt (Nat.lt_of_le_of_lt h2 h1)), Nat.ne_of_gt h1⟩
    have hkinds : ∀ x ∈ params, env.kindOf x = some .local ∨ env.kindOf x = some .cell := fun x hx => by rw [ek]; exact FA.pars x hx
    have hv₁ : VRels F s₁.heap vals vs := hv.mono fun a o e _ => kp a o e
    have br := bind_rel (F := F) env.kindOf params vals vs (fun _ => none) (fun _ => none) (fun _ => none) (by lia) hv₁ hkinds (fun _ _ _ e => by cases e) (fun _ _ _ e => by cases e)
    have cells : ∀ x, env.kindOf x = some .cell ∨ env.kindOf x = some .free → ∃ c, env.cells.lookup x = some c := fun x hx => by
      rw [ek] at hx
      rcases hx with hx | hx
      · rw [eC]; exact cellsFrom_mem _ _ _ _ (.inr (mem_of_lookup hx))
      · exact absurd rfl (FA.free _ (mem_of_lookup hx))
    have S : St prog w F B env (bindRho params vs fun _ => none) σ s₁ := by
      refine ⟨J₁, ⟨⟨⟨_, IC.toInCall.ns, br.1⟩, fun x b q1 q2 => ?_⟩, offσ _ nL, fun x c hc => ⟨offσ _ (nC x c hc).1, (nC x c hc).2, _, IC.cell x c hc⟩⟩, offB _ nL, fun x c hc => offB _ (nC x c hc).1⟩
      obtain ⟨c, hc⟩ := cells x q1
      obtain ⟨v, r1, r2⟩ := br.2 x b q1 q2
      exact ⟨c, v, hc, r1 ▸ IC.cell x c hc, r2⟩
    have g₁ : Go (fun _ => False) σ s σ s₁ := by
      refine ⟨IC.toInCall.same, fun b o _ e _ => kp b o e, fun b o e => ⟨o, kp b o e⟩, fun _ a b => absurd a b, fun _ a => a, fun b es e => ⟨e, ?_⟩⟩
      obtain ⟨ob, e', _⟩ := ORel.live prog w F (J.obj b _ e).2
      exact (kp _ _ e').trans e'.symm
    have hRd : Room (A.deeper env) d := ⟨by show A.depth + 1 + d < _; have := hR.1; lia, by show A.units + 3 + 3 * d + 70 < _; have := hR.2; lia⟩
    have T : Sta prog w F B C (A.deeper env) env fd.scope :=
      { kind := by rw [← hE]; exact FA.kind
        names := fun x => .inl (ek x)
        dbg := FA.dbg
        cdict := FA.cdict
        cells := cells
        apart := fun x y c hx hy => name_of_addr IC.apart (mem_of_lookup hx) (mem_of_lookup hy)
        glob := fun x v hx s' Q' E' hk hq => by
          rcases n3 x v hx with ⟨val, q1, q2⟩ | ⟨q0, val, q1, q2⟩
          · exact Calls.loadGlobal_global (by rw [eG]; exact n1.keeps hk) q1 (hq val (q2.mono fun a o e _ => hk a o e))
          · exact Calls.loadGlobal_builtin (by rw [eG]; exact n1.keeps hk) q0 (by rw [eU]; exact n2.keeps hk) q1 (hq val (q2.mono fun a o e _ => hk a o e))
        units := by show A.units + 3 + 70 < _; have := hR.2; lia
        calm := hcalm
        sys := R.sys
        fns := R.fns
        call := fun env' n vs ρ σ Q X hc s vals a ha S hv => wpAny_mono (R.call _ _ _ _ _ hc (A.deeper env) s vals a hRd hcalm ha S.inv hv) (fun _ _ q => q.to S) fun _ _ q => q.to S
        clsK := R.clsK
        make := fun env' c vs ρ σ Q X hc => R.make (A.deeper env) env' c vs ρ σ Q X hRd hcalm hc
        attr := R.attr (A.deeper env)
        sattr := R.sattr (A.deeper env)
        meth := fun c n hc => by obtain ⟨f, q1, q2⟩ := R.meth c n hc; exact ⟨f, q1, q2 (A.deeper env)⟩
        methFn := R.methFn
        mcall := fun env' c n vs ρ σ Q X hc s vals a ha S hv => wpAny_mono (R.call _ _ _ _ _ hc (A.deeper env) s vals a hRd hcalm ha S.inv hv) (fun _ _ q => q.to S) fun _ _ q => q.to S
        own := .inl hX }
    refine wpAny_mono ((sndx_all fuel).1 T S h) (fun f s₂ ⟨fl, ρ₂, σ₂, q1, q2, q3, q4⟩ => ?_) fun e s₂ ⟨a, _, σ₂, _, _, _, q⟩ => absurd q (hX a σ₂)
    have g₂ : Go (fun _ => False) σ s σ₂ s₂ := by
      refine ((g₁.mono (P' := Own env fd.scope) fun _ _ _ f => f.elim).trans q3).mono fun b o e hp => ?_
      rcases hp with hp | ⟨x, _, hx⟩
      · subst hp; rw [nL] at e; cases e
      · rw [(nC x b hx).1] at e; cases e
    cases q1 with
    | next => exact ⟨.none, σ₂, .none, q2.inv, g₂, q4⟩
    | ret hv => exact ⟨_, σ₂, hv, q2.inv, g₂, q4⟩
end
end Mine

set_option linter.unusedVariables false
namespace Mine
open PySem PySem.W PyProof.Rows

/-- a def of the text: its parameters, its body, its scope -/
def fnOf (p : Program) (f : Str) : List Str × List Stmt × Scope :=
  match p.main.body.find? (fun st => match st with | .FunctionDef n .. => n == f | _ => false) with
  | some (.FunctionDef _ a b _ _ _ sc _ _ _) => (a.args.map (·.arg), b, sc)
  | _ => ([], [], default)

def simpleArgs (a : Arguments) : Bool := a.posonlyargs.isEmpty && a.vararg.isNone && a.kwonlyargs.isEmpty && a.kwarg.isNone && decide ((a.args.map (·.arg)).Nodup) && decide (a.args.length ≤ 6)
def scopeOk (sc : Scope) (ps : List Str) : Bool := !sc.isCoroutine && !sc.isGenerator && sc.kind == .function && (sc.names.lookup ("__debug__" : Str)).isNone && (sc.names.lookup ("__classdict__" : Str)).isNone &&
  sc.names.all (fun x => x.2 != .free) && ps.all (fun x => sc.names.lookup x == some .local || sc.names.lookup x == some .cell)

theorem lookup_zip : ∀ (ps : List Str) (vals : List Value) (q : List (Str × Value)), ps.Nodup → vals.length = ps.length → (∀ x ∈ ps, q.lookup x = none) → ps.filterMap (fun n => ((q ++ ps.zip vals).lookup n).map (n, ·)) = ps.zip vals
  | [], _, _, _, _, _ => rfl
  | p :: ps, [], _, _, h, _ => by simp at h
  | p :: ps, v :: vals, q, hn, hl, hq => by
    have hn' := List.nodup_cons.mp hn
    have e : ∀ (l : List (Str × Value)), (q ++ (p, v) :: l).lookup p = some v := by
      intro l
      rw [List.lookup_append, hq p (.head _)]; simp
    simp only [List.zip_cons_cons, List.filterMap_cons, e, Option.map_some]
    congr 1
    have := lookup_zip ps vals (q ++ [(p, v)]) hn'.2 (by simpa using hl) (fun x hx => by
      rw [List.lookup_append, hq x (.tail _ hx)]
      have : (x == p) = false := by rw [beq_eq_false_iff_ne]; rintro rfl; exact hn'.1 hx
      simp [List.lookup_cons, this])
    rw [List.append_assoc] at this
    simpa using this

theorem lookup_some : ∀ (ps : List Str) (vals : List Value), vals.length = ps.length → ∀ x ∈ ps, ((ps.zip vals).lookup x).isNone = false
  | p :: ps, [], h, _, _ => by simp at h
  | p :: ps, v :: vals, h, x, hx => by
    rw [List.zip_cons_cons, List.lookup_cons]
    cases hb : x == p with
    | true => rfl
    | false =>
      rcases List.mem_cons.mp hx with q | q
      · subst q; simp at hb
      · exact lookup_some ps vals (by simpa using h) x q

theorem bind_simple {name qn : Str} {a : Arguments} {fd : FuncData} (hp : fd.params = a) (hd : fd.defaults = .none) (ha : simpleArgs a = true) (vals : List Value) (hl : vals.length = (a.args.map (·.arg)).length) :
    bindArgs fd ⟨vals, []⟩ = pure ((a.args.map (·.arg)).zip vals) := by
  subst hp
  unfold simpleArgs at ha
  simp only [Bool.and_eq_true, List.isEmpty_iff, Option.isNone_iff_eq_none, decide_eq_true_eq] at ha
  obtain ⟨⟨⟨⟨⟨h1, h2⟩, h3⟩, h4⟩, h5⟩, h6⟩ := ha
  have hz := lookup_zip (fd.params.args.map (·.arg)) vals [] h5 hl (fun _ _ => rfl)
  have hs := lookup_some (fd.params.args.map (·.arg)) vals hl
  have hlt : ¬ (vals.length > (fd.params.args.map (·.arg)).length) := by lia
  have hm : ((fd.params.args.map (·.arg)).filter fun n => ((((fd.params.args.map (·.arg)).zip vals)).lookup n).isNone) = [] := by
    rw [List.filter_eq_nil_iff]; intro x hx; rw [hs x hx]; simp
  have hseq : seqItems? .none = pure none := rfl
  unfold bindArgs
  dsimp only
  simp only [hseq, hd, h1, h2, h3, h4, List.map_nil, List.nil_append, List.forIn_nil, pure_bind, Option.getD_none, Array.toList_empty, List.drop_nil, List.length_nil, Nat.zero_sub, Nat.sub_zero, List.take_length, hlt, decide_false, Bool.false_and, Bool.false_eq_true, if_false, List.append_nil, List.drop_length, List.zip_nil_right, hm, List.isEmpty_nil, Bool.not_true]
  simp only [List.nil_append] at hz
  exact congrArg pure hz

section
variable {prog : Program} {w : World} {F : Tab} {B : Heap} {C : Cx} {σ : Store} {X : VPost}

/-- a def at the top, as the head tells of it -/
theorem fnAt_top {q : Program} {loose : List Str} {mean : ExcName → Option Value} {mg mb : Str → Option Value} {d : DefRec} (T : Top q loose mean mg mb B) (hd : d ∈ recsOf q) (h1 : simpleArgs d.params = true) (h2 : scopeOk d.scope (d.params.args.map (·.arg)) = true) :
    ∃ a, mg d.name = some (.ref a) ∧ FnAt B a mainGlobals builtinsNs (d.params.args.map (·.arg)) d.body d.scope := by
  obtain ⟨a, o, pm, code, doc, e1, e2, e3, e4⟩ := T.fn d hd
  unfold scopeOk at h2
  simp only [Bool.and_eq_true, Option.isNone_iff_eq_none, List.all_eq_true, bne_iff_ne, Bool.or_eq_true, beq_iff_eq, Bool.not_eq_true'] at h2
  obtain ⟨⟨⟨⟨⟨⟨q1, q2⟩, q3⟩, q4⟩, q5⟩, q6⟩, q7⟩ := h2
  exact ⟨a, e1, ⟨⟨o, _, e2, e3, rfl, rfl, rfl, rfl, rfl, e4, fun vals hl => bind_simple (name := d.name) (qn := d.name) rfl rfl h1 vals hl⟩, q1, q2, by simpa using q3, q4, q5, q6, q7⟩⟩

/-- all that the walks of a text's defs want -/
structure Sup (prog : Program) (w : World) (F : Tab) (B : Heap) (gl : Str → Option Val) (names : List Str) : Prop where
  fn : ∀ n ∈ names, ∃ a, F.fn n = some a ∧ FnAt B a mainGlobals builtinsNs (fnOf prog n).1 (fnOf prog n).2.1 (fnOf prog n).2.2
  only : ∀ n a, F.fn n = some a → n ∈ names
  gl : GlAt F B mainGlobals builtinsNs gl
  sys : ∃ o, B.get? sysModules = some o
  lim : B.NoLimit

/-- the words about a def's inside -/
def cxOf (prog : Program) (w : World) (F : Tab) (B : Heap) (gl : Str → Option Val) (d : Nat) : Cx :=
  { gl := gl, call := LCall prog w F B d true, exc := fun _ _ => False, calm := true, mth := fun _ _ => false }

/-- a text without classes -/
theorem Sup.around {gl : Str → Option Val} {names : List Str} {d : Nat} (U : Sup prog w F B gl names) (hc : ∀ c, F.cls c = none) (hm : ∀ c n, F.meth c n = none) : Around' prog w F B (cxOf prog w F B gl d) d where
  call := fun f vs σ Q X h => h
  sys := U.sys
  fns := fun n a h => by
    obtain ⟨a', h1, FA⟩ := U.fn n (U.only n a h)
    rw [h] at h1; cases h1
    obtain ⟨o, fd, e1, e2, _⟩ := FA.fd
    exact ⟨o, fd, e1, e2⟩
  clsK := fun c a h => by rw [hc] at h; cases h
  make := fun A env c vs ρ σ Q X _ _ _ s vals a h => by rw [hc] at h; cases h
  attr := fun A env v a n ρ σ s Q E S hv h => by
    unfold getattr at h
    split at h
    · split at h
      · rename_i c dx hp
        obtain ⟨C, h1, _⟩ := (S.inv.obj _ _ hp).2
        rw [hc] at h1; cases h1
      · exact h.elim
    · exact h.elim
  sattr := fun A env v a n x b ρ σ s Q E S hv _ h => by
    unfold setattr at h
    split at h
    · split at h
      · rename_i c dx hp
        obtain ⟨C, h1, _⟩ := (S.inv.obj _ _ hp).2
        rw [hc] at h1; cases h1
      · exact h.elim
    · exact h.elim
  meth := fun c n h => by cases h
  methFn := fun c n f h => by rw [hm] at h; cases h
  lim := U.lim

/-- a call of a def at the top -/
theorem Sup.call {gl : Str → Option Val} {names : List Str} {d : Nat} {n : Str} {vs : List Val} {Q : VPost} (fuel : Nat) (U : Sup prog w F B gl names) (hc : ∀ c, F.cls c = none) (hm : ∀ c n, F.meth c n = none) (hn : n ∈ names) (hlen : vs.length = (fnOf prog n).1.length)
    (h : exs (cxOf prog w F B gl d) fuel (fnOf prog n).2.2 (fnOf prog n).2.1 (bindRho (fnOf prog n).1 vs fun _ => none) σ fun fl _ σ' => match fl with | .next => Q .none σ' | .ret v => Q v σ') :
    LCall prog w F B (d + 1) true (.top n) vs σ Q X := by
  obtain ⟨a, ha, FA⟩ := U.fn n hn
  exact call_rule (C := cxOf prog w F B gl d) fuel (U.around hc hm) ha FA U.gl hlen (fun _ _ h => h) h
theorem Sup.run {gl : Str → Option Val} {names : List Str} {d : Nat} {n : Str} {vs : List Val} {Q : VPost} (fuel : Nat) (U : Sup prog w F B gl names) (hc : ∀ c, F.cls c = none) (hm : ∀ c n, F.meth c n = none) (hd : 1 ≤ d) (hn : n ∈ names)
    {ps : List Str} {b : List Stmt} {sc : Scope} (hfn : fnOf prog n = (ps, b, sc)) (hlen : vs.length = ps.length)
    (h : exs (cxOf prog w F B gl (d - 1)) fuel sc b (bindRho ps vs fun _ => none) σ fun fl _ σ' => match fl with | .next => Q .none σ' | .ret v => Q v σ') :
    LCall prog w F B d true (.top n) vs σ Q X := by
  obtain ⟨d, rfl⟩ : ∃ d', d = d' + 1 := ⟨d - 1, by lia⟩
  refine U.call fuel hc hm hn (by rw [hfn]; exact hlen) ?_
  rw [hfn]; exact h
end
end Mine

set_option linter.unusedVariables false
namespace Mine
open PySem

theorem ofString_inj {a b : String} : (Str.ofString a = Str.ofString b) = (a = b) := by
  apply propext
  constructor
  · intro h
    rw [Str.ofString_eq_toList, Str.ofString_eq_toList] at h
    injection h with h
    have h2 : a.toList.map Char.toNat = b.toList.map Char.toNat := by simpa using h
    have h3 : a.toList = b.toList := by
      have inj : ∀ (l m : List Char), l.map Char.toNat = m.map Char.toNat → l = m := by
        intro l
        induction l with
        | nil => intro m h; cases m <;> simp_all
        | cons c l ih =>
          intro m h
          cases m with
          | nil => simp at h
          | cons d m =>
            simp only [List.map_cons, List.cons.injEq] at h
            rw [ih m h.2]
            congr 1
            exact Char.toNat_inj.mp h.1
      exact inj _ _ h2
    exact String.toList_inj.mp h3
  · rintro rfl; rfl
theorem ofString_beq {a b : String} : (Str.ofString a == Str.ofString b) = (a == b) := by
  rw [Bool.eq_iff_iff]; simp [ofString_inj]
theorem ofString_bne {a b : String} : (Str.ofString a != Str.ofString b) = (a != b) := by
  rw [Bool.eq_iff_iff]; simp [ofString_inj]

theorem forLoop_inv {step : Val → Rho → Store → (Fl → Rho → Store → Prop) → Prop} {ok : Store → Prop} {Q : Fl → Rho → Store → Prop} {items : List Val} (I : Nat → Rho → Store → Prop) {ρ : Rho} {σ : Store} (h0 : I 0 ρ σ)
    (hs : ∀ i x ρ' σ' K, items[i]? = some x → I i ρ' σ' → (∀ ρ'' σ'', ok σ'' → I (i + 1) ρ'' σ'' → K .next ρ'' σ'') → (∀ v ρ'' σ'', Q (.ret v) ρ'' σ'' → K (.ret v) ρ'' σ'') → step x ρ' σ' K)
    (he : ∀ ρ' σ', I items.length ρ' σ' → Q .next ρ' σ') : forLoop step true ok items ρ σ Q := by
  have gen : ∀ (l : List Val) (i : Nat) ρ σ, items.drop i = l → i ≤ items.length → I i ρ σ → forLoop step true ok l ρ σ Q := by
    intro l
    induction l with
    | nil =>
      intro i ρ σ hd hi h
      have : i = items.length := by
        have := congrArg List.length hd
        simp at this; lia
      subst this
      exact ⟨rfl, he ρ σ h⟩
    | cons x l ih =>
      intro i ρ σ hd hi h
      have hlt : i < items.length := by
        have := congrArg List.length hd
        simp at this; lia
      have hx : items[i]? = some x := by
        have := List.getElem?_drop (xs := items) (i := i) (j := 0)
        rw [hd] at this; simpa using this.symm
      have hd' : items.drop (i + 1) = l := by
        rw [← List.drop_drop, hd]; rfl
      rw [forLoop]
      exact hs i x ρ σ _ hx h (fun ρ'' σ'' hok hI => ⟨hok, ih (i + 1) ρ'' σ'' hd' hlt hI⟩) (fun v ρ'' σ'' hq => hq)
  exact gen items 0 ρ σ rfl (Nat.zero_le _) h0

theorem compLoop_inv {step : Val → Store → (Option Val → Store → Prop) → Prop} {ok : Store → Prop} {K : List Val → Store → Prop} {items : List Val} (I : Nat → List Val → Store → Prop) {acc : List Val} {σ : Store} (h0 : I 0 acc σ)
    (hs : ∀ i x acc' σ' k, items[i]? = some x → I i acc' σ' → (∀ r σ'', ok σ'' → I (i + 1) (match r with | some y => acc' ++ [y] | none => acc') σ'' → k r σ'') → step x σ' k)
    (he : ∀ acc' σ', I items.length acc' σ' → K acc' σ') : compLoop step ok items acc σ K := by
  have gen : ∀ (l : List Val) (i : Nat) acc σ, items.drop i = l → i ≤ items.length → I i acc σ → compLoop step ok l acc σ K := by
    intro l
    induction l with
    | nil =>
      intro i acc σ hd hi h
      have : i = items.length := by
        have := congrArg List.length hd
        simp at this; lia
      subst this
      exact he acc σ h
    | cons x l ih =>
      intro i acc σ hd hi h
      have hlt : i < items.length := by
        have := congrArg List.length hd
        simp at this; lia
      have hx : items[i]? = some x := by
        have := List.getElem?_drop (xs := items) (i := i) (j := 0)
        rw [hd] at this; simpa using this.symm
      have hd' : items.drop (i + 1) = l := by
        rw [← List.drop_drop, hd]; rfl
      rw [compLoop]
      exact hs i x acc σ _ hx h (fun r σ'' hok hI => ⟨hok, ih (i + 1) _ σ'' hd' hlt hI⟩)
  exact gen items 0 acc σ rfl (Nat.zero_le _) h0

theorem bindT_name {calm : Bool} {sc : Scope} {x : Str} {p : Pos} {v : Val} {ρ : Rho} : bindT calm sc (.Name x p) v ρ = if isLoc sc x then some (upd ρ x v) else none := rfl
theorem bindT_pair {calm : Bool} {sc : Scope} {x y : Str} {p q r : Pos} {k : Nat} {u v : Val} {ρ : Rho} : bindT calm sc (.Tuple [.Name x p, .Name y q] k r) (.tup [u, v]) ρ = if calm && isLoc sc x && isLoc sc y && x != y then some (upd (upd ρ x u) y v) else none := rfl

section
variable {σ : Store} {Q : VPost} {R : BPost} {C : Cx}
theorem bo_add {x y : Int} : binop .Add (.int x) (.int y) σ Q = Q (.int (x + y)) σ := rfl
theorem bo_sub {x y : Int} : binop .Sub (.int x) (.int y) σ Q = Q (.int (x - y)) σ := rfl
theorem bo_mul {x y : Int} : binop .Mult (.int x) (.int y) σ Q = ((short x ∨ short y) ∧ Q (.int (x * y)) σ) := rfl
theorem bo_div {x y : Int} : binop .FloorDiv (.int x) (.int y) σ Q = ((0 < y ∧ short y) ∧ Q (.int (x / y)) σ) := rfl
theorem bo_mod {x y : Int} : binop .Mod (.int x) (.int y) σ Q = (0 < y ∧ Q (.int (x % y)) σ) := rfl
theorem bo_pow {x y : Int} : binop .Pow (.int x) (.int y) σ Q = ((x = 10 ∧ 0 ≤ y ∧ y ≤ 30) ∧ Q (.int (10 ^ y.toNat)) σ) := rfl
theorem bo_cat {p q : Addr} {xs ys : List Val} (h1 : σ p = some (.list xs)) (h2 : σ q = some (.list ys)) : binop .Add (.ref p) (.ref q) σ Q = (xs.length + ys.length ≤ cap ∧ ∀ c, σ c = none → Q (.ref c) (σ.set c (.list (xs ++ ys)))) := by
  show listsAt σ p q _ = _
  unfold listsAt; rw [h1, h2]
theorem uo_neg {x : Int} : unop .USub (.int x) σ Q = Q (.int (-x)) σ := rfl
theorem uo_not {v : Val} : unop .Not v σ Q = truth v σ fun b σ' => Q (.bool !b) σ' := rfl
theorem tr_none : truth .none σ R = R false σ := rfl
theorem tr_bool {b : Bool} : truth (.bool b) σ R = R b σ := rfl
theorem tr_int {x : Int} : truth (.int x) σ R = R (x != 0) σ := rfl
theorem su_tup {vs : List Val} {k : Int} : subscr (.tup vs) (.int k) σ Q = (match (normIdx k vs.length).bind fun j => vs[j]? with | some v => Q v σ | none => False) := rfl
theorem su_scr {l : List Int} {k : Int} : subscr (.scr l) (.int k) σ Q = (match (normIdx k l.length).bind fun j => l[j]? with | some v => Q (.int v) σ | none => False) := rfl
theorem cv_fn {n : Str} {vs : List Val} : callV C (.fn n) vs σ Q = C.call (.top n) vs σ Q C.exc := rfl
theorem cv_cls {n : Str} {vs : List Val} : callV C (.cls n) vs σ Q = newInst C n vs σ Q := rfl
theorem cv_blt {n : String} {vs : List Val} : callV C (.blt n) vs σ Q = callBlt C.calm n vs σ Q := rfl
theorem cv_typ {n : String} {vs : List Val} : callV C (.typ n) vs σ Q = callTyp C.calm n vs σ Q := rfl
theorem cb_lenT {b : Bool} {vs : List Val} : callBlt b "len" [.tup vs] σ Q = Q (.int vs.length) σ := rfl
theorem cb_lenS {b : Bool} {l : List Int} : callBlt b "len" [.scr l] σ Q = Q (.int l.length) σ := rfl
theorem cb_isi {b : Bool} {v c : Val} : callBlt b "isinstance" [v, c] σ Q = (match isInst σ v c with | some b => Q (.bool b) σ | none => False) := rfl
theorem cb_sort {p : Addr} {xs : List Val} (h : σ p = some (.list xs)) : callBlt true "sorted" [.ref p] σ Q = ((sortable xs ∧ xs.length < 64) ∧ ∀ c, σ c = none → Q (.ref c) (σ.set c (.list (sortV xs)))) := by
  have n1 : ¬ ("sorted" = "len") := by decide
  have n2 : ¬ ("sorted" = "isinstance") := by decide
  simp only [callBlt, n1, n2, if_false, if_true, h, true_and]
theorem ii_intI {x : Int} : isInst σ (.int x) (.typ "int") = some true := rfl
theorem ii_boolI {x : Bool} : isInst σ (.bool x) (.typ "int") = some true := rfl
theorem ii_tupI {x : List Val} : isInst σ (.tup x) (.typ "int") = some false := rfl
theorem ii_intB {x : Int} : isInst σ (.int x) (.typ "bool") = some false := rfl
theorem ii_boolB {x : Bool} : isInst σ (.bool x) (.typ "bool") = some true := rfl
theorem ii_tupB {x : List Val} : isInst σ (.tup x) (.typ "bool") = some false := rfl
theorem ii_intT {x : Int} : isInst σ (.int x) (.typ "tuple") = some false := rfl
theorem ii_boolT {x : Bool} : isInst σ (.bool x) (.typ "tuple") = some false := rfl
theorem ii_tupT {x : List Val} : isInst σ (.tup x) (.typ "tuple") = some true := rfl
theorem ii_list {p : Addr} {xs : List Val} (h : σ p = some (.list xs)) : isInst σ (.ref p) (.typ "list") = some true := by
  have n1 : ¬ ("list" = "int") := by decide
  have n2 : ¬ ("list" = "bool") := by decide
  have n3 : ¬ ("list" = "tuple") := by decide
  simp only [isInst, n1, n2, n3, if_false, if_true, h]
theorem ct_rng1 {b : Bool} {n : Int} : callTyp b "range" [.int n] σ Q = ((-(cap : Int) ≤ n ∧ n ≤ cap) ∧ Q (.rng 0 n) σ) := rfl
theorem ct_list {b : Bool} {p : Addr} {xs : List Val} (h : σ p = some (.list xs)) : callTyp b "list" [.ref p] σ Q = ∀ c, σ c = none → Q (.ref c) (σ.set c (.list xs)) := by
  have n1 : ¬ ("list" = "range") := by decide
  simp only [callTyp, n1, if_false, if_true, h]
theorem ct_tup {b : Bool} {p : Addr} {xs : List Val} (h : σ p = some (.list xs)) : callTyp b "tuple" [.ref p] σ Q = Q (.tup xs) σ := by
  have n1 : ¬ ("tuple" = "range") := by decide
  have n2 : ¬ ("tuple" = "list") := by decide
  simp only [callTyp, n1, n2, if_false, if_true, h]
theorem co_lt {x y : Int} : cmpop .Lt (.int x) (.int y) σ R = R (decide (x < y)) σ := rfl
theorem co_le {x y : Int} : cmpop .LtE (.int x) (.int y) σ R = R (decide (x ≤ y)) σ := rfl
theorem co_gt {x y : Int} : cmpop .Gt (.int x) (.int y) σ R = R (decide (x > y)) σ := rfl
theorem co_ge {x y : Int} : cmpop .GtE (.int x) (.int y) σ R = R (decide (x ≥ y)) σ := rfl
theorem co_eq {a b : Val} : cmpop .Eq a b σ R = (match deq σ a b with | some r => R r σ | none => False) := rfl
theorem co_ne {a b : Val} : cmpop .NotEq a b σ R = (match deq σ a b with | some r => R (!r) σ | none => False) := by
  simp only [cmpop, cmpB]; cases deq σ a b <;> rfl
theorem co_in {a b : Val} : cmpop .In a b σ R = (match memV σ a b with | some r => R r σ | none => False) := rfl
theorem co_ni {a b : Val} : cmpop .NotIn a b σ R = (match memV σ a b with | some r => R (!r) σ | none => False) := by
  simp only [cmpop, cmpB]; cases memV σ a b <;> rfl
end

/-- more is known -/
def Ext (σ σ' : Store) : Prop := ∀ a o, σ a = some o → σ' a = some o
theorem Ext.refl (σ : Store) : Ext σ σ := fun _ _ h => h
theorem Ext.trans {a b c : Store} (h : Ext a b) (h' : Ext b c) : Ext a c := fun x o e => h' x o (h x o e)
theorem Ext.set {σ σ' : Store} (h : Ext σ σ') {c : Addr} {o : AObj} (hc : σ' c = none) : Ext σ (σ'.set c o) := fun x ob e => by
  have e' := h x ob e
  unfold Store.set; rw [if_neg (by rintro rfl; rw [hc] at e'; cases e')]; exact e'

theorem Ext.upd {σ σ' : Store} (h : Ext σ σ') {c : Addr} {o : AObj} (hc : σ c = none) : Ext σ (σ'.set c o) := fun x ob e => by
  unfold Store.set; rw [if_neg (by rintro rfl; rw [hc] at e; cases e)]; exact h x ob e
theorem Ext.off {σ σ' : Store} (h : Ext σ σ') {c : Addr} (hc : σ' c = none) : σ c = none := by
  cases hs : σ c with
  | none => rfl
  | some o => rw [h c o hs] at hc; cases hc
theorem set_self (σ : Store) (a : Addr) (o : AObj) : (σ.set a o) a = some o := by simp [Store.set]
theorem set_ne (σ : Store) {a b : Addr} (o : AObj) (h : b ≠ a) : (σ.set a o) b = σ b := by simp [Store.set, h]

/-- the script as a value: the laid list, or a list of one's own -/
theorem normIdx_nat {k n : Nat} (h : k < n) : normIdx (k : Int) n = some k := by
  unfold normIdx; rw [if_pos (by lia), if_pos (by lia)]; simp
def cellAt (l : List Int) (k : Nat) : Int := l.getD k 0

section
variable {prog : Program} {w : World} {F : Tab} {B : Heap} {gl : Str → Option Val} {d : Nat} {σ : Store}
theorem cxOf_gl : (cxOf prog w F B gl d).gl = gl := rfl
theorem cxOf_call : (cxOf prog w F B gl d).call = LCall prog w F B d true := rfl
theorem cxOf_exc : (cxOf prog w F B gl d).exc = fun _ _ => False := rfl
theorem cxOf_calm : (cxOf prog w F B gl d).calm = true := rfl
theorem cxOf_mth {c n : Str} : (cxOf prog w F B gl d).mth c n = false := rfl
theorem cxOf_hush : (cxOf prog w F B gl d).hush = cxOf prog w F B gl d := rfl
theorem cxOf_pull {f : Store → Store} : (cxOf prog w F B gl d).pull f = cxOf prog w F B gl d := rfl
theorem deq_int {i j : Int} : deq σ (.int i) (.int j) = some (i == j) := rfl
theorem deq_bool {i j : Bool} : deq σ (.bool i) (.bool j) = some (i == j) := rfl
theorem itemsOf_rng {lo hi : Int} : itemsOf σ (.rng lo hi) = some (ofInts (rangeL lo hi)) := rfl
theorem deq_list {p q : Addr} {xs ys : List Val} (h1 : σ p = some (.list xs)) (h2 : σ q = some (.list ys)) (f1 : xs.all (flat 3) = true) (f2 : ys.all (flat 3) = true) : deq σ (.ref p) (.ref q) = some (eqList (veq 3) xs ys) := by
  simp [deq, h1, h2, f1, f2]
end
theorem range_get {lo hi : Int} {i : Nat} {x : Val} (h : (ofInts (rangeL lo hi))[i]? = some x) : x = .int (lo + i) ∧ i < (hi - lo).toNat := by
  rw [ofInts_get, rangeL_get] at h
  split at h
  · rename_i hl; simp at h; exact ⟨h.symm, hl⟩
  · simp at h
theorem range_len (lo hi : Int) : (ofInts (rangeL lo hi)).length = (hi - lo).toNat := by simp [ofInts, rangeL_length]

theorem set_set (σ : Store) (a : Addr) (o o' : AObj) : (σ.set a o).set a o' = σ.set a o' := by
  funext b; unfold Store.set; split <;> rfl
theorem listMeth_append {σ : Store} {p : Addr} {xs : List Val} {v : Val} {Q : VPost} (h : σ p = some (.list xs)) : listMeth p "append" [v] σ Q = (xs.length < cap ∧ Q .none (σ.set p (.list (xs ++ [v])))) := by
  simp only [listMeth, h, if_true]
theorem dictMeth_keys {σ : Store} {p : Addr} {es : List ((Int × Int) × Val)} {Q : VPost} (h : σ p = some (.dictP es)) : dictMeth p "keys" [] σ Q = Q (.keys p) σ := by
  simp only [dictMeth, h, if_true]
/-- the pairs and the triples as values -/
def pairsV (ps : List (Int × Int)) : List Val := ps.map pairV
def tripV (t : Int × Int × Int) : Val := .tup [.int t.1, .int t.2.1, .int t.2.2]
def tripsV (ts : List (Int × Int × Int)) : List Val := ts.map tripV
theorem veq_pair (k : Nat) (a b c d : Int) : veq (k + 2) (.tup [.int a, .int b]) (.tup [.int c, .int d]) = decide ((a, b) = (c, d)) := by
  simp only [veq, eqList, Bool.and_true, Prod.mk.injEq]
  rw [Bool.eq_iff_iff]; simp
theorem veq_trip (k : Nat) (a b c d e f : Int) : veq (k + 2) (.tup [.int a, .int b, .int c]) (.tup [.int d, .int e, .int f]) = decide ((a, b, c) = (d, e, f)) := by
  simp only [veq, eqList, Bool.and_true, Prod.mk.injEq]
  rw [Bool.eq_iff_iff]; simp
theorem mem_pairs {σ : Store} {p : Addr} {ps : List (Int × Int)} {a b : Int} (h : σ p = some (.list (pairsV ps))) : memV σ (.tup [.int a, .int b]) (.ref p) = some (decide ((a, b) ∈ ps)) := by
  have f1 : (pairsV ps).all (flat 3) = true := by simp [pairsV, pairV, flat]
  simp only [memV, h, f1]
  have f2 : flat 3 (.tup [.int a, .int b]) = true := rfl
  simp only [f2, Bool.and_self, if_true]
  congr 1
  rw [Bool.eq_iff_iff, decide_eq_true_eq, List.any_eq_true]
  constructor
  · rintro ⟨x, hx, e⟩
    obtain ⟨⟨c, d⟩, hq, rfl⟩ := List.mem_map.mp hx
    simp only [pairV] at e
    rw [veq_pair 1, decide_eq_true_eq] at e
    exact e ▸ hq
  · intro hq
    exact ⟨pairV (a, b), List.mem_map.mpr ⟨_, hq, rfl⟩, by simp only [pairV]; rw [veq_pair 1]; simp⟩
theorem mem_trips {σ : Store} {p : Addr} {ts : List (Int × Int × Int)} {a b c : Int} (h : σ p = some (.list (tripsV ts))) : memV σ (.tup [.int a, .int b, .int c]) (.ref p) = some (decide ((a, b, c) ∈ ts)) := by
  have f1 : (tripsV ts).all (flat 3) = true := by simp [tripsV, tripV, flat]
  simp only [memV, h, f1]
  have f2 : flat 3 (.tup [.int a, .int b, .int c]) = true := rfl
  simp only [f2, Bool.and_self, if_true]
  congr 1
  rw [Bool.eq_iff_iff, decide_eq_true_eq, List.any_eq_true]
  constructor
  · rintro ⟨x, hx, e⟩
    obtain ⟨⟨d, e', f⟩, hq, rfl⟩ := List.mem_map.mp hx
    simp only [tripV] at e
    rw [veq_trip 1, decide_eq_true_eq] at e
    exact e ▸ hq
  · intro hq
    exact ⟨tripV (a, b, c), List.mem_map.mpr ⟨_, hq, rfl⟩, by simp only [tripV]; rw [veq_trip 1]; simp⟩
theorem pairsV_get {ps : List (Int × Int)} {i : Nat} {x : Val} (h : (pairsV ps)[i]? = some x) : ∃ p, ps[i]? = some p ∧ x = .tup [.int p.1, .int p.2] := by
  unfold pairsV at h
  rw [List.getElem?_map] at h
  obtain ⟨p, hp, e⟩ := Option.map_eq_some_iff.mp h
  exact ⟨p, hp, e.symm⟩
theorem pairsV_length (ps : List (Int × Int)) : (pairsV ps).length = ps.length := by simp [pairsV]
theorem tripsV_length (ps : List (Int × Int × Int)) : (tripsV ps).length = ps.length := by simp [tripsV]
theorem foldl_take_succ {α β : Type} (f : β → α → β) (b : β) {l : List α} {i : Nat} {x : α} (h : l[i]? = some x) : (l.take (i + 1)).foldl f b = f ((l.take i).foldl f b) x := by
  obtain ⟨hlt, e⟩ := List.getElem?_eq_some_iff.mp h
  rw [List.take_succ_eq_append_getElem hlt, List.foldl_append, e]; rfl
theorem tripsV_snoc (ts : List (Int × Int × Int)) (a b c : Int) : tripsV ts ++ [.tup [.int a, .int b, .int c]] = tripsV (ts ++ [(a, b, c)]) := by simp [tripsV, tripV]
theorem trips_sortable (ts : List (Int × Int × Int)) : sortable (tripsV ts) := by
  intro x hx
  obtain ⟨⟨a, b, c⟩, _, rfl⟩ := List.mem_map.mp hx
  exact ⟨a, [b, c], rfl⟩
/-- a dict of lists under ints, from its first day on -/
def behObj (L : List (Int × Addr)) : AObj := if L = [] then .dictP [] else .dictI (L.map fun x => (x.1, .ref x.2))
def lookL (k : Int) : List (Int × Addr) → Option Addr
  | [] => none
  | (j, a) :: r => if j = k then some a else lookL k r
theorem lookI_map (k : Int) : ∀ L : List (Int × Addr), lookI k (L.map fun x => (x.1, Val.ref x.2)) = (lookL k L).map Val.ref
  | [] => rfl
  | (j, a) :: r => by simp only [List.map_cons, lookI, lookL]; split <;> simp [lookI_map k r]
theorem lookL_snoc (k j : Int) (c : Addr) : ∀ L : List (Int × Addr), lookL k (L ++ [(j, c)]) = match lookL k L with | some a => some a | none => if j = k then some c else none
  | [] => by simp [lookL]
  | (i, a) :: r => by simp only [List.cons_append, lookL]; split <;> simp [lookL_snoc k j c r]
theorem beh_setdefault {σ : Store} {b c : Addr} {L : List (Int × Addr)} {k : Int} {Q : VPost} (h : σ b = some (behObj L)) :
    dictMeth b "setdefault" [.int k, .ref c] σ Q ↔ (match lookL k L with | some a => Q (.ref a) σ | none => L.length < cap ∧ Q (.ref c) (σ.set b (behObj (L ++ [(k, c)])))) := by
  have n1 : ¬ (Str.ofString "setdefault" = Str.ofString "keys") := by rw [ofString_inj]; decide
  have n2 : ¬ (Str.ofString "setdefault" = Str.ofString "get") := by rw [ofString_inj]; decide
  unfold dictMeth
  cases L with
  | nil => simp only [behObj, if_true] at h; simp [h, n1, n2, lookL, behObj, cap]
  | cons x r =>
    have hb : behObj (x :: r) = .dictI ((x :: r).map fun x => (x.1, .ref x.2)) := by simp [behObj]
    rw [hb] at h
    simp only [h, n2, if_false, if_true, lookI_map]
    cases hl : lookL k (x :: r) with
    | some a => simp
    | none => simp [behObj]
theorem beh_get {σ : Store} {b : Addr} {L : List (Int × Addr)} {k : Int} {d : Val} {Q : VPost} (h : σ b = some (behObj L)) :
    dictMeth b "get" [.int k, d] σ Q ↔ Q (((lookL k L).map Val.ref).getD d) σ := by
  have n1 : ¬ (Str.ofString "get" = Str.ofString "keys") := by rw [ofString_inj]; decide
  unfold dictMeth
  cases L with
  | nil => simp only [behObj, if_true] at h; simp [h, n1, lookL]
  | cons x r =>
    have hb : behObj (x :: r) = .dictI ((x :: r).map fun x => (x.1, .ref x.2)) := by simp [behObj]
    rw [hb] at h
    simp only [h, if_true, lookI_map]
theorem lateM_beh {C : Cx} {n : Nat} {sc : Scope} {ρ : Rho} {σ : Store} {Q : VPost} {args : List Expr} {p : Addr} {L : List (Int × Addr)} {m : Str} (h : σ p = some (behObj L)) (hm : (m == "keys" || m == "get" || m == "setdefault") = true) : lateM C n sc args ρ (.ref p) m σ Q = evs C n sc args ρ σ fun vs σ₂ => dictMeth p m vs σ₂ Q := by
  unfold behObj at h
  split at h
  · exact lateM_dictP h hm
  · exact lateM_dictI h hm
/-- a set of pairs -/
def setP (D : List (Int × Int)) : List ((Int × Int) × Val) := D.map fun p => (p, .bool true)
theorem lookP_set (k : Int × Int) : ∀ D, (lookP k (setP D)).isSome = decide (k ∈ D)
  | [] => by simp [setP, lookP]
  | p :: D => by
    have := lookP_set k D
    simp only [setP, List.map_cons, lookP] at this ⊢
    by_cases h : p = k
    · subst h; simp
    · rw [if_neg h, this]
      have : ¬ k = p := fun e => h e.symm
      simp [this]
theorem putP_set {k : Int × Int} {D : List (Int × Int)} (h : k ∉ D) : putP k (.bool true) (setP D) = setP (D ++ [k]) := by
  have hn : lookP k (setP D) = none := by
    have := lookP_set k D
    rw [decide_eq_false h] at this
    simpa using this
  rw [putP_none hn]; simp [setP]
theorem mem_setP {σ : Store} {t : Addr} {D : List (Int × Int)} {a b : Int} (h : σ t = some (.dictP (setP D))) : memV σ (.tup [.int a, .int b]) (.ref t) = some (decide ((a, b) ∈ D)) := by
  simp only [memV, h, pairOf, Option.map_some, lookP_set]
theorem mem_setR {σ : Store} {t : Addr} {D : List (Int × Int)} {a b : Int} (h : σ t = some (.dictR (setP D))) : memV σ (.tup [.int a, .int b]) (.ref t) = some (decide ((a, b) ∈ D)) := by
  simp only [memV, h, pairOf, Option.map_some, lookP_set]
theorem setP_keys (D : List (Int × Int)) : ((setP D).map fun e => pairV e.1) = pairsV D := by simp [setP, pairsV]
theorem setitem_P {σ : Store} {t : Addr} {D : List (Int × Int)} {a b : Int} {Q : Store → Prop} (h : σ t = some (.dictP (setP D))) (hn : (a, b) ∉ D) :
    setitem (.ref t) (.tup [.int a, .int b]) (.bool true) σ Q ↔ (D.length < cap ∧ Q (σ.set t (.dictP (setP (D ++ [(a, b)]))))) := by
  simp only [setitem, h, pairOf, putP_set hn]
  simp [setP]

/-- the pairs, each once -/
def addD (D : List (Int × Int)) (p : Int × Int) : List (Int × Int) := if p ∈ D then D else D ++ [p]
def outs (D : List (Int × Int)) (k : Int) : List Int := (D.filter fun p => p.1 = k).map (·.2)
theorem outs_snoc (D : List (Int × Int)) (a b k : Int) : outs (D ++ [(a, b)]) k = if a = k then outs D k ++ [b] else outs D k := by
  unfold outs; rw [List.filter_append]
  by_cases h : a = k <;> simp [h]
theorem addD_len (D : List (Int × Int)) (p : Int × Int) : (addD D p).length ≤ D.length + 1 := by unfold addD; split <;> simp
theorem addDs_len : ∀ (l D : List (Int × Int)), (l.foldl addD D).length ≤ D.length + l.length
  | [], D => by simp
  | p :: l, D => by
    have := addDs_len l (addD D p)
    have := addD_len D p
    simp only [List.foldl_cons, List.length_cons]; lia
def gapIn (D : List (Int × Int)) (p : Int × Int) (f : List (Int × Int × Int)) (c : Int) : List (Int × Int × Int) := if (p.1, c) ∉ D then f ++ [(p.1, p.2, c)] else f
def gapOut (D : List (Int × Int)) (f : List (Int × Int × Int)) (p : Int × Int) : List (Int × Int × Int) := (outs D p.2).foldl (gapIn D p) f
def gapsL (D : List (Int × Int)) : List (Int × Int × Int) := D.foldl (gapOut D) []
theorem gapIns_len (D : List (Int × Int)) (p : Int × Int) : ∀ (l : List Int) (f : List (Int × Int × Int)), (l.foldl (gapIn D p) f).length ≤ f.length + l.length
  | [], f => by simp
  | q :: l, f => by
    have := gapIns_len D p l (gapIn D p f q)
    have : (gapIn D p f q).length ≤ f.length + 1 := by unfold gapIn; split <;> simp
    simp only [List.foldl_cons, List.length_cons]; lia
theorem outs_len (D : List (Int × Int)) (k : Int) : (outs D k).length ≤ D.length := by
  unfold outs; rw [List.length_map]; exact List.length_filter_le _ _
theorem gapOuts_len (D : List (Int × Int)) : ∀ (l : List (Int × Int)) (f : List (Int × Int × Int)), (l.foldl (gapOut D) f).length ≤ f.length + l.length * D.length
  | [], f => by simp
  | q :: l, f => by
    have h1 := gapOuts_len D l (gapOut D f q)
    have h2 : (gapOut D f q).length ≤ f.length + (outs D q.2).length := gapIns_len D q _ f
    have h3 := outs_len D q.2
    simp only [List.foldl_cons, List.length_cons, Nat.succ_mul]; lia
/-- the lists under their ints -/
structure BehOk (σ₀ σ : Store) (L : List (Int × Addr)) (D : List (Int × Int)) (t b : Addr) : Prop where
  got : ∀ k a, lookL k L = some a → σ a = some (.list (ofInts (outs D k))) ∧ σ₀ a = none ∧ a ≠ t ∧ a ≠ b
  out : ∀ k, lookL k L = none → outs D k = []
  inj : ∀ k k' a, lookL k L = some a → lookL k' L = some a → k = k'
  len : L.length ≤ D.length

/-- two ways that meet again -/
theorem join3 {C : Cx} {n : Nat} {sc : Scope} {r : List Stmt} {R : Fl → Rho → Store → Prop} {σ : Store} {c1 c2 P1 : Prop} (G : Rho → Prop) {ρ₂ : Rho} (hP : (∀ ρ, G ρ → seqK C n sc r R .next ρ σ) → c1 → P1) (h2 : c2 → G ρ₂) (h : ∀ ρ, G ρ → exs C n sc r ρ σ R) :
    (c1 → P1) ∧ (c2 → seqK C n sc r R .next ρ₂ σ) := ⟨fun x => hP h x, fun x => h _ (h2 x)⟩
theorem eqList_refl {f : Val → Val → Bool} : ∀ xs : List Val, (∀ x ∈ xs, f x x = true) → eqList f xs xs = true
  | [], _ => rfl
  | x :: xs, h => by simp only [eqList, h x (.head _), Bool.true_and]; exact eqList_refl xs fun y hy => h y (.tail _ hy)
theorem flat_pairs (ps : List (Int × Int)) : (pairsV ps).all (flat 3) = true := by simp [pairsV, pairV, flat]
theorem flat_trips (ps : List (Int × Int × Int)) : (tripsV ps).all (flat 3) = true := by simp [tripsV, tripV, flat]
theorem eq_pairs (ps : List (Int × Int)) : eqList (veq 3) (pairsV ps) (pairsV ps) = true := by
  refine eqList_refl _ fun x hx => ?_
  obtain ⟨⟨a, b⟩, _, rfl⟩ := List.mem_map.mp hx
  simp only [pairV]; rw [veq_pair 1]; simp
theorem eq_trips (ps : List (Int × Int × Int)) : eqList (veq 3) (tripsV ps) (tripsV ps) = true := by
  refine eqList_refl _ fun x hx => ?_
  obtain ⟨⟨a, b, c⟩, _, rfl⟩ := List.mem_map.mp hx
  simp only [tripV]; rw [veq_trip 1]; simp
theorem range_take {α : Type} (f : Nat → α) (i : Nat) : (List.range (i + 1)).map f = (List.range i).map f ++ [f i] := by rw [List.range_succ, List.map_append]; rfl

theorem pairsV_snoc (ts : List (Int × Int)) (a b : Int) : pairsV ts ++ [.tup [.int a, .int b]] = pairsV (ts ++ [(a, b)]) := by simp [pairsV, pairV]
theorem every2_pairs : ∀ ps : List (Int × Int), ∃ qs : List (Int × Int), everySecond (pairsV ps) = pairsV qs ∧ 2 * qs.length ≤ ps.length + 1
  | [] => ⟨[], rfl, by simp⟩
  | [p] => ⟨[p], rfl, by simp⟩
  | p :: q :: r => by
    obtain ⟨qs, h1, h2⟩ := every2_pairs r
    exact ⟨p :: qs, by simp only [pairsV, List.map_cons, everySecond] at h1 ⊢; rw [h1], by simp only [List.length_cons]; lia⟩

/-- the sorted triples, as triples -/
def tripOf : Val → Int × Int × Int
  | .tup [.int a, .int b, .int c] => (a, b, c)
  | _ => (0, 0, 0)
def sortT (ts : List (Int × Int × Int)) : List (Int × Int × Int) := (sortV (tripsV ts)).map tripOf
theorem sortT_eq (ts : List (Int × Int × Int)) : sortV (tripsV ts) = tripsV (sortT ts) := by
  unfold sortT tripsV
  rw [List.map_map]
  have : ∀ x ∈ sortV (tripsV ts), (tripV ∘ tripOf) x = x := by
    intro x hx
    obtain ⟨⟨a, b, c⟩, _, rfl⟩ := List.mem_map.mp ((sortV_perm _).mem_iff.mp hx)
    rfl
  exact (List.map_congr_left (g := id) this).symm ▸ (List.map_id _).symm
end Mine

set_option linter.unusedVariables false
namespace Mine
open PySem


/-! the pairs and their gaps -/
theorem addD_mem (D : List (Int × Int)) (p x : Int × Int) : x ∈ addD D p ↔ x ∈ D ∨ x = p := by
  unfold addD; split
  · rename_i h; constructor
    · exact .inl
    · rintro (h' | rfl)
      · exact h'
      · exact h
  · simp
theorem addDs_mem : ∀ (l D : List (Int × Int)) (x : Int × Int), x ∈ l.foldl addD D ↔ x ∈ D ∨ x ∈ l
  | [], D, x => by simp
  | p :: l, D, x => by rw [List.foldl_cons, addDs_mem l, addD_mem, List.mem_cons, or_assoc]
theorem addD_nodup (D : List (Int × Int)) (p : Int × Int) (h : D.Nodup) : (addD D p).Nodup := by
  unfold addD; split
  · exact h
  · rename_i hp; exact List.nodup_append.mpr ⟨h, by simp, fun a ha b hb => by simp at hb; subst hb; rintro rfl; exact hp ha⟩
theorem addDs_nodup : ∀ (l D : List (Int × Int)), D.Nodup → (l.foldl addD D).Nodup
  | [], D, h => h
  | p :: l, D, h => addDs_nodup l _ (addD_nodup D p h)
theorem outs_mem (D : List (Int × Int)) (k c : Int) : c ∈ outs D k ↔ (k, c) ∈ D := by
  unfold outs
  simp only [List.mem_map, List.mem_filter, decide_eq_true_eq]
  constructor
  · rintro ⟨⟨a, b⟩, ⟨h1, h2⟩, h3⟩; simp only at h2 h3; subst h2 h3; exact h1
  · intro h; exact ⟨(k, c), ⟨h, rfl⟩, rfl⟩
theorem outs_cons (p : Int × Int) (D : List (Int × Int)) (k : Int) : outs (p :: D) k = if p.1 = k then p.2 :: outs D k else outs D k := by
  unfold outs; by_cases h : p.1 = k <;> simp [h]
theorem outs_nodup : ∀ (D : List (Int × Int)) (_ : D.Nodup) (k : Int), (outs D k).Nodup
  | [], _, _ => by simp [outs]
  | p :: D, h, k => by
    have hn := List.nodup_cons.mp h
    rw [outs_cons]
    split
    · rename_i hk
      refine List.nodup_cons.mpr ⟨fun hm => hn.1 ?_, outs_nodup D hn.2 k⟩
      rw [outs_mem, ← hk] at hm; exact hm
    · exact outs_nodup D hn.2 k
theorem gapIns_mem (D : List (Int × Int)) (p : Int × Int) (x : Int × Int × Int) : ∀ (l : List Int) (f : List (Int × Int × Int)), x ∈ l.foldl (gapIn D p) f ↔ x ∈ f ∨ ∃ c ∈ l, (p.1, c) ∉ D ∧ x = (p.1, p.2, c)
  | [], f => by simp
  | c :: l, f => by
    rw [List.foldl_cons, gapIns_mem D p x l]
    unfold gapIn
    by_cases h : (p.1, c) ∉ D
    · rw [if_pos h]
      simp only [List.mem_append, List.mem_cons, List.not_mem_nil, or_false]
      constructor
      · rintro ((h1 | h1) | ⟨d, h1, h2⟩)
        · exact .inl h1
        · exact .inr ⟨c, .inl rfl, h, h1⟩
        · exact .inr ⟨d, .inr h1, h2⟩
      · rintro (h1 | ⟨d, rfl | h1, h2, h3⟩)
        · exact .inl (.inl h1)
        · exact .inl (.inr h3)
        · exact .inr ⟨d, h1, h2, h3⟩
    · rw [if_neg h]
      simp only [List.mem_cons]
      constructor
      · rintro (h1 | ⟨d, h1, h2⟩)
        · exact .inl h1
        · exact .inr ⟨d, .inr h1, h2⟩
      · rintro (h1 | ⟨d, rfl | h1, h2, h3⟩)
        · exact .inl h1
        · exact absurd h2 h
        · exact .inr ⟨d, h1, h2, h3⟩
theorem gapOuts_mem (D : List (Int × Int)) (x : Int × Int × Int) : ∀ (l : List (Int × Int)) (f : List (Int × Int × Int)), x ∈ l.foldl (gapOut D) f ↔ x ∈ f ∨ ∃ p ∈ l, ∃ c, (p.2, c) ∈ D ∧ (p.1, c) ∉ D ∧ x = (p.1, p.2, c)
  | [], f => by simp
  | p :: l, f => by
    rw [List.foldl_cons, gapOuts_mem D x l]
    unfold gapOut
    rw [gapIns_mem]
    simp only [outs_mem, List.mem_cons]
    constructor
    · rintro ((h1 | ⟨c, h1, h2, h3⟩) | ⟨q, h1, h2⟩)
      · exact .inl h1
      · exact .inr ⟨p, .inl rfl, c, h1, h2, h3⟩
      · exact .inr ⟨q, .inr h1, h2⟩
    · rintro (h1 | ⟨q, rfl | h1, c, h2, h3, h4⟩)
      · exact .inl (.inl h1)
      · exact .inl (.inr ⟨c, h2, h3, h4⟩)
      · exact .inr ⟨q, h1, c, h2, h3, h4⟩
theorem snoc_nodup {α : Type} {f : List α} {x : α} (h : f.Nodup) (hx : x ∉ f) : (f ++ [x]).Nodup :=
  List.nodup_append.mpr ⟨h, by simp, fun a ha b hb => by simp at hb; subst hb; rintro rfl; exact hx ha⟩
theorem gapIns_nodup (D : List (Int × Int)) (p : Int × Int) : ∀ (l : List Int) (f : List (Int × Int × Int)), l.Nodup → f.Nodup → (∀ c ∈ l, (p.1, p.2, c) ∉ f) → (l.foldl (gapIn D p) f).Nodup
  | [], f, _, h, _ => h
  | c :: l, f, hl, h, hf => by
    have hn := List.nodup_cons.mp hl
    rw [List.foldl_cons]
    refine gapIns_nodup D p l _ hn.2 ?_ fun d hd => ?_
    · unfold gapIn; split
      · exact snoc_nodup h (hf c (.head _))
      · exact h
    · unfold gapIn; split
      · simp only [List.mem_append, List.mem_cons, List.not_mem_nil, or_false, not_or]
        exact ⟨hf d (.tail _ hd), by simp only [Prod.mk.injEq, true_and]; rintro rfl; exact hn.1 hd⟩
      · exact hf d (.tail _ hd)
theorem gapOuts_nodup (D : List (Int × Int)) (hD : D.Nodup) : ∀ (l : List (Int × Int)) (f : List (Int × Int × Int)), l.Nodup → f.Nodup → (∀ p ∈ l, ∀ c, (p.1, p.2, c) ∉ f) → (l.foldl (gapOut D) f).Nodup
  | [], f, _, h, _ => h
  | p :: l, f, hl, h, hf => by
    have hn := List.nodup_cons.mp hl
    rw [List.foldl_cons]
    refine gapOuts_nodup D hD l _ hn.2 (gapIns_nodup D p _ f (outs_nodup D hD _) h fun c _ => hf p (.head _) c) fun q hq c => ?_
    unfold gapOut
    rw [gapIns_mem]
    rintro (h1 | ⟨d, _, _, h2⟩)
    · exact hf q (.tail _ hq) c h1
    · simp only [Prod.mk.injEq] at h2
      have : q = p := Prod.ext h2.1 h2.2.1
      subst this; exact hn.1 hq
end Mine

set_option linter.unusedVariables false
namespace Mine

theorem nodup_len {α : Type} [DecidableEq α] : ∀ {l m : List α}, l.Nodup → (∀ x ∈ l, x ∈ m) → l.length ≤ m.length
  | [], m, _, _ => Nat.zero_le _
  | x :: l, m, hn, hs => by
    have hn' := List.nodup_cons.mp hn
    have hx : x ∈ m := hs x (.head _)
    have ih := nodup_len (l := l) (m := m.erase x) hn'.2 (fun y hy => (List.mem_erase_of_ne (by rintro rfl; exact hn'.1 hy)).mpr (hs y (.tail _ hy)))
    rw [List.length_erase_of_mem hx] at ih
    have := List.length_pos_of_mem hx
    rw [List.length_cons]; lia

abbrev Ed := Int × Int
def fo (E : List Ed) (b : Int) : Nat := (E.filter fun e => e.1 = b).length
def su (f : Int → Nat) (E : List Ed) : Nat := (E.map fun e => f e.2).sum

theorem su_split (f : Int → Nat) (p : Ed → Bool) : ∀ E : List Ed, su f E = su f (E.filter p) + su f (E.filter fun e => !p e)
  | [] => rfl
  | e :: E => by
    have ih := su_split f p E
    unfold su at ih ⊢
    cases h : p e <;> simp only [List.filter_cons, h, Bool.not_false, Bool.not_true, if_true, if_false, Bool.false_eq_true, List.map_cons, List.sum_cons] <;> lia
theorem len_split (p : Ed → Bool) : ∀ E : List Ed, E.length = (E.filter p).length + (E.filter fun e => !p e).length
  | [] => rfl
  | e :: E => by
    have ih := len_split p E
    cases h : p e <;> simp only [List.filter_cons, h, Bool.not_false, Bool.not_true, if_true, if_false, Bool.false_eq_true, List.length_cons] <;> lia
theorem su_le (f : Int → Nat) (k : Nat) : ∀ E : List Ed, (∀ e ∈ E, f e.2 ≤ k) → su f E ≤ E.length * k
  | [], _ => by simp [su]
  | e :: E, h => by
    have ih := su_le f k E (fun x hx => h x (.tail _ hx))
    have := h e (.head _)
    unfold su at ih ⊢
    rw [List.map_cons, List.sum_cons, List.length_cons, Nat.succ_mul]; lia
/-- the outs of distinct heads -/
theorem outs_sum : ∀ (L : List Ed) (H : List Int), H.Nodup → (H.map (fo L)).sum ≤ L.length
  | [], H, _ => by
    have : ∀ H : List Int, (H.map (fo [])).sum = 0 := by
      intro H; induction H with
      | nil => rfl
      | cons b H ih => rw [List.map_cons, List.sum_cons, ih]; rfl
    rw [this]; exact Nat.zero_le _
  | x :: L, H, hn => by
    have ih := outs_sum L H hn
    have key : ∀ H : List Int, (H.map (fo (x :: L))).sum = (H.map (fo L)).sum + H.count x.1 := by
      intro H; induction H with
      | nil => rfl
      | cons b H ih =>
        rw [List.map_cons, List.sum_cons, List.map_cons, List.sum_cons, ih, List.count_cons]
        unfold fo
        by_cases hb : x.1 = b
        · subst hb; simp; lia
        · have hb' : (b == x.1) = false := by simpa using fun h => hb h.symm
          simp [hb, hb']; lia
    rw [key, List.length_cons]
    have := List.nodup_iff_count.mp hn x.1
    lia

theorem bound12 {E : List Ed} (hn : E.Nodup) (hl : ∀ e ∈ E, e.1 ≠ e.2) (h12 : E.length ≤ 12) : su (fo E) E < 64 := by
  by_cases h5 : ∀ b, fo E b ≤ 5
  · have := su_le (fo E) 5 E (fun e _ => h5 e.2)
    lia
  · obtain ⟨v, hv⟩ : ∃ v, ¬ fo E v ≤ 5 := by
      rcases Classical.em (∃ v, ¬ fo E v ≤ 5) with h | h
      · exact h
      · exact absurd (fun b => Classical.byContradiction fun hb => h ⟨b, hb⟩) h5
    have q1 := su_split (fo E) (fun e => decide (e.2 = v)) E
    have q2 := su_split (fo E) (fun e => decide (e.1 = v)) (E.filter fun e => !decide (e.2 = v))
    -- into v
    have b1 : su (fo E) (E.filter fun e => decide (e.2 = v)) ≤ (E.filter fun e => decide (e.2 = v)).length * fo E v := by
      refine su_le _ _ _ fun e he => ?_
      have : e.2 = v := by simpa using (List.mem_filter.mp he).2
      rw [this]; exact Nat.le_refl _
    -- others
    have W : ∀ b, b ≠ v → fo E b = fo (E.filter fun e => !decide (e.1 = v)) b := by
      intro b hb
      unfold fo
      rw [List.filter_filter]
      congr 1
      refine List.filter_congr fun e he => ?_
      by_cases h : e.1 = b
      · simp [h, hb]
      · simp [h]
    have b3 : su (fo E) ((E.filter fun e => !decide (e.2 = v)).filter fun e => !decide (e.1 = v)) ≤ ((E.filter fun e => !decide (e.2 = v)).filter fun e => !decide (e.1 = v)).length * (E.filter fun e => !decide (e.1 = v)).length := by
      refine su_le _ _ _ fun e he => ?_
      have : e.2 ≠ v := by simpa using (List.mem_filter.mp (List.mem_filter.mp he).1).2
      rw [W _ this]; exact List.length_filter_le _ _
    have b2 : su (fo E) ((E.filter fun e => !decide (e.2 = v)).filter fun e => decide (e.1 = v)) ≤ (E.filter fun e => !decide (e.1 = v)).length := by
      generalize hM : (E.filter fun e => !decide (e.2 = v)).filter (fun e => decide (e.1 = v)) = M
      have hM1 : M.Nodup := by rw [← hM]; exact (hn.filter _).filter _
      have hM2 : ∀ e ∈ M, e.1 = v ∧ e.2 ≠ v := by
        intro e he; rw [← hM] at he
        have h1 := List.mem_filter.mp he
        exact ⟨by simpa using h1.2, by simpa using (List.mem_filter.mp h1.1).2⟩
      have hH : (M.map (·.2)).Nodup := by
        rw [List.nodup_iff_pairwise_ne, List.pairwise_map]
        refine (List.nodup_iff_pairwise_ne.mp hM1).imp_of_mem fun {a b} ha hb hab h2 => hab ?_
        exact Prod.ext ((hM2 a ha).1.trans (hM2 b hb).1.symm) h2
      have := outs_sum (E.filter fun e => !decide (e.1 = v)) (M.map (·.2)) hH
      rw [List.map_map] at this
      refine Nat.le_trans (Nat.le_of_eq ?_) this
      unfold su
      congr 1
      refine List.map_congr_left fun e he => ?_
      exact W _ (hM2 e he).2
    have c1 := len_split (fun e => decide (e.1 = v)) E
    have c2 := len_split (fun e => decide (e.2 = v)) (E.filter fun e => !decide (e.1 = v))
    have c3 : ((E.filter fun e => !decide (e.1 = v)).filter fun e => decide (e.2 = v)) = E.filter fun e => decide (e.2 = v) := by
      rw [List.filter_filter]
      refine List.filter_congr fun e he => ?_
      have := hl e he
      by_cases h : e.2 = v
      · subst h; simp [this]
      · simp [h]
    have c4 : ((E.filter fun e => !decide (e.1 = v)).filter fun e => !decide (e.2 = v)) = ((E.filter fun e => !decide (e.2 = v)).filter fun e => !decide (e.1 = v)) := by
      rw [List.filter_filter, List.filter_filter]
      refine List.filter_congr fun e he => ?_
      exact Bool.and_comm _ _
    rw [c3, c4] at c2
    have hX : fo E v = (E.filter fun e => decide (e.1 = v)).length := rfl
    rw [← hX] at c1
    generalize (E.filter fun e => !decide (e.1 = v)).length = w at *
    generalize (E.filter fun e => decide (e.2 = v)).length = u at *
    generalize ((E.filter fun e => !decide (e.2 = v)).filter fun e => !decide (e.1 = v)).length = z at *
    generalize fo E v = X at *
    have hw : w ≤ 6 := by lia
    have hu : u ≤ 6 := by lia
    have fin : ∀ w u : Nat, w ≤ 6 → u ≤ w → ∀ X, X + w ≤ 12 → u * X + (w + (w - u) * w) < 64 := by
      intro w u h1 h2 X h3
      have t1 : u * X ≤ u * (12 - w) := Nat.mul_le_mul_left _ (by lia)
      have t2 : ∀ w : Fin 7, ∀ u : Fin 7, u.val ≤ w.val → u.val * (12 - w.val) + (w.val + (w.val - u.val) * w.val) < 64 := by decide
      have t3 := t2 ⟨w, by lia⟩ ⟨u, by lia⟩ h2
      dsimp only at t3
      lia
    have := fin w u hw (by lia) X (by lia)
    have hz : z = w - u := by lia
    subst hz
    lia

theorem gaps_few (ps : List (Int × Int)) (h : ps.length ≤ 12) : (gapsL (ps.foldl addD [])).length < 64 := by
  have hD : (ps.foldl addD []).Nodup := addDs_nodup ps [] .nil
  have hlen : (ps.foldl addD []).length ≤ 12 := by have := addDs_len ps []; simp at this; lia
  generalize ps.foldl addD [] = D at hD hlen
  have hE : (D.filter fun e => !decide (e.1 = e.2)).Nodup := hD.filter _
  have hb := bound12 hE (fun e he => by simpa using (List.mem_filter.mp he).2) (Nat.le_trans (List.length_filter_le _ _) hlen)
  refine Nat.lt_of_le_of_lt ?_ hb
  have hnd : (gapsL D).Nodup := gapOuts_nodup _ hD _ _ hD .nil (fun _ _ _ h => by simp at h)
  refine Nat.le_trans (nodup_len (m := (D.filter fun e => !decide (e.1 = e.2)).flatMap fun e => ((D.filter fun e => !decide (e.1 = e.2)).filter fun q => q.1 = e.2).map fun q => (e.1, e.2, q.2)) hnd fun x hx => ?_) ?_
  · unfold gapsL at hx
    rw [gapOuts_mem] at hx
    obtain ⟨p, hp, c, h1, h2, rfl⟩ := hx.resolve_left (by simp)
    have n1 : p.1 ≠ p.2 := fun e => h2 (e ▸ h1)
    have n2 : p.2 ≠ c := fun e => h2 (e ▸ hp)
    refine List.mem_flatMap.mpr ⟨p, List.mem_filter.mpr ⟨hp, by simpa using n1⟩, List.mem_map.mpr ⟨(p.2, c), List.mem_filter.mpr ⟨List.mem_filter.mpr ⟨h1, by simpa using n2⟩, by simp⟩, rfl⟩⟩
  · rw [List.length_flatMap]
    unfold su fo
    simp
end Mine

set_option linter.unusedSimpArgs false
set_option linter.unusedVariables false
set_option maxRecDepth 100000
namespace Mine
open PySem

def gl07 : List (Str × Val) := [("gaps", .fn "gaps"), ("_law_cell_at", .fn "_law_cell_at"), ("_law_alike", .fn "_law_alike"), ("_law_listed", .fn "_law_listed"), ("_law_due", .fn "_law_due"), ("law", .fn "law"),
  ("len", .blt "len"), ("isinstance", .blt "isinstance"), ("sorted", .blt "sorted"), ("range", .typ "range"), ("list", .typ "list"), ("tuple", .typ "tuple"), ("int", .typ "int"), ("bool", .typ "bool")]
def g07 (x : Str) : Option Val := gl07.lookup x
def names07 : List Str := ["gaps", "_law_cell_at", "_law_alike", "_law_listed", "_law_due", "law"]


section
variable {w : World} {F : Tab} {B : Heap} {σ : Store} {X : VPost} (U : Sup PySem.Challenge.pw_uf050028_07 w F B g07 names07) (hc : ∀ c, F.cls c = none) (hm : ∀ c n, F.meth c n = none)
include U hc hm

theorem s7_cell_at {d : Nat} {Q : VPost} {l : List Int} {k : Nat} (hd : 1 ≤ d) (h : Q (.int (cellAt l k)) σ) : LCall PySem.Challenge.pw_uf050028_07 w F B d true (.top "_law_cell_at") [.scr l, .int k] σ Q X := by
  refine U.run 20 hc hm hd (by decide) (ps := _ :: _) (b := _ :: _) (sc := _) (by with_unfolding_all rfl) rfl ?_
  simp (config := { maxSteps := 10000000 }) only [exs_0, exs_1, ev_int, ev_bool, ev_none, ev_str, ev_Name, ev_BinOp, ev_UnaryOp, ev_BoolOp, ev_Compare, ev_CallA, ev_CallN, ev_Slice, ev_SubN, ev_SubC, ev_SubB, ev_SubU, ev_SubF, ev_SubS, ev_SubT, ev_SubA, ev_List, ev_Tuple, ev_Dict0, ev_Comp, ex_Pass, ex_Expr, ex_RetS, ex_RetN, ex_AName, ex_ATupN, ex_ATupC, ex_ASub, ex_If, ex_For, evs_0, evs_1, evOpt_0, evOpt_1, evBool_1, evBool_and, evBool_or, tst_Not, tst_Bool, tst_Cmp, tst_Name, tst_Call, tst_Sub, tst_Const, tstAll_0a, tstAll_0o, tstAll_1a, tstAll_1o, evCmp_1, evCmp_2, evIfs_0, evIfs_1, bindRho, List.map_cons, List.map_nil, List.lookup_cons, List.lookup_nil, ofString_beq, ofString_inj, ofString_bne, upd, isLoc, String.reduceBEq, String.reduceEq, String.reduceBNe, String.reduceNe, ↓reduceIte, true_and, and_true, cxOf_gl, cxOf_call, cxOf_calm, cxOf_hush, cxOf_pull, cxOf_exc, g07, gl07, deq_int, deq_bool, itemsOf_rng, Option.map_some, fewArgs, bo_add, bo_sub, bo_mul, bo_div, bo_mod, bo_pow, uo_neg, uo_not, tr_none, tr_bool, tr_int, su_tup, su_scr, cv_fn, cv_cls, cv_blt, cv_typ, cb_lenT, cb_lenS, cb_isi, ii_intI, ii_boolI, ii_tupI, ii_intB, ii_boolB, ii_tupB, ii_intT, ii_boolT, ii_tupT, ct_rng1, co_lt, co_le, co_gt, co_ge, co_eq, co_ne, co_in, co_ni, lateM_set, plainBase, bindT_name, bindT_pair, List.length_nil, List.length_cons, Nat.reduceLT, Nat.reduceAdd, decide_true, decide_false, Bool.and_true, Bool.true_and, Bool.and_self, decide_eq_true_eq, decide_eq_false_iff_not, Bool.true_eq_false, Bool.false_eq_true, false_implies, forall_const, true_implies, beq_self_eq_true, Bool.or_true, Bool.true_or, Bool.or_false, Bool.false_or, bne_self_eq_false, set_self, compRho, Bool.not_true, Bool.not_false, Int.zero_add]
  refine ⟨fun hk => ?_, fun hk => ?_⟩
  · have hk' : k < l.length := by lia
    rw [normIdx_nat hk']
    have e : l[k]? = some (cellAt l k) := by simp [cellAt, hk']
    simp only [Option.bind_some, e]; exact h
  · have e : cellAt l k = 0 := by unfold cellAt; rw [List.getD_eq_getElem?_getD, List.getElem?_eq_none (by lia)]; rfl
    rw [e] at h; exact h

def plainT : Nat → Val → Bool
  | _, .int _ => true
  | n + 1, .tup vs => decide (vs.length ≤ 1000) && vs.all (plainT n)
  | _, _ => false
omit X in
theorem s7_alike : ∀ (n : Nat) {d : Nat} {σ : Store} {Q X : VPost} {v : Val}, n + 1 ≤ d → plainT n v = true → (∀ σ', Ext σ σ' → Q (.bool true) σ') → LCall PySem.Challenge.pw_uf050028_07 w F B d true (.top "_law_alike") [v, v] σ Q X := by
  intro n
  induction n with
  | zero =>
    intro d σ Q X v hd hv h
    cases v with
    | int i =>
      refine U.run 30 hc hm (by lia) (by decide) (ps := _ :: _) (b := _ :: _) (sc := _) (by with_unfolding_all rfl) rfl ?_
      simp (config := { maxSteps := 10000000 }) only [exs_0, exs_1, ev_int, ev_bool, ev_none, ev_str, ev_Name, ev_BinOp, ev_UnaryOp, ev_BoolOp, ev_Compare, ev_CallA, ev_CallN, ev_Slice, ev_SubN, ev_SubC, ev_SubB, ev_SubU, ev_SubF, ev_SubS, ev_SubT, ev_SubA, ev_List, ev_Tuple, ev_Dict0, ev_Comp, ex_Pass, ex_Expr, ex_RetS, ex_RetN, ex_AName, ex_ATupN, ex_ATupC, ex_ASub, ex_If, ex_For, evs_0, evs_1, evOpt_0, evOpt_1, evBool_1, evBool_and, evBool_or, tst_Not, tst_Bool, tst_Cmp, tst_Name, tst_Call, tst_Sub, tst_Const, tstAll_0a, tstAll_0o, tstAll_1a, tstAll_1o, evCmp_1, evCmp_2, evIfs_0, evIfs_1, bindRho, List.map_cons, List.map_nil, List.lookup_cons, List.lookup_nil, ofString_beq, ofString_inj, ofString_bne, upd, isLoc, String.reduceBEq, String.reduceEq, String.reduceBNe, String.reduceNe, ↓reduceIte, true_and, and_true, cxOf_gl, cxOf_call, cxOf_calm, cxOf_hush, cxOf_pull, cxOf_exc, g07, gl07, deq_int, deq_bool, itemsOf_rng, Option.map_some, fewArgs, bo_add, bo_sub, bo_mul, bo_div, bo_mod, bo_pow, uo_neg, uo_not, tr_none, tr_bool, tr_int, su_tup, su_scr, cv_fn, cv_cls, cv_blt, cv_typ, cb_lenT, cb_lenS, cb_isi, ii_intI, ii_boolI, ii_tupI, ii_intB, ii_boolB, ii_tupB, ii_intT, ii_boolT, ii_tupT, ct_rng1, co_lt, co_le, co_gt, co_ge, co_eq, co_ne, co_in, co_ni, lateM_set, plainBase, bindT_name, bindT_pair, List.length_nil, List.length_cons, Nat.reduceLT, Nat.reduceAdd, decide_true, decide_false, Bool.and_true, Bool.true_and, Bool.and_self, decide_eq_true_eq, decide_eq_false_iff_not, Bool.true_eq_false, Bool.false_eq_true, false_implies, forall_const, true_implies, beq_self_eq_true, Bool.or_true, Bool.true_or, Bool.or_false, Bool.false_or, bne_self_eq_false, set_self, compRho, Bool.not_true, Bool.not_false, Int.zero_add]
      exact h σ (Ext.refl σ)
    | _ => simp [plainT] at hv
  | succ n ih =>
    intro d σ Q X v hd hv h
    cases v with
    | int i =>
      refine U.run 30 hc hm (by lia) (by decide) (ps := _ :: _) (b := _ :: _) (sc := _) (by with_unfolding_all rfl) rfl ?_
      simp (config := { maxSteps := 10000000 }) only [exs_0, exs_1, ev_int, ev_bool, ev_none, ev_str, ev_Name, ev_BinOp, ev_UnaryOp, ev_BoolOp, ev_Compare, ev_CallA, ev_CallN, ev_Slice, ev_SubN, ev_SubC, ev_SubB, ev_SubU, ev_SubF, ev_SubS, ev_SubT, ev_SubA, ev_List, ev_Tuple, ev_Dict0, ev_Comp, ex_Pass, ex_Expr, ex_RetS, ex_RetN, ex_AName, ex_ATupN, ex_ATupC, ex_ASub, ex_If, ex_For, evs_0, evs_1, evOpt_0, evOpt_1, evBool_1, evBool_and, evBool_or, tst_Not, tst_Bool, tst_Cmp, tst_Name, tst_Call, tst_Sub, tst_Const, tstAll_0a, tstAll_0o, tstAll_1a, tstAll_1o, evCmp_1, evCmp_2, evIfs_0, evIfs_1, bindRho, List.map_cons, List.map_nil, List.lookup_cons, List.lookup_nil, ofString_beq, ofString_inj, ofString_bne, upd, isLoc, String.reduceBEq, String.reduceEq, String.reduceBNe, String.reduceNe, ↓reduceIte, true_and, and_true, cxOf_gl, cxOf_call, cxOf_calm, cxOf_hush, cxOf_pull, cxOf_exc, g07, gl07, deq_int, deq_bool, itemsOf_rng, Option.map_some, fewArgs, bo_add, bo_sub, bo_mul, bo_div, bo_mod, bo_pow, uo_neg, uo_not, tr_none, tr_bool, tr_int, su_tup, su_scr, cv_fn, cv_cls, cv_blt, cv_typ, cb_lenT, cb_lenS, cb_isi, ii_intI, ii_boolI, ii_tupI, ii_intB, ii_boolB, ii_tupB, ii_intT, ii_boolT, ii_tupT, ct_rng1, co_lt, co_le, co_gt, co_ge, co_eq, co_ne, co_in, co_ni, lateM_set, plainBase, bindT_name, bindT_pair, List.length_nil, List.length_cons, Nat.reduceLT, Nat.reduceAdd, decide_true, decide_false, Bool.and_true, Bool.true_and, Bool.and_self, decide_eq_true_eq, decide_eq_false_iff_not, Bool.true_eq_false, Bool.false_eq_true, false_implies, forall_const, true_implies, beq_self_eq_true, Bool.or_true, Bool.true_or, Bool.or_false, Bool.false_or, bne_self_eq_false, set_self, compRho, Bool.not_true, Bool.not_false, Int.zero_add]
      exact h σ (Ext.refl σ)
    | tup vs =>
      refine U.run 30 hc hm (by lia) (by decide) (ps := _ :: _) (b := _ :: _) (sc := _) (by with_unfolding_all rfl) rfl ?_
      simp (config := { maxSteps := 10000000 }) only [exs_0, exs_1, ev_int, ev_bool, ev_none, ev_str, ev_Name, ev_BinOp, ev_UnaryOp, ev_BoolOp, ev_Compare, ev_CallA, ev_CallN, ev_Slice, ev_SubN, ev_SubC, ev_SubB, ev_SubU, ev_SubF, ev_SubS, ev_SubT, ev_SubA, ev_List, ev_Tuple, ev_Dict0, ev_Comp, ex_Pass, ex_Expr, ex_RetS, ex_RetN, ex_AName, ex_ATupN, ex_ATupC, ex_ASub, ex_If, ex_For, evs_0, evs_1, evOpt_0, evOpt_1, evBool_1, evBool_and, evBool_or, tst_Not, tst_Bool, tst_Cmp, tst_Name, tst_Call, tst_Sub, tst_Const, tstAll_0a, tstAll_0o, tstAll_1a, tstAll_1o, evCmp_1, evCmp_2, evIfs_0, evIfs_1, bindRho, List.map_cons, List.map_nil, List.lookup_cons, List.lookup_nil, ofString_beq, ofString_inj, ofString_bne, upd, isLoc, String.reduceBEq, String.reduceEq, String.reduceBNe, String.reduceNe, ↓reduceIte, true_and, and_true, cxOf_gl, cxOf_call, cxOf_calm, cxOf_hush, cxOf_pull, cxOf_exc, g07, gl07, deq_int, deq_bool, itemsOf_rng, Option.map_some, fewArgs, bo_add, bo_sub, bo_mul, bo_div, bo_mod, bo_pow, uo_neg, uo_not, tr_none, tr_bool, tr_int, su_tup, su_scr, cv_fn, cv_cls, cv_blt, cv_typ, cb_lenT, cb_lenS, cb_isi, ii_intI, ii_boolI, ii_tupI, ii_intB, ii_boolB, ii_tupB, ii_intT, ii_boolT, ii_tupT, ct_rng1, co_lt, co_le, co_gt, co_ge, co_eq, co_ne, co_in, co_ni, lateM_set, plainBase, bindT_name, bindT_pair, List.length_nil, List.length_cons, Nat.reduceLT, Nat.reduceAdd, decide_true, decide_false, Bool.and_true, Bool.true_and, Bool.and_self, decide_eq_true_eq, decide_eq_false_iff_not, Bool.true_eq_false, Bool.false_eq_true, false_implies, forall_const, true_implies, beq_self_eq_true, Bool.or_true, Bool.true_or, Bool.or_false, Bool.false_or, bne_self_eq_false, set_self, compRho, Bool.not_true, Bool.not_false, Int.zero_add]
      simp only [plainT, Bool.and_eq_true, decide_eq_true_eq, List.all_eq_true] at hv
      have hcap : cap = 1000000 := rfl
      refine ⟨by decide +kernel, ⟨by lia, by lia⟩, ?_⟩
      refine compLoop_inv (fun i acc σ' => acc = [] ∧ Ext σ σ') ⟨rfl, Ext.refl σ⟩ (fun i x acc' σ' k hx ⟨ha, he⟩ hk => ?_) (fun acc' σ' ⟨ha, he⟩ => ?_)
      · obtain ⟨rfl, hlt⟩ := range_get hx
        have hlt' : i < vs.length := by lia
        simp only [compStep, lateI, lateV]
        simp (config := { maxSteps := 10000000 }) only [exs_0, exs_1, ev_int, ev_bool, ev_none, ev_str, ev_Name, ev_BinOp, ev_UnaryOp, ev_BoolOp, ev_Compare, ev_CallA, ev_CallN, ev_Slice, ev_SubN, ev_SubC, ev_SubB, ev_SubU, ev_SubF, ev_SubS, ev_SubT, ev_SubA, ev_List, ev_Tuple, ev_Dict0, ev_Comp, ex_Pass, ex_Expr, ex_RetS, ex_RetN, ex_AName, ex_ATupN, ex_ATupC, ex_ASub, ex_If, ex_For, evs_0, evs_1, evOpt_0, evOpt_1, evBool_1, evBool_and, evBool_or, tst_Not, tst_Bool, tst_Cmp, tst_Name, tst_Call, tst_Sub, tst_Const, tstAll_0a, tstAll_0o, tstAll_1a, tstAll_1o, evCmp_1, evCmp_2, evIfs_0, evIfs_1, bindRho, List.map_cons, List.map_nil, List.lookup_cons, List.lookup_nil, ofString_beq, ofString_inj, ofString_bne, upd, isLoc, String.reduceBEq, String.reduceEq, String.reduceBNe, String.reduceNe, ↓reduceIte, true_and, and_true, cxOf_gl, cxOf_call, cxOf_calm, cxOf_hush, cxOf_pull, cxOf_exc, g07, gl07, deq_int, deq_bool, itemsOf_rng, Option.map_some, fewArgs, bo_add, bo_sub, bo_mul, bo_div, bo_mod, bo_pow, uo_neg, uo_not, tr_none, tr_bool, tr_int, su_tup, su_scr, cv_fn, cv_cls, cv_blt, cv_typ, cb_lenT, cb_lenS, cb_isi, ii_intI, ii_boolI, ii_tupI, ii_intB, ii_boolB, ii_tupB, ii_intT, ii_boolT, ii_tupT, ct_rng1, co_lt, co_le, co_gt, co_ge, co_eq, co_ne, co_in, co_ni, lateM_set, plainBase, bindT_name, bindT_pair, List.length_nil, List.length_cons, Nat.reduceLT, Nat.reduceAdd, decide_true, decide_false, Bool.and_true, Bool.true_and, Bool.and_self, decide_eq_true_eq, decide_eq_false_iff_not, Bool.true_eq_false, Bool.false_eq_true, false_implies, forall_const, true_implies, beq_self_eq_true, Bool.or_true, Bool.true_or, Bool.or_false, Bool.false_or, bne_self_eq_false, set_self, compRho, Bool.not_true, Bool.not_false, Int.zero_add]
        simp only [Int.zero_add, normIdx_nat hlt', Option.bind_some, List.getElem?_eq_getElem hlt']
        refine ih (by lia) (hv.2 _ (List.getElem_mem hlt')) (fun σ'' e => ?_)
        simp (config := { maxSteps := 10000000 }) only [exs_0, exs_1, ev_int, ev_bool, ev_none, ev_str, ev_Name, ev_BinOp, ev_UnaryOp, ev_BoolOp, ev_Compare, ev_CallA, ev_CallN, ev_Slice, ev_SubN, ev_SubC, ev_SubB, ev_SubU, ev_SubF, ev_SubS, ev_SubT, ev_SubA, ev_List, ev_Tuple, ev_Dict0, ev_Comp, ex_Pass, ex_Expr, ex_RetS, ex_RetN, ex_AName, ex_ATupN, ex_ATupC, ex_ASub, ex_If, ex_For, evs_0, evs_1, evOpt_0, evOpt_1, evBool_1, evBool_and, evBool_or, tst_Not, tst_Bool, tst_Cmp, tst_Name, tst_Call, tst_Sub, tst_Const, tstAll_0a, tstAll_0o, tstAll_1a, tstAll_1o, evCmp_1, evCmp_2, evIfs_0, evIfs_1, bindRho, List.map_cons, List.map_nil, List.lookup_cons, List.lookup_nil, ofString_beq, ofString_inj, ofString_bne, upd, isLoc, String.reduceBEq, String.reduceEq, String.reduceBNe, String.reduceNe, ↓reduceIte, true_and, and_true, cxOf_gl, cxOf_call, cxOf_calm, cxOf_hush, cxOf_pull, cxOf_exc, g07, gl07, deq_int, deq_bool, itemsOf_rng, Option.map_some, fewArgs, bo_add, bo_sub, bo_mul, bo_div, bo_mod, bo_pow, uo_neg, uo_not, tr_none, tr_bool, tr_int, su_tup, su_scr, cv_fn, cv_cls, cv_blt, cv_typ, cb_lenT, cb_lenS, cb_isi, ii_intI, ii_boolI, ii_tupI, ii_intB, ii_boolB, ii_tupB, ii_intT, ii_boolT, ii_tupT, ct_rng1, co_lt, co_le, co_gt, co_ge, co_eq, co_ne, co_in, co_ni, lateM_set, plainBase, bindT_name, bindT_pair, List.length_nil, List.length_cons, Nat.reduceLT, Nat.reduceAdd, decide_true, decide_false, Bool.and_true, Bool.true_and, Bool.and_self, decide_eq_true_eq, decide_eq_false_iff_not, Bool.true_eq_false, Bool.false_eq_true, false_implies, forall_const, true_implies, beq_self_eq_true, Bool.or_true, Bool.true_or, Bool.or_false, Bool.false_or, bne_self_eq_false, set_self, compRho, Bool.not_true, Bool.not_false, Int.zero_add]
        exact hk none σ'' trivial ⟨ha, he.trans e⟩
      · intro c h1 c' h2
        subst ha
        have hne : c ≠ c' := by rintro rfl; rw [set_self] at h2; cases h2
        rw [deq_list (xs := []) (ys := []) (by rw [set_ne _ _ hne, set_self]) (set_self _ _ _) rfl rfl]
        exact h _ ((he.set h1).set h2)
    | _ => simp [plainT] at hv

theorem s7_listed {d : Nat} {Q : VPost} {p q : Addr} {xs : List Val} (hd : 4 ≤ d) (hp : σ p = some (.list xs)) (hq : σ q = some (.list xs)) (hx : xs.length ≤ 1000) (hv : ∀ x ∈ xs, plainT 1 x = true) (h : ∀ σ', Ext σ σ' → Q (.bool true) σ') :
    LCall PySem.Challenge.pw_uf050028_07 w F B d true (.top "_law_listed") [.ref p, .ref q] σ Q X := by
  refine U.run 30 hc hm (by lia) (by decide) (ps := _ :: _) (b := _ :: _) (sc := _) (by with_unfolding_all rfl) rfl ?_
  simp (config := { maxSteps := 10000000 }) only [exs_0, exs_1, ev_int, ev_bool, ev_none, ev_str, ev_Name, ev_BinOp, ev_UnaryOp, ev_BoolOp, ev_Compare, ev_CallA, ev_CallN, ev_Slice, ev_SubN, ev_SubC, ev_SubB, ev_SubU, ev_SubF, ev_SubS, ev_SubT, ev_SubA, ev_List, ev_Tuple, ev_Dict0, ev_Comp, ex_Pass, ex_Expr, ex_RetS, ex_RetN, ex_AName, ex_ATupN, ex_ATupC, ex_ASub, ex_If, ex_For, evs_0, evs_1, evOpt_0, evOpt_1, evBool_1, evBool_and, evBool_or, tst_Not, tst_Bool, tst_Cmp, tst_Name, tst_Call, tst_Sub, tst_Const, tstAll_0a, tstAll_0o, tstAll_1a, tstAll_1o, evCmp_1, evCmp_2, evIfs_0, evIfs_1, bindRho, List.map_cons, List.map_nil, List.lookup_cons, List.lookup_nil, ofString_beq, ofString_inj, ofString_bne, upd, isLoc, String.reduceBEq, String.reduceEq, String.reduceBNe, String.reduceNe, ↓reduceIte, true_and, and_true, cxOf_gl, cxOf_call, cxOf_calm, cxOf_hush, cxOf_pull, cxOf_exc, g07, gl07, deq_int, deq_bool, itemsOf_rng, Option.map_some, fewArgs, bo_add, bo_sub, bo_mul, bo_div, bo_mod, bo_pow, uo_neg, uo_not, tr_none, tr_bool, tr_int, su_tup, su_scr, cv_fn, cv_cls, cv_blt, cv_typ, cb_lenT, cb_lenS, cb_isi, ii_intI, ii_boolI, ii_tupI, ii_intB, ii_boolB, ii_tupB, ii_intT, ii_boolT, ii_tupT, ct_rng1, co_lt, co_le, co_gt, co_ge, co_eq, co_ne, co_in, co_ni, lateM_set, plainBase, bindT_name, bindT_pair, List.length_nil, List.length_cons, Nat.reduceLT, Nat.reduceAdd, decide_true, decide_false, Bool.and_true, Bool.true_and, Bool.and_self, decide_eq_true_eq, decide_eq_false_iff_not, Bool.true_eq_false, Bool.false_eq_true, false_implies, forall_const, true_implies, beq_self_eq_true, Bool.or_true, Bool.true_or, Bool.or_false, Bool.false_or, bne_self_eq_false, set_self, compRho, Bool.not_true, Bool.not_false, Int.zero_add]
  rw [ii_list hp]
  simp (config := { maxSteps := 10000000 }) only [exs_0, exs_1, ev_int, ev_bool, ev_none, ev_str, ev_Name, ev_BinOp, ev_UnaryOp, ev_BoolOp, ev_Compare, ev_CallA, ev_CallN, ev_Slice, ev_SubN, ev_SubC, ev_SubB, ev_SubU, ev_SubF, ev_SubS, ev_SubT, ev_SubA, ev_List, ev_Tuple, ev_Dict0, ev_Comp, ex_Pass, ex_Expr, ex_RetS, ex_RetN, ex_AName, ex_ATupN, ex_ATupC, ex_ASub, ex_If, ex_For, evs_0, evs_1, evOpt_0, evOpt_1, evBool_1, evBool_and, evBool_or, tst_Not, tst_Bool, tst_Cmp, tst_Name, tst_Call, tst_Sub, tst_Const, tstAll_0a, tstAll_0o, tstAll_1a, tstAll_1o, evCmp_1, evCmp_2, evIfs_0, evIfs_1, bindRho, List.map_cons, List.map_nil, List.lookup_cons, List.lookup_nil, ofString_beq, ofString_inj, ofString_bne, upd, isLoc, String.reduceBEq, String.reduceEq, String.reduceBNe, String.reduceNe, ↓reduceIte, true_and, and_true, cxOf_gl, cxOf_call, cxOf_calm, cxOf_hush, cxOf_pull, cxOf_exc, g07, gl07, deq_int, deq_bool, itemsOf_rng, Option.map_some, fewArgs, bo_add, bo_sub, bo_mul, bo_div, bo_mod, bo_pow, uo_neg, uo_not, tr_none, tr_bool, tr_int, su_tup, su_scr, cv_fn, cv_cls, cv_blt, cv_typ, cb_lenT, cb_lenS, cb_isi, ii_intI, ii_boolI, ii_tupI, ii_intB, ii_boolB, ii_tupB, ii_intT, ii_boolT, ii_tupT, ct_rng1, co_lt, co_le, co_gt, co_ge, co_eq, co_ne, co_in, co_ni, lateM_set, plainBase, bindT_name, bindT_pair, List.length_nil, List.length_cons, Nat.reduceLT, Nat.reduceAdd, decide_true, decide_false, Bool.and_true, Bool.true_and, Bool.and_self, decide_eq_true_eq, decide_eq_false_iff_not, Bool.true_eq_false, Bool.false_eq_true, false_implies, forall_const, true_implies, beq_self_eq_true, Bool.or_true, Bool.true_or, Bool.or_false, Bool.false_or, bne_self_eq_false, set_self, compRho, Bool.not_true, Bool.not_false, Int.zero_add]
  rw [ct_tup hp, ct_tup hq]
  refine s7_alike U hc hm 2 (by lia) ?_ h
  simp only [plainT, Bool.and_eq_true, decide_eq_true_eq, List.all_eq_true]
  exact ⟨hx, hv⟩

/-- what the law's own looking finds -/
def dueIn (ps : List (Int × Int)) (p : Int × Int) (f : List (Int × Int × Int)) (q : Int × Int) : List (Int × Int × Int) :=
  if q.1 = p.2 ∧ (p.1, q.2) ∉ ps ∧ (p.1, p.2, q.2) ∉ f then f ++ [(p.1, p.2, q.2)] else f
def dueOut (ps : List (Int × Int)) (f : List (Int × Int × Int)) (p : Int × Int) : List (Int × Int × Int) := ps.foldl (dueIn ps p) f
def dueL (ps : List (Int × Int)) : List (Int × Int × Int) := ps.foldl (dueOut ps) []
omit U hc hm in
theorem dueIn_len (ps : List (Int × Int)) (p q : Int × Int) (f : List (Int × Int × Int)) : (dueIn ps p f q).length ≤ f.length + 1 := by
  unfold dueIn; split <;> simp
omit U hc hm in
theorem dueIns_len (ps : List (Int × Int)) (p : Int × Int) : ∀ (l : List (Int × Int)) (f : List (Int × Int × Int)), (l.foldl (dueIn ps p) f).length ≤ f.length + l.length
  | [], f => by simp
  | q :: l, f => by
    have := dueIns_len ps p l (dueIn ps p f q)
    have := dueIn_len ps p q f
    simp only [List.foldl_cons, List.length_cons]; lia
omit U hc hm in
theorem dueOuts_len (ps : List (Int × Int)) : ∀ (l : List (Int × Int)) (f : List (Int × Int × Int)), (l.foldl (dueOut ps) f).length ≤ f.length + l.length * ps.length
  | [], f => by simp
  | q :: l, f => by
    have h1 := dueOuts_len ps l (dueOut ps f q)
    have h2 : (dueOut ps f q).length ≤ f.length + ps.length := dueIns_len ps q ps f
    simp only [List.foldl_cons, List.length_cons, Nat.succ_mul]; lia

theorem s7_due {d : Nat} {Q : VPost} {p : Addr} {ps : List (Int × Int)} (hd : 1 ≤ d) (hp : σ p = some (.list (pairsV ps))) (hl : ps.length ≤ 100) (h64 : (dueL ps).length < 64)
    (h : ∀ c σ', σ c = none → Ext σ σ' → σ' c = some (.list (sortV (tripsV (dueL ps)))) → Q (.ref c) σ') :
    LCall PySem.Challenge.pw_uf050028_07 w F B d true (.top "_law_due") [.ref p] σ Q X := by
  refine U.run 30 hc hm (by lia) (by decide) (ps := _ :: _) (b := _ :: _) (sc := _) (by with_unfolding_all rfl) rfl ?_
  simp (config := { maxSteps := 10000000 }) only [exs_0, exs_1, ev_int, ev_bool, ev_none, ev_str, ev_Name, ev_BinOp, ev_UnaryOp, ev_BoolOp, ev_Compare, ev_CallA, ev_CallN, ev_Slice, ev_SubN, ev_SubC, ev_SubB, ev_SubU, ev_SubF, ev_SubS, ev_SubT, ev_SubA, ev_List, ev_Tuple, ev_Dict0, ev_Comp, ex_Pass, ex_Expr, ex_RetS, ex_RetN, ex_AName, ex_ATupN, ex_ATupC, ex_ASub, ex_If, ex_For, evs_0, evs_1, evOpt_0, evOpt_1, evBool_1, evBool_and, evBool_or, tst_Not, tst_Bool, tst_Cmp, tst_Name, tst_Call, tst_Sub, tst_Const, tstAll_0a, tstAll_0o, tstAll_1a, tstAll_1o, evCmp_1, evCmp_2, evIfs_0, evIfs_1, bindRho, List.map_cons, List.map_nil, List.lookup_cons, List.lookup_nil, ofString_beq, ofString_inj, ofString_bne, upd, isLoc, String.reduceBEq, String.reduceEq, String.reduceBNe, String.reduceNe, ↓reduceIte, true_and, and_true, cxOf_gl, cxOf_call, cxOf_calm, cxOf_hush, cxOf_pull, cxOf_exc, g07, gl07, deq_int, deq_bool, itemsOf_rng, Option.map_some, fewArgs, bo_add, bo_sub, bo_mul, bo_div, bo_mod, bo_pow, uo_neg, uo_not, tr_none, tr_bool, tr_int, su_tup, su_scr, cv_fn, cv_cls, cv_blt, cv_typ, cb_lenT, cb_lenS, cb_isi, ii_intI, ii_boolI, ii_tupI, ii_intB, ii_boolB, ii_tupB, ii_intT, ii_boolT, ii_tupT, ct_rng1, co_lt, co_le, co_gt, co_ge, co_eq, co_ne, co_in, co_ni, lateM_set, plainBase, bindT_name, bindT_pair, List.length_nil, List.length_cons, Nat.reduceLT, Nat.reduceAdd, decide_true, decide_false, Bool.and_true, Bool.true_and, Bool.and_self, decide_eq_true_eq, decide_eq_false_iff_not, Bool.true_eq_false, Bool.false_eq_true, false_implies, forall_const, true_implies, beq_self_eq_true, Bool.or_true, Bool.true_or, Bool.or_false, Bool.false_or, bne_self_eq_false, set_self, compRho, Bool.not_true, Bool.not_false, Int.zero_add]
  intro c hc0
  have hpc : p ≠ c := by rintro rfl; rw [hp] at hc0; cases hc0
  have hcap : cap = 1000000 := rfl
  rw [forV_list (xs := pairsV ps) (by rw [set_ne _ _ hpc]; exact hp)]
  simp (config := { maxSteps := 10000000 }) only [exs_0, exs_1, ev_int, ev_bool, ev_none, ev_str, ev_Name, ev_BinOp, ev_UnaryOp, ev_BoolOp, ev_Compare, ev_CallA, ev_CallN, ev_Slice, ev_SubN, ev_SubC, ev_SubB, ev_SubU, ev_SubF, ev_SubS, ev_SubT, ev_SubA, ev_List, ev_Tuple, ev_Dict0, ev_Comp, ex_Pass, ex_Expr, ex_RetS, ex_RetN, ex_AName, ex_ATupN, ex_ATupC, ex_ASub, ex_If, ex_For, evs_0, evs_1, evOpt_0, evOpt_1, evBool_1, evBool_and, evBool_or, tst_Not, tst_Bool, tst_Cmp, tst_Name, tst_Call, tst_Sub, tst_Const, tstAll_0a, tstAll_0o, tstAll_1a, tstAll_1o, evCmp_1, evCmp_2, evIfs_0, evIfs_1, bindRho, List.map_cons, List.map_nil, List.lookup_cons, List.lookup_nil, ofString_beq, ofString_inj, ofString_bne, upd, isLoc, String.reduceBEq, String.reduceEq, String.reduceBNe, String.reduceNe, ↓reduceIte, true_and, and_true, cxOf_gl, cxOf_call, cxOf_calm, cxOf_hush, cxOf_pull, cxOf_exc, g07, gl07, deq_int, deq_bool, itemsOf_rng, Option.map_some, fewArgs, bo_add, bo_sub, bo_mul, bo_div, bo_mod, bo_pow, uo_neg, uo_not, tr_none, tr_bool, tr_int, su_tup, su_scr, cv_fn, cv_cls, cv_blt, cv_typ, cb_lenT, cb_lenS, cb_isi, ii_intI, ii_boolI, ii_tupI, ii_intB, ii_boolB, ii_tupB, ii_intT, ii_boolT, ii_tupT, ct_rng1, co_lt, co_le, co_gt, co_ge, co_eq, co_ne, co_in, co_ni, lateM_set, plainBase, bindT_name, bindT_pair, List.length_nil, List.length_cons, Nat.reduceLT, Nat.reduceAdd, decide_true, decide_false, Bool.and_true, Bool.true_and, Bool.and_self, decide_eq_true_eq, decide_eq_false_iff_not, Bool.true_eq_false, Bool.false_eq_true, false_implies, forall_const, true_implies, beq_self_eq_true, Bool.or_true, Bool.true_or, Bool.or_false, Bool.false_or, bne_self_eq_false, set_self, compRho, Bool.not_true, Bool.not_false, Int.zero_add]
  refine forLoop_inv (fun i ρ' σ' => ρ' "_law_arrows" = some (.ref p) ∧ ρ' "_law_found" = some (.ref c) ∧ σ' = σ.set c (.list (tripsV ((ps.take i).foldl (dueOut ps) [])))) ⟨by simp (config := { maxSteps := 10000000 }) only [exs_0, exs_1, ev_int, ev_bool, ev_none, ev_str, ev_Name, ev_BinOp, ev_UnaryOp, ev_BoolOp, ev_Compare, ev_CallA, ev_CallN, ev_Slice, ev_SubN, ev_SubC, ev_SubB, ev_SubU, ev_SubF, ev_SubS, ev_SubT, ev_SubA, ev_List, ev_Tuple, ev_Dict0, ev_Comp, ex_Pass, ex_Expr, ex_RetS, ex_RetN, ex_AName, ex_ATupN, ex_ATupC, ex_ASub, ex_If, ex_For, evs_0, evs_1, evOpt_0, evOpt_1, evBool_1, evBool_and, evBool_or, tst_Not, tst_Bool, tst_Cmp, tst_Name, tst_Call, tst_Sub, tst_Const, tstAll_0a, tstAll_0o, tstAll_1a, tstAll_1o, evCmp_1, evCmp_2, evIfs_0, evIfs_1, bindRho, List.map_cons, List.map_nil, List.lookup_cons, List.lookup_nil, ofString_beq, ofString_inj, ofString_bne, upd, isLoc, String.reduceBEq, String.reduceEq, String.reduceBNe, String.reduceNe, ↓reduceIte, true_and, and_true, cxOf_gl, cxOf_call, cxOf_calm, cxOf_hush, cxOf_pull, cxOf_exc, g07, gl07, deq_int, deq_bool, itemsOf_rng, Option.map_some, fewArgs, bo_add, bo_sub, bo_mul, bo_div, bo_mod, bo_pow, uo_neg, uo_not, tr_none, tr_bool, tr_int, su_tup, su_scr, cv_fn, cv_cls, cv_blt, cv_typ, cb_lenT, cb_lenS, cb_isi, ii_intI, ii_boolI, ii_tupI, ii_intB, ii_boolB, ii_tupB, ii_intT, ii_boolT, ii_tupT, ct_rng1, co_lt, co_le, co_gt, co_ge, co_eq, co_ne, co_in, co_ni, lateM_set, plainBase, bindT_name, bindT_pair, List.length_nil, List.length_cons, Nat.reduceLT, Nat.reduceAdd, decide_true, decide_false, Bool.and_true, Bool.true_and, Bool.and_self, decide_eq_true_eq, decide_eq_false_iff_not, Bool.true_eq_false, Bool.false_eq_true, false_implies, forall_const, true_implies, beq_self_eq_true, Bool.or_true, Bool.true_or, Bool.or_false, Bool.false_or, bne_self_eq_false, set_self, compRho, Bool.not_true, Bool.not_false, Int.zero_add], by simp (config := { maxSteps := 10000000 }) only [exs_0, exs_1, ev_int, ev_bool, ev_none, ev_str, ev_Name, ev_BinOp, ev_UnaryOp, ev_BoolOp, ev_Compare, ev_CallA, ev_CallN, ev_Slice, ev_SubN, ev_SubC, ev_SubB, ev_SubU, ev_SubF, ev_SubS, ev_SubT, ev_SubA, ev_List, ev_Tuple, ev_Dict0, ev_Comp, ex_Pass, ex_Expr, ex_RetS, ex_RetN, ex_AName, ex_ATupN, ex_ATupC, ex_ASub, ex_If, ex_For, evs_0, evs_1, evOpt_0, evOpt_1, evBool_1, evBool_and, evBool_or, tst_Not, tst_Bool, tst_Cmp, tst_Name, tst_Call, tst_Sub, tst_Const, tstAll_0a, tstAll_0o, tstAll_1a, tstAll_1o, evCmp_1, evCmp_2, evIfs_0, evIfs_1, bindRho, List.map_cons, List.map_nil, List.lookup_cons, List.lookup_nil, ofString_beq, ofString_inj, ofString_bne, upd, isLoc, String.reduceBEq, String.reduceEq, String.reduceBNe, String.reduceNe, ↓reduceIte, true_and, and_true, cxOf_gl, cxOf_call, cxOf_calm, cxOf_hush, cxOf_pull, cxOf_exc, g07, gl07, deq_int, deq_bool, itemsOf_rng, Option.map_some, fewArgs, bo_add, bo_sub, bo_mul, bo_div, bo_mod, bo_pow, uo_neg, uo_not, tr_none, tr_bool, tr_int, su_tup, su_scr, cv_fn, cv_cls, cv_blt, cv_typ, cb_lenT, cb_lenS, cb_isi, ii_intI, ii_boolI, ii_tupI, ii_intB, ii_boolB, ii_tupB, ii_intT, ii_boolT, ii_tupT, ct_rng1, co_lt, co_le, co_gt, co_ge, co_eq, co_ne, co_in, co_ni, lateM_set, plainBase, bindT_name, bindT_pair, List.length_nil, List.length_cons, Nat.reduceLT, Nat.reduceAdd, decide_true, decide_false, Bool.and_true, Bool.true_and, Bool.and_self, decide_eq_true_eq, decide_eq_false_iff_not, Bool.true_eq_false, Bool.false_eq_true, false_implies, forall_const, true_implies, beq_self_eq_true, Bool.or_true, Bool.true_or, Bool.or_false, Bool.false_or, bne_self_eq_false, set_self, compRho, Bool.not_true, Bool.not_false, Int.zero_add], by simp [tripsV]⟩ (fun i x ρ' σ' K hx ⟨r1, r2, e⟩ hK _ => ?_) (fun ρ' σ' ⟨r1, r2, e⟩ => ?_)
  · obtain ⟨a, ha, rfl⟩ := pairsV_get hx
    subst e
    simp only [forStep, lateX]
    simp (config := { maxSteps := 10000000 }) only [exs_0, exs_1, ev_int, ev_bool, ev_none, ev_str, ev_Name, ev_BinOp, ev_UnaryOp, ev_BoolOp, ev_Compare, ev_CallA, ev_CallN, ev_Slice, ev_SubN, ev_SubC, ev_SubB, ev_SubU, ev_SubF, ev_SubS, ev_SubT, ev_SubA, ev_List, ev_Tuple, ev_Dict0, ev_Comp, ex_Pass, ex_Expr, ex_RetS, ex_RetN, ex_AName, ex_ATupN, ex_ATupC, ex_ASub, ex_If, ex_For, evs_0, evs_1, evOpt_0, evOpt_1, evBool_1, evBool_and, evBool_or, tst_Not, tst_Bool, tst_Cmp, tst_Name, tst_Call, tst_Sub, tst_Const, tstAll_0a, tstAll_0o, tstAll_1a, tstAll_1o, evCmp_1, evCmp_2, evIfs_0, evIfs_1, bindRho, List.map_cons, List.map_nil, List.lookup_cons, List.lookup_nil, ofString_beq, ofString_inj, ofString_bne, upd, isLoc, String.reduceBEq, String.reduceEq, String.reduceBNe, String.reduceNe, ↓reduceIte, true_and, and_true, cxOf_gl, cxOf_call, cxOf_calm, cxOf_hush, cxOf_pull, cxOf_exc, g07, gl07, deq_int, deq_bool, itemsOf_rng, Option.map_some, fewArgs, bo_add, bo_sub, bo_mul, bo_div, bo_mod, bo_pow, uo_neg, uo_not, tr_none, tr_bool, tr_int, su_tup, su_scr, cv_fn, cv_cls, cv_blt, cv_typ, cb_lenT, cb_lenS, cb_isi, ii_intI, ii_boolI, ii_tupI, ii_intB, ii_boolB, ii_tupB, ii_intT, ii_boolT, ii_tupT, ct_rng1, co_lt, co_le, co_gt, co_ge, co_eq, co_ne, co_in, co_ni, lateM_set, plainBase, bindT_name, bindT_pair, List.length_nil, List.length_cons, Nat.reduceLT, Nat.reduceAdd, decide_true, decide_false, Bool.and_true, Bool.true_and, Bool.and_self, decide_eq_true_eq, decide_eq_false_iff_not, Bool.true_eq_false, Bool.false_eq_true, false_implies, forall_const, true_implies, beq_self_eq_true, Bool.or_true, Bool.true_or, Bool.or_false, Bool.false_or, bne_self_eq_false, set_self, compRho, Bool.not_true, Bool.not_false, Int.zero_add]
    simp only [r1, r2]
    rw [forV_list (xs := pairsV ps) (by rw [set_ne _ _ hpc]; exact hp)]
    simp (config := { maxSteps := 10000000 }) only [exs_0, exs_1, ev_int, ev_bool, ev_none, ev_str, ev_Name, ev_BinOp, ev_UnaryOp, ev_BoolOp, ev_Compare, ev_CallA, ev_CallN, ev_Slice, ev_SubN, ev_SubC, ev_SubB, ev_SubU, ev_SubF, ev_SubS, ev_SubT, ev_SubA, ev_List, ev_Tuple, ev_Dict0, ev_Comp, ex_Pass, ex_Expr, ex_RetS, ex_RetN, ex_AName, ex_ATupN, ex_ATupC, ex_ASub, ex_If, ex_For, evs_0, evs_1, evOpt_0, evOpt_1, evBool_1, evBool_and, evBool_or, tst_Not, tst_Bool, tst_Cmp, tst_Name, tst_Call, tst_Sub, tst_Const, tstAll_0a, tstAll_0o, tstAll_1a, tstAll_1o, evCmp_1, evCmp_2, evIfs_0, evIfs_1, bindRho, List.map_cons, List.map_nil, List.lookup_cons, List.lookup_nil, ofString_beq, ofString_inj, ofString_bne, upd, isLoc, String.reduceBEq, String.reduceEq, String.reduceBNe, String.reduceNe, ↓reduceIte, true_and, and_true, cxOf_gl, cxOf_call, cxOf_calm, cxOf_hush, cxOf_pull, cxOf_exc, g07, gl07, deq_int, deq_bool, itemsOf_rng, Option.map_some, fewArgs, bo_add, bo_sub, bo_mul, bo_div, bo_mod, bo_pow, uo_neg, uo_not, tr_none, tr_bool, tr_int, su_tup, su_scr, cv_fn, cv_cls, cv_blt, cv_typ, cb_lenT, cb_lenS, cb_isi, ii_intI, ii_boolI, ii_tupI, ii_intB, ii_boolB, ii_tupB, ii_intT, ii_boolT, ii_tupT, ct_rng1, co_lt, co_le, co_gt, co_ge, co_eq, co_ne, co_in, co_ni, lateM_set, plainBase, bindT_name, bindT_pair, List.length_nil, List.length_cons, Nat.reduceLT, Nat.reduceAdd, decide_true, decide_false, Bool.and_true, Bool.true_and, Bool.and_self, decide_eq_true_eq, decide_eq_false_iff_not, Bool.true_eq_false, Bool.false_eq_true, false_implies, forall_const, true_implies, beq_self_eq_true, Bool.or_true, Bool.true_or, Bool.or_false, Bool.false_or, bne_self_eq_false, set_self, compRho, Bool.not_true, Bool.not_false, Int.zero_add]
    have hb0 := dueOuts_len ps (ps.take i) []
    have hi : (ps.take i).length ≤ 100 := by simp; lia
    have hm0 : (ps.take i).length * ps.length ≤ 100 * 100 := Nat.mul_le_mul hi hl
    refine forLoop_inv (fun j ρ'' σ'' => ρ'' "_law_arrows" = some (.ref p) ∧ ρ'' "_law_found" = some (.ref c) ∧ ρ'' "_law_one" = some (.int a.1) ∧ ρ'' "_law_middle" = some (.int a.2) ∧
      σ'' = σ.set c (.list (tripsV ((ps.take j).foldl (dueIn ps a) ((ps.take i).foldl (dueOut ps) []))))) ⟨by simp (config := { maxSteps := 10000000 }) only [exs_0, exs_1, ev_int, ev_bool, ev_none, ev_str, ev_Name, ev_BinOp, ev_UnaryOp, ev_BoolOp, ev_Compare, ev_CallA, ev_CallN, ev_Slice, ev_SubN, ev_SubC, ev_SubB, ev_SubU, ev_SubF, ev_SubS, ev_SubT, ev_SubA, ev_List, ev_Tuple, ev_Dict0, ev_Comp, ex_Pass, ex_Expr, ex_RetS, ex_RetN, ex_AName, ex_ATupN, ex_ATupC, ex_ASub, ex_If, ex_For, evs_0, evs_1, evOpt_0, evOpt_1, evBool_1, evBool_and, evBool_or, tst_Not, tst_Bool, tst_Cmp, tst_Name, tst_Call, tst_Sub, tst_Const, tstAll_0a, tstAll_0o, tstAll_1a, tstAll_1o, evCmp_1, evCmp_2, evIfs_0, evIfs_1, bindRho, List.map_cons, List.map_nil, List.lookup_cons, List.lookup_nil, ofString_beq, ofString_inj, ofString_bne, upd, isLoc, String.reduceBEq, String.reduceEq, String.reduceBNe, String.reduceNe, ↓reduceIte, true_and, and_true, cxOf_gl, cxOf_call, cxOf_calm, cxOf_hush, cxOf_pull, cxOf_exc, g07, gl07, deq_int, deq_bool, itemsOf_rng, Option.map_some, fewArgs, bo_add, bo_sub, bo_mul, bo_div, bo_mod, bo_pow, uo_neg, uo_not, tr_none, tr_bool, tr_int, su_tup, su_scr, cv_fn, cv_cls, cv_blt, cv_typ, cb_lenT, cb_lenS, cb_isi, ii_intI, ii_boolI, ii_tupI, ii_intB, ii_boolB, ii_tupB, ii_intT, ii_boolT, ii_tupT, ct_rng1, co_lt, co_le, co_gt, co_ge, co_eq, co_ne, co_in, co_ni, lateM_set, plainBase, bindT_name, bindT_pair, List.length_nil, List.length_cons, Nat.reduceLT, Nat.reduceAdd, decide_true, decide_false, Bool.and_true, Bool.true_and, Bool.and_self, decide_eq_true_eq, decide_eq_false_iff_not, Bool.true_eq_false, Bool.false_eq_true, false_implies, forall_const, true_implies, beq_self_eq_true, Bool.or_true, Bool.true_or, Bool.or_false, Bool.false_or, bne_self_eq_false, set_self, compRho, Bool.not_true, Bool.not_false, Int.zero_add]; exact r1, by simp (config := { maxSteps := 10000000 }) only [exs_0, exs_1, ev_int, ev_bool, ev_none, ev_str, ev_Name, ev_BinOp, ev_UnaryOp, ev_BoolOp, ev_Compare, ev_CallA, ev_CallN, ev_Slice, ev_SubN, ev_SubC, ev_SubB, ev_SubU, ev_SubF, ev_SubS, ev_SubT, ev_SubA, ev_List, ev_Tuple, ev_Dict0, ev_Comp, ex_Pass, ex_Expr, ex_RetS, ex_RetN, ex_AName, ex_ATupN, ex_ATupC, ex_ASub, ex_If, ex_For, evs_0, evs_1, evOpt_0, evOpt_1, evBool_1, evBool_and, evBool_or, tst_Not, tst_Bool, tst_Cmp, tst_Name, tst_Call, tst_Sub, tst_Const, tstAll_0a, tstAll_0o, tstAll_1a, tstAll_1o, evCmp_1, evCmp_2, evIfs_0, evIfs_1, bindRho, List.map_cons, List.map_nil, List.lookup_cons, List.lookup_nil, ofString_beq, ofString_inj, ofString_bne, upd, isLoc, String.reduceBEq, String.reduceEq, String.reduceBNe, String.reduceNe, ↓reduceIte, true_and, and_true, cxOf_gl, cxOf_call, cxOf_calm, cxOf_hush, cxOf_pull, cxOf_exc, g07, gl07, deq_int, deq_bool, itemsOf_rng, Option.map_some, fewArgs, bo_add, bo_sub, bo_mul, bo_div, bo_mod, bo_pow, uo_neg, uo_not, tr_none, tr_bool, tr_int, su_tup, su_scr, cv_fn, cv_cls, cv_blt, cv_typ, cb_lenT, cb_lenS, cb_isi, ii_intI, ii_boolI, ii_tupI, ii_intB, ii_boolB, ii_tupB, ii_intT, ii_boolT, ii_tupT, ct_rng1, co_lt, co_le, co_gt, co_ge, co_eq, co_ne, co_in, co_ni, lateM_set, plainBase, bindT_name, bindT_pair, List.length_nil, List.length_cons, Nat.reduceLT, Nat.reduceAdd, decide_true, decide_false, Bool.and_true, Bool.true_and, Bool.and_self, decide_eq_true_eq, decide_eq_false_iff_not, Bool.true_eq_false, Bool.false_eq_true, false_implies, forall_const, true_implies, beq_self_eq_true, Bool.or_true, Bool.true_or, Bool.or_false, Bool.false_or, bne_self_eq_false, set_self, compRho, Bool.not_true, Bool.not_false, Int.zero_add]; exact r2, by simp (config := { maxSteps := 10000000 }) only [exs_0, exs_1, ev_int, ev_bool, ev_none, ev_str, ev_Name, ev_BinOp, ev_UnaryOp, ev_BoolOp, ev_Compare, ev_CallA, ev_CallN, ev_Slice, ev_SubN, ev_SubC, ev_SubB, ev_SubU, ev_SubF, ev_SubS, ev_SubT, ev_SubA, ev_List, ev_Tuple, ev_Dict0, ev_Comp, ex_Pass, ex_Expr, ex_RetS, ex_RetN, ex_AName, ex_ATupN, ex_ATupC, ex_ASub, ex_If, ex_For, evs_0, evs_1, evOpt_0, evOpt_1, evBool_1, evBool_and, evBool_or, tst_Not, tst_Bool, tst_Cmp, tst_Name, tst_Call, tst_Sub, tst_Const, tstAll_0a, tstAll_0o, tstAll_1a, tstAll_1o, evCmp_1, evCmp_2, evIfs_0, evIfs_1, bindRho, List.map_cons, List.map_nil, List.lookup_cons, List.lookup_nil, ofString_beq, ofString_inj, ofString_bne, upd, isLoc, String.reduceBEq, String.reduceEq, String.reduceBNe, String.reduceNe, ↓reduceIte, true_and, and_true, cxOf_gl, cxOf_call, cxOf_calm, cxOf_hush, cxOf_pull, cxOf_exc, g07, gl07, deq_int, deq_bool, itemsOf_rng, Option.map_some, fewArgs, bo_add, bo_sub, bo_mul, bo_div, bo_mod, bo_pow, uo_neg, uo_not, tr_none, tr_bool, tr_int, su_tup, su_scr, cv_fn, cv_cls, cv_blt, cv_typ, cb_lenT, cb_lenS, cb_isi, ii_intI, ii_boolI, ii_tupI, ii_intB, ii_boolB, ii_tupB, ii_intT, ii_boolT, ii_tupT, ct_rng1, co_lt, co_le, co_gt, co_ge, co_eq, co_ne, co_in, co_ni, lateM_set, plainBase, bindT_name, bindT_pair, List.length_nil, List.length_cons, Nat.reduceLT, Nat.reduceAdd, decide_true, decide_false, Bool.and_true, Bool.true_and, Bool.and_self, decide_eq_true_eq, decide_eq_false_iff_not, Bool.true_eq_false, Bool.false_eq_true, false_implies, forall_const, true_implies, beq_self_eq_true, Bool.or_true, Bool.true_or, Bool.or_false, Bool.false_or, bne_self_eq_false, set_self, compRho, Bool.not_true, Bool.not_false, Int.zero_add], by simp (config := { maxSteps := 10000000 }) only [exs_0, exs_1, ev_int, ev_bool, ev_none, ev_str, ev_Name, ev_BinOp, ev_UnaryOp, ev_BoolOp, ev_Compare, ev_CallA, ev_CallN, ev_Slice, ev_SubN, ev_SubC, ev_SubB, ev_SubU, ev_SubF, ev_SubS, ev_SubT, ev_SubA, ev_List, ev_Tuple, ev_Dict0, ev_Comp, ex_Pass, ex_Expr, ex_RetS, ex_RetN, ex_AName, ex_ATupN, ex_ATupC, ex_ASub, ex_If, ex_For, evs_0, evs_1, evOpt_0, evOpt_1, evBool_1, evBool_and, evBool_or, tst_Not, tst_Bool, tst_Cmp, tst_Name, tst_Call, tst_Sub, tst_Const, tstAll_0a, tstAll_0o, tstAll_1a, tstAll_1o, evCmp_1, evCmp_2, evIfs_0, evIfs_1, bindRho, List.map_cons, List.map_nil, List.lookup_cons, List.lookup_nil, ofString_beq, ofString_inj, ofString_bne, upd, isLoc, String.reduceBEq, String.reduceEq, String.reduceBNe, String.reduceNe, ↓reduceIte, true_and, and_true, cxOf_gl, cxOf_call, cxOf_calm, cxOf_hush, cxOf_pull, cxOf_exc, g07, gl07, deq_int, deq_bool, itemsOf_rng, Option.map_some, fewArgs, bo_add, bo_sub, bo_mul, bo_div, bo_mod, bo_pow, uo_neg, uo_not, tr_none, tr_bool, tr_int, su_tup, su_scr, cv_fn, cv_cls, cv_blt, cv_typ, cb_lenT, cb_lenS, cb_isi, ii_intI, ii_boolI, ii_tupI, ii_intB, ii_boolB, ii_tupB, ii_intT, ii_boolT, ii_tupT, ct_rng1, co_lt, co_le, co_gt, co_ge, co_eq, co_ne, co_in, co_ni, lateM_set, plainBase, bindT_name, bindT_pair, List.length_nil, List.length_cons, Nat.reduceLT, Nat.reduceAdd, decide_true, decide_false, Bool.and_true, Bool.true_and, Bool.and_self, decide_eq_true_eq, decide_eq_false_iff_not, Bool.true_eq_false, Bool.false_eq_true, false_implies, forall_const, true_implies, beq_self_eq_true, Bool.or_true, Bool.true_or, Bool.or_false, Bool.false_or, bne_self_eq_false, set_self, compRho, Bool.not_true, Bool.not_false, Int.zero_add], by simp⟩
      (fun j y ρ'' σ'' K' hy ⟨q1, q2, q3, q4, e⟩ hK' _ => ?_) (fun ρ'' σ'' ⟨q1, q2, q3, q4, e⟩ => ?_)
    · obtain ⟨b, hb, rfl⟩ := pairsV_get hy
      subst e
      have hb1 := dueIns_len ps a (ps.take j) ((ps.take i).foldl (dueOut ps) [])
      have hj : (ps.take j).length ≤ 100 := by simp; lia
      have hpp : (σ.set c (.list (tripsV ((ps.take j).foldl (dueIn ps a) ((ps.take i).foldl (dueOut ps) []))))) p = some (.list (pairsV ps)) := by rw [set_ne _ _ hpc]; exact hp
      have fin : ∀ ρ₁ σ₁, ρ₁ "_law_arrows" = some (.ref p) → ρ₁ "_law_found" = some (.ref c) → ρ₁ "_law_one" = some (.int a.1) → ρ₁ "_law_middle" = some (.int a.2) →
          σ₁ = σ.set c (.list (tripsV (dueIn ps a ((ps.take j).foldl (dueIn ps a) ((ps.take i).foldl (dueOut ps) [])) b))) → K' .next ρ₁ σ₁ := by
        intro ρ₁ σ₁ s1 s2 s3 s4 s5
        refine hK' ρ₁ σ₁ ?_ ⟨s1, s2, s3, s4, by rw [s5, foldl_take_succ _ _ hb]⟩
        rw [s5]; simp only [still]; rw [set_ne _ _ hpc, set_ne _ _ hpc]
      simp only [forStep, lateX]
      simp (config := { maxSteps := 10000000 }) only [exs_0, exs_1, ev_int, ev_bool, ev_none, ev_str, ev_Name, ev_BinOp, ev_UnaryOp, ev_BoolOp, ev_Compare, ev_CallA, ev_CallN, ev_Slice, ev_SubN, ev_SubC, ev_SubB, ev_SubU, ev_SubF, ev_SubS, ev_SubT, ev_SubA, ev_List, ev_Tuple, ev_Dict0, ev_Comp, ex_Pass, ex_Expr, ex_RetS, ex_RetN, ex_AName, ex_ATupN, ex_ATupC, ex_ASub, ex_If, ex_For, evs_0, evs_1, evOpt_0, evOpt_1, evBool_1, evBool_and, evBool_or, tst_Not, tst_Bool, tst_Cmp, tst_Name, tst_Call, tst_Sub, tst_Const, tstAll_0a, tstAll_0o, tstAll_1a, tstAll_1o, evCmp_1, evCmp_2, evIfs_0, evIfs_1, bindRho, List.map_cons, List.map_nil, List.lookup_cons, List.lookup_nil, ofString_beq, ofString_inj, ofString_bne, upd, isLoc, String.reduceBEq, String.reduceEq, String.reduceBNe, String.reduceNe, ↓reduceIte, true_and, and_true, cxOf_gl, cxOf_call, cxOf_calm, cxOf_hush, cxOf_pull, cxOf_exc, g07, gl07, deq_int, deq_bool, itemsOf_rng, Option.map_some, fewArgs, bo_add, bo_sub, bo_mul, bo_div, bo_mod, bo_pow, uo_neg, uo_not, tr_none, tr_bool, tr_int, su_tup, su_scr, cv_fn, cv_cls, cv_blt, cv_typ, cb_lenT, cb_lenS, cb_isi, ii_intI, ii_boolI, ii_tupI, ii_intB, ii_boolB, ii_tupB, ii_intT, ii_boolT, ii_tupT, ct_rng1, co_lt, co_le, co_gt, co_ge, co_eq, co_ne, co_in, co_ni, lateM_set, plainBase, bindT_name, bindT_pair, List.length_nil, List.length_cons, Nat.reduceLT, Nat.reduceAdd, decide_true, decide_false, Bool.and_true, Bool.true_and, Bool.and_self, decide_eq_true_eq, decide_eq_false_iff_not, Bool.true_eq_false, Bool.false_eq_true, false_implies, forall_const, true_implies, beq_self_eq_true, Bool.or_true, Bool.true_or, Bool.or_false, Bool.false_or, bne_self_eq_false, set_self, compRho, Bool.not_true, Bool.not_false, Int.zero_add]
      simp only [q1, q2, q3, q4]
      simp (config := { maxSteps := 10000000 }) only [exs_0, exs_1, ev_int, ev_bool, ev_none, ev_str, ev_Name, ev_BinOp, ev_UnaryOp, ev_BoolOp, ev_Compare, ev_CallA, ev_CallN, ev_Slice, ev_SubN, ev_SubC, ev_SubB, ev_SubU, ev_SubF, ev_SubS, ev_SubT, ev_SubA, ev_List, ev_Tuple, ev_Dict0, ev_Comp, ex_Pass, ex_Expr, ex_RetS, ex_RetN, ex_AName, ex_ATupN, ex_ATupC, ex_ASub, ex_If, ex_For, evs_0, evs_1, evOpt_0, evOpt_1, evBool_1, evBool_and, evBool_or, tst_Not, tst_Bool, tst_Cmp, tst_Name, tst_Call, tst_Sub, tst_Const, tstAll_0a, tstAll_0o, tstAll_1a, tstAll_1o, evCmp_1, evCmp_2, evIfs_0, evIfs_1, bindRho, List.map_cons, List.map_nil, List.lookup_cons, List.lookup_nil, ofString_beq, ofString_inj, ofString_bne, upd, isLoc, String.reduceBEq, String.reduceEq, String.reduceBNe, String.reduceNe, ↓reduceIte, true_and, and_true, cxOf_gl, cxOf_call, cxOf_calm, cxOf_hush, cxOf_pull, cxOf_exc, g07, gl07, deq_int, deq_bool, itemsOf_rng, Option.map_some, fewArgs, bo_add, bo_sub, bo_mul, bo_div, bo_mod, bo_pow, uo_neg, uo_not, tr_none, tr_bool, tr_int, su_tup, su_scr, cv_fn, cv_cls, cv_blt, cv_typ, cb_lenT, cb_lenS, cb_isi, ii_intI, ii_boolI, ii_tupI, ii_intB, ii_boolB, ii_tupB, ii_intT, ii_boolT, ii_tupT, ct_rng1, co_lt, co_le, co_gt, co_ge, co_eq, co_ne, co_in, co_ni, lateM_set, plainBase, bindT_name, bindT_pair, List.length_nil, List.length_cons, Nat.reduceLT, Nat.reduceAdd, decide_true, decide_false, Bool.and_true, Bool.true_and, Bool.and_self, decide_eq_true_eq, decide_eq_false_iff_not, Bool.true_eq_false, Bool.false_eq_true, false_implies, forall_const, true_implies, beq_self_eq_true, Bool.or_true, Bool.true_or, Bool.or_false, Bool.false_or, bne_self_eq_false, set_self, compRho, Bool.not_true, Bool.not_false, Int.zero_add]
      rw [mem_pairs hpp, mem_trips (set_self _ _ _)]
      simp only [Option.map_some, beq_iff_eq, beq_eq_false_iff_ne, Bool.not_eq_true', decide_eq_false_iff_not, Bool.not_eq_false', decide_eq_true_eq]
      refine ⟨fun h1 => fin _ _ ?_ ?_ ?_ ?_ ?_, fun h1 => ⟨fun h2 => fin _ _ ?_ ?_ ?_ ?_ ?_, fun h2 => ⟨fun h3 => fin _ _ ?_ ?_ ?_ ?_ ?_, fun h3 => ?_⟩⟩⟩
      case refine_5 => unfold dueIn; rw [if_neg (by rintro ⟨x, _⟩; exact h1 x)]
      case refine_10 => unfold dueIn; rw [if_neg (by rintro ⟨_, x, _⟩; exact x h2)]
      case refine_15 => unfold dueIn; rw [if_neg (by rintro ⟨_, _, x⟩; exact x h3)]
      case refine_16 =>
        simp only [q3, q4]
        rw [listMeth_append (set_self _ _ _)]
        refine ⟨by rw [tripsV_length]; simp only [List.length_nil, Nat.zero_add] at hb0; lia, fin _ _ ?_ ?_ ?_ ?_ ?_⟩
        case refine_5 => unfold dueIn; rw [if_pos ⟨h1, h2, h3⟩, set_set, tripsV_snoc]
        all_goals (simp (config := { maxSteps := 10000000 }) only [exs_0, exs_1, ev_int, ev_bool, ev_none, ev_str, ev_Name, ev_BinOp, ev_UnaryOp, ev_BoolOp, ev_Compare, ev_CallA, ev_CallN, ev_Slice, ev_SubN, ev_SubC, ev_SubB, ev_SubU, ev_SubF, ev_SubS, ev_SubT, ev_SubA, ev_List, ev_Tuple, ev_Dict0, ev_Comp, ex_Pass, ex_Expr, ex_RetS, ex_RetN, ex_AName, ex_ATupN, ex_ATupC, ex_ASub, ex_If, ex_For, evs_0, evs_1, evOpt_0, evOpt_1, evBool_1, evBool_and, evBool_or, tst_Not, tst_Bool, tst_Cmp, tst_Name, tst_Call, tst_Sub, tst_Const, tstAll_0a, tstAll_0o, tstAll_1a, tstAll_1o, evCmp_1, evCmp_2, evIfs_0, evIfs_1, bindRho, List.map_cons, List.map_nil, List.lookup_cons, List.lookup_nil, ofString_beq, ofString_inj, ofString_bne, upd, isLoc, String.reduceBEq, String.reduceEq, String.reduceBNe, String.reduceNe, ↓reduceIte, true_and, and_true, cxOf_gl, cxOf_call, cxOf_calm, cxOf_hush, cxOf_pull, cxOf_exc, g07, gl07, deq_int, deq_bool, itemsOf_rng, Option.map_some, fewArgs, bo_add, bo_sub, bo_mul, bo_div, bo_mod, bo_pow, uo_neg, uo_not, tr_none, tr_bool, tr_int, su_tup, su_scr, cv_fn, cv_cls, cv_blt, cv_typ, cb_lenT, cb_lenS, cb_isi, ii_intI, ii_boolI, ii_tupI, ii_intB, ii_boolB, ii_tupB, ii_intT, ii_boolT, ii_tupT, ct_rng1, co_lt, co_le, co_gt, co_ge, co_eq, co_ne, co_in, co_ni, lateM_set, plainBase, bindT_name, bindT_pair, List.length_nil, List.length_cons, Nat.reduceLT, Nat.reduceAdd, decide_true, decide_false, Bool.and_true, Bool.true_and, Bool.and_self, decide_eq_true_eq, decide_eq_false_iff_not, Bool.true_eq_false, Bool.false_eq_true, false_implies, forall_const, true_implies, beq_self_eq_true, Bool.or_true, Bool.true_or, Bool.or_false, Bool.false_or, bne_self_eq_false, set_self, compRho, Bool.not_true, Bool.not_false, Int.zero_add]; assumption)
      all_goals (simp (config := { maxSteps := 10000000 }) only [exs_0, exs_1, ev_int, ev_bool, ev_none, ev_str, ev_Name, ev_BinOp, ev_UnaryOp, ev_BoolOp, ev_Compare, ev_CallA, ev_CallN, ev_Slice, ev_SubN, ev_SubC, ev_SubB, ev_SubU, ev_SubF, ev_SubS, ev_SubT, ev_SubA, ev_List, ev_Tuple, ev_Dict0, ev_Comp, ex_Pass, ex_Expr, ex_RetS, ex_RetN, ex_AName, ex_ATupN, ex_ATupC, ex_ASub, ex_If, ex_For, evs_0, evs_1, evOpt_0, evOpt_1, evBool_1, evBool_and, evBool_or, tst_Not, tst_Bool, tst_Cmp, tst_Name, tst_Call, tst_Sub, tst_Const, tstAll_0a, tstAll_0o, tstAll_1a, tstAll_1o, evCmp_1, evCmp_2, evIfs_0, evIfs_1, bindRho, List.map_cons, List.map_nil, List.lookup_cons, List.lookup_nil, ofString_beq, ofString_inj, ofString_bne, upd, isLoc, String.reduceBEq, String.reduceEq, String.reduceBNe, String.reduceNe, ↓reduceIte, true_and, and_true, cxOf_gl, cxOf_call, cxOf_calm, cxOf_hush, cxOf_pull, cxOf_exc, g07, gl07, deq_int, deq_bool, itemsOf_rng, Option.map_some, fewArgs, bo_add, bo_sub, bo_mul, bo_div, bo_mod, bo_pow, uo_neg, uo_not, tr_none, tr_bool, tr_int, su_tup, su_scr, cv_fn, cv_cls, cv_blt, cv_typ, cb_lenT, cb_lenS, cb_isi, ii_intI, ii_boolI, ii_tupI, ii_intB, ii_boolB, ii_tupB, ii_intT, ii_boolT, ii_tupT, ct_rng1, co_lt, co_le, co_gt, co_ge, co_eq, co_ne, co_in, co_ni, lateM_set, plainBase, bindT_name, bindT_pair, List.length_nil, List.length_cons, Nat.reduceLT, Nat.reduceAdd, decide_true, decide_false, Bool.and_true, Bool.true_and, Bool.and_self, decide_eq_true_eq, decide_eq_false_iff_not, Bool.true_eq_false, Bool.false_eq_true, false_implies, forall_const, true_implies, beq_self_eq_true, Bool.or_true, Bool.true_or, Bool.or_false, Bool.false_or, bne_self_eq_false, set_self, compRho, Bool.not_true, Bool.not_false, Int.zero_add]; assumption)
    · simp (config := { maxSteps := 10000000 }) only [exs_0, exs_1, ev_int, ev_bool, ev_none, ev_str, ev_Name, ev_BinOp, ev_UnaryOp, ev_BoolOp, ev_Compare, ev_CallA, ev_CallN, ev_Slice, ev_SubN, ev_SubC, ev_SubB, ev_SubU, ev_SubF, ev_SubS, ev_SubT, ev_SubA, ev_List, ev_Tuple, ev_Dict0, ev_Comp, ex_Pass, ex_Expr, ex_RetS, ex_RetN, ex_AName, ex_ATupN, ex_ATupC, ex_ASub, ex_If, ex_For, evs_0, evs_1, evOpt_0, evOpt_1, evBool_1, evBool_and, evBool_or, tst_Not, tst_Bool, tst_Cmp, tst_Name, tst_Call, tst_Sub, tst_Const, tstAll_0a, tstAll_0o, tstAll_1a, tstAll_1o, evCmp_1, evCmp_2, evIfs_0, evIfs_1, bindRho, List.map_cons, List.map_nil, List.lookup_cons, List.lookup_nil, ofString_beq, ofString_inj, ofString_bne, upd, isLoc, String.reduceBEq, String.reduceEq, String.reduceBNe, String.reduceNe, ↓reduceIte, true_and, and_true, cxOf_gl, cxOf_call, cxOf_calm, cxOf_hush, cxOf_pull, cxOf_exc, g07, gl07, deq_int, deq_bool, itemsOf_rng, Option.map_some, fewArgs, bo_add, bo_sub, bo_mul, bo_div, bo_mod, bo_pow, uo_neg, uo_not, tr_none, tr_bool, tr_int, su_tup, su_scr, cv_fn, cv_cls, cv_blt, cv_typ, cb_lenT, cb_lenS, cb_isi, ii_intI, ii_boolI, ii_tupI, ii_intB, ii_boolB, ii_tupB, ii_intT, ii_boolT, ii_tupT, ct_rng1, co_lt, co_le, co_gt, co_ge, co_eq, co_ne, co_in, co_ni, lateM_set, plainBase, bindT_name, bindT_pair, List.length_nil, List.length_cons, Nat.reduceLT, Nat.reduceAdd, decide_true, decide_false, Bool.and_true, Bool.true_and, Bool.and_self, decide_eq_true_eq, decide_eq_false_iff_not, Bool.true_eq_false, Bool.false_eq_true, false_implies, forall_const, true_implies, beq_self_eq_true, Bool.or_true, Bool.true_or, Bool.or_false, Bool.false_or, bne_self_eq_false, set_self, compRho, Bool.not_true, Bool.not_false, Int.zero_add]
      subst e
      refine hK ρ'' _ ?_ ⟨q1, q2, ?_⟩
      · simp only [still]; rw [set_ne _ _ hpc, set_ne _ _ hpc]
      · rw [foldl_take_succ _ _ ha, pairsV_length, List.take_length]; rfl
  · simp (config := { maxSteps := 10000000 }) only [exs_0, exs_1, ev_int, ev_bool, ev_none, ev_str, ev_Name, ev_BinOp, ev_UnaryOp, ev_BoolOp, ev_Compare, ev_CallA, ev_CallN, ev_Slice, ev_SubN, ev_SubC, ev_SubB, ev_SubU, ev_SubF, ev_SubS, ev_SubT, ev_SubA, ev_List, ev_Tuple, ev_Dict0, ev_Comp, ex_Pass, ex_Expr, ex_RetS, ex_RetN, ex_AName, ex_ATupN, ex_ATupC, ex_ASub, ex_If, ex_For, evs_0, evs_1, evOpt_0, evOpt_1, evBool_1, evBool_and, evBool_or, tst_Not, tst_Bool, tst_Cmp, tst_Name, tst_Call, tst_Sub, tst_Const, tstAll_0a, tstAll_0o, tstAll_1a, tstAll_1o, evCmp_1, evCmp_2, evIfs_0, evIfs_1, bindRho, List.map_cons, List.map_nil, List.lookup_cons, List.lookup_nil, ofString_beq, ofString_inj, ofString_bne, upd, isLoc, String.reduceBEq, String.reduceEq, String.reduceBNe, String.reduceNe, ↓reduceIte, true_and, and_true, cxOf_gl, cxOf_call, cxOf_calm, cxOf_hush, cxOf_pull, cxOf_exc, g07, gl07, deq_int, deq_bool, itemsOf_rng, Option.map_some, fewArgs, bo_add, bo_sub, bo_mul, bo_div, bo_mod, bo_pow, uo_neg, uo_not, tr_none, tr_bool, tr_int, su_tup, su_scr, cv_fn, cv_cls, cv_blt, cv_typ, cb_lenT, cb_lenS, cb_isi, ii_intI, ii_boolI, ii_tupI, ii_intB, ii_boolB, ii_tupB, ii_intT, ii_boolT, ii_tupT, ct_rng1, co_lt, co_le, co_gt, co_ge, co_eq, co_ne, co_in, co_ni, lateM_set, plainBase, bindT_name, bindT_pair, List.length_nil, List.length_cons, Nat.reduceLT, Nat.reduceAdd, decide_true, decide_false, Bool.and_true, Bool.true_and, Bool.and_self, decide_eq_true_eq, decide_eq_false_iff_not, Bool.true_eq_false, Bool.false_eq_true, false_implies, forall_const, true_implies, beq_self_eq_true, Bool.or_true, Bool.true_or, Bool.or_false, Bool.false_or, bne_self_eq_false, set_self, compRho, Bool.not_true, Bool.not_false, Int.zero_add]
    simp only [r2, e]
    rw [cb_sort (set_self _ _ _), pairsV_length, List.take_length]
    have hs : sortable (tripsV (dueL ps)) := trips_sortable _
    refine ⟨⟨hs, by rw [tripsV_length]; exact h64⟩, fun c' hc' => h c' _ ?_ ?_ (set_self _ _ _)⟩
    · have hne : c' ≠ c := by rintro rfl; rw [set_self] at hc'; cases hc'
      rw [set_ne _ _ hne] at hc'; exact hc'
    · exact ((Ext.refl σ).set hc0).set hc'
theorem s7_gaps {d : Nat} {Q : VPost} {p : Addr} {ps : List (Int × Int)} (hd : 1 ≤ d) (hp : σ p = some (.list (pairsV ps))) (hl : ps.length ≤ 100) (h64 : (gapsL (ps.foldl addD [])).length < 64)
    (h : ∀ c σ', σ c = none → Ext σ σ' → σ' c = some (.list (sortV (tripsV (gapsL (ps.foldl addD []))))) → Q (.ref c) σ') :
    LCall PySem.Challenge.pw_uf050028_07 w F B d true (.top "gaps") [.ref p] σ Q X := by
  refine U.run 30 hc hm (by lia) (by decide) (ps := _ :: _) (b := _ :: _) (sc := _) (by with_unfolding_all rfl) rfl ?_
  simp (config := { maxSteps := 10000000 }) only [exs_0, exs_1, ev_int, ev_bool, ev_none, ev_str, ev_Name, ev_BinOp, ev_UnaryOp, ev_BoolOp, ev_Compare, ev_CallA, ev_CallN, ev_Slice, ev_SubN, ev_SubC, ev_SubB, ev_SubU, ev_SubF, ev_SubS, ev_SubT, ev_SubA, ev_List, ev_Tuple, ev_Dict0, ev_Comp, ex_Pass, ex_Expr, ex_RetS, ex_RetN, ex_AName, ex_ATupN, ex_ATupC, ex_ASub, ex_If, ex_For, evs_0, evs_1, evOpt_0, evOpt_1, evBool_1, evBool_and, evBool_or, tst_Not, tst_Bool, tst_Cmp, tst_Name, tst_Call, tst_Sub, tst_Const, tstAll_0a, tstAll_0o, tstAll_1a, tstAll_1o, evCmp_1, evCmp_2, evIfs_0, evIfs_1, bindRho, List.map_cons, List.map_nil, List.lookup_cons, List.lookup_nil, ofString_beq, ofString_inj, ofString_bne, upd, isLoc, String.reduceBEq, String.reduceEq, String.reduceBNe, String.reduceNe, ↓reduceIte, true_and, and_true, cxOf_gl, cxOf_call, cxOf_calm, cxOf_hush, cxOf_pull, cxOf_exc, g07, gl07, deq_int, deq_bool, itemsOf_rng, Option.map_some, fewArgs, bo_add, bo_sub, bo_mul, bo_div, bo_mod, bo_pow, uo_neg, uo_not, tr_none, tr_bool, tr_int, su_tup, su_scr, cv_fn, cv_cls, cv_blt, cv_typ, cb_lenT, cb_lenS, cb_isi, ii_intI, ii_boolI, ii_tupI, ii_intB, ii_boolB, ii_tupB, ii_intT, ii_boolT, ii_tupT, ct_rng1, co_lt, co_le, co_gt, co_ge, co_eq, co_ne, co_in, co_ni, lateM_set, plainBase, bindT_name, bindT_pair, List.length_nil, List.length_cons, Nat.reduceLT, Nat.reduceAdd, decide_true, decide_false, Bool.and_true, Bool.true_and, Bool.and_self, decide_eq_true_eq, decide_eq_false_iff_not, Bool.true_eq_false, Bool.false_eq_true, false_implies, forall_const, true_implies, beq_self_eq_true, Bool.or_true, Bool.true_or, Bool.or_false, Bool.false_or, bne_self_eq_false, set_self, compRho, Bool.not_true, Bool.not_false, Int.zero_add]
  intro t ht b hb
  have hcap : cap = 1000000 := rfl
  have hbt : b ≠ t := by rintro rfl; rw [set_self] at hb; cases hb
  have hb0 : σ b = none := by rw [set_ne _ _ hbt] at hb; exact hb
  have hpt : p ≠ t := by rintro rfl; rw [hp] at ht; cases ht
  have hpb : p ≠ b := by rintro rfl; rw [hp] at hb0; cases hb0
  rw [forV_list (xs := pairsV ps) (by rw [set_ne _ _ hpb, set_ne _ _ hpt]; exact hp)]
  simp (config := { maxSteps := 10000000 }) only [exs_0, exs_1, ev_int, ev_bool, ev_none, ev_str, ev_Name, ev_BinOp, ev_UnaryOp, ev_BoolOp, ev_Compare, ev_CallA, ev_CallN, ev_Slice, ev_SubN, ev_SubC, ev_SubB, ev_SubU, ev_SubF, ev_SubS, ev_SubT, ev_SubA, ev_List, ev_Tuple, ev_Dict0, ev_Comp, ex_Pass, ex_Expr, ex_RetS, ex_RetN, ex_AName, ex_ATupN, ex_ATupC, ex_ASub, ex_If, ex_For, evs_0, evs_1, evOpt_0, evOpt_1, evBool_1, evBool_and, evBool_or, tst_Not, tst_Bool, tst_Cmp, tst_Name, tst_Call, tst_Sub, tst_Const, tstAll_0a, tstAll_0o, tstAll_1a, tstAll_1o, evCmp_1, evCmp_2, evIfs_0, evIfs_1, bindRho, List.map_cons, List.map_nil, List.lookup_cons, List.lookup_nil, ofString_beq, ofString_inj, ofString_bne, upd, isLoc, String.reduceBEq, String.reduceEq, String.reduceBNe, String.reduceNe, ↓reduceIte, true_and, and_true, cxOf_gl, cxOf_call, cxOf_calm, cxOf_hush, cxOf_pull, cxOf_exc, g07, gl07, deq_int, deq_bool, itemsOf_rng, Option.map_some, fewArgs, bo_add, bo_sub, bo_mul, bo_div, bo_mod, bo_pow, uo_neg, uo_not, tr_none, tr_bool, tr_int, su_tup, su_scr, cv_fn, cv_cls, cv_blt, cv_typ, cb_lenT, cb_lenS, cb_isi, ii_intI, ii_boolI, ii_tupI, ii_intB, ii_boolB, ii_tupB, ii_intT, ii_boolT, ii_tupT, ct_rng1, co_lt, co_le, co_gt, co_ge, co_eq, co_ne, co_in, co_ni, lateM_set, plainBase, bindT_name, bindT_pair, List.length_nil, List.length_cons, Nat.reduceLT, Nat.reduceAdd, decide_true, decide_false, Bool.and_true, Bool.true_and, Bool.and_self, decide_eq_true_eq, decide_eq_false_iff_not, Bool.true_eq_false, Bool.false_eq_true, false_implies, forall_const, true_implies, beq_self_eq_true, Bool.or_true, Bool.true_or, Bool.or_false, Bool.false_or, bne_self_eq_false, set_self, compRho, Bool.not_true, Bool.not_false, Int.zero_add]
  refine forLoop_inv (fun i ρ' σ' => ρ' "arrows" = some (.ref p) ∧ ρ' "there" = some (.ref t) ∧ ρ' "behind" = some (.ref b) ∧ Ext σ σ' ∧ σ' t = some (.dictP (setP ((ps.take i).foldl addD []))) ∧
    ∃ L, σ' b = some (behObj L) ∧ BehOk σ σ' L ((ps.take i).foldl addD []) t b) ⟨by simp (config := { maxSteps := 10000000 }) only [exs_0, exs_1, ev_int, ev_bool, ev_none, ev_str, ev_Name, ev_BinOp, ev_UnaryOp, ev_BoolOp, ev_Compare, ev_CallA, ev_CallN, ev_Slice, ev_SubN, ev_SubC, ev_SubB, ev_SubU, ev_SubF, ev_SubS, ev_SubT, ev_SubA, ev_List, ev_Tuple, ev_Dict0, ev_Comp, ex_Pass, ex_Expr, ex_RetS, ex_RetN, ex_AName, ex_ATupN, ex_ATupC, ex_ASub, ex_If, ex_For, evs_0, evs_1, evOpt_0, evOpt_1, evBool_1, evBool_and, evBool_or, tst_Not, tst_Bool, tst_Cmp, tst_Name, tst_Call, tst_Sub, tst_Const, tstAll_0a, tstAll_0o, tstAll_1a, tstAll_1o, evCmp_1, evCmp_2, evIfs_0, evIfs_1, bindRho, List.map_cons, List.map_nil, List.lookup_cons, List.lookup_nil, ofString_beq, ofString_inj, ofString_bne, upd, isLoc, String.reduceBEq, String.reduceEq, String.reduceBNe, String.reduceNe, ↓reduceIte, true_and, and_true, cxOf_gl, cxOf_call, cxOf_calm, cxOf_hush, cxOf_pull, cxOf_exc, g07, gl07, deq_int, deq_bool, itemsOf_rng, Option.map_some, fewArgs, bo_add, bo_sub, bo_mul, bo_div, bo_mod, bo_pow, uo_neg, uo_not, tr_none, tr_bool, tr_int, su_tup, su_scr, cv_fn, cv_cls, cv_blt, cv_typ, cb_lenT, cb_lenS, cb_isi, ii_intI, ii_boolI, ii_tupI, ii_intB, ii_boolB, ii_tupB, ii_intT, ii_boolT, ii_tupT, ct_rng1, co_lt, co_le, co_gt, co_ge, co_eq, co_ne, co_in, co_ni, lateM_set, plainBase, bindT_name, bindT_pair, List.length_nil, List.length_cons, Nat.reduceLT, Nat.reduceAdd, decide_true, decide_false, Bool.and_true, Bool.true_and, Bool.and_self, decide_eq_true_eq, decide_eq_false_iff_not, Bool.true_eq_false, Bool.false_eq_true, false_implies, forall_const, true_implies, beq_self_eq_true, Bool.or_true, Bool.true_or, Bool.or_false, Bool.false_or, bne_self_eq_false, set_self, compRho, Bool.not_true, Bool.not_false, Int.zero_add], by simp (config := { maxSteps := 10000000 }) only [exs_0, exs_1, ev_int, ev_bool, ev_none, ev_str, ev_Name, ev_BinOp, ev_UnaryOp, ev_BoolOp, ev_Compare, ev_CallA, ev_CallN, ev_Slice, ev_SubN, ev_SubC, ev_SubB, ev_SubU, ev_SubF, ev_SubS, ev_SubT, ev_SubA, ev_List, ev_Tuple, ev_Dict0, ev_Comp, ex_Pass, ex_Expr, ex_RetS, ex_RetN, ex_AName, ex_ATupN, ex_ATupC, ex_ASub, ex_If, ex_For, evs_0, evs_1, evOpt_0, evOpt_1, evBool_1, evBool_and, evBool_or, tst_Not, tst_Bool, tst_Cmp, tst_Name, tst_Call, tst_Sub, tst_Const, tstAll_0a, tstAll_0o, tstAll_1a, tstAll_1o, evCmp_1, evCmp_2, evIfs_0, evIfs_1, bindRho, List.map_cons, List.map_nil, List.lookup_cons, List.lookup_nil, ofString_beq, ofString_inj, ofString_bne, upd, isLoc, String.reduceBEq, String.reduceEq, String.reduceBNe, String.reduceNe, ↓reduceIte, true_and, and_true, cxOf_gl, cxOf_call, cxOf_calm, cxOf_hush, cxOf_pull, cxOf_exc, g07, gl07, deq_int, deq_bool, itemsOf_rng, Option.map_some, fewArgs, bo_add, bo_sub, bo_mul, bo_div, bo_mod, bo_pow, uo_neg, uo_not, tr_none, tr_bool, tr_int, su_tup, su_scr, cv_fn, cv_cls, cv_blt, cv_typ, cb_lenT, cb_lenS, cb_isi, ii_intI, ii_boolI, ii_tupI, ii_intB, ii_boolB, ii_tupB, ii_intT, ii_boolT, ii_tupT, ct_rng1, co_lt, co_le, co_gt, co_ge, co_eq, co_ne, co_in, co_ni, lateM_set, plainBase, bindT_name, bindT_pair, List.length_nil, List.length_cons, Nat.reduceLT, Nat.reduceAdd, decide_true, decide_false, Bool.and_true, Bool.true_and, Bool.and_self, decide_eq_true_eq, decide_eq_false_iff_not, Bool.true_eq_false, Bool.false_eq_true, false_implies, forall_const, true_implies, beq_self_eq_true, Bool.or_true, Bool.true_or, Bool.or_false, Bool.false_or, bne_self_eq_false, set_self, compRho, Bool.not_true, Bool.not_false, Int.zero_add], by simp (config := { maxSteps := 10000000 }) only [exs_0, exs_1, ev_int, ev_bool, ev_none, ev_str, ev_Name, ev_BinOp, ev_UnaryOp, ev_BoolOp, ev_Compare, ev_CallA, ev_CallN, ev_Slice, ev_SubN, ev_SubC, ev_SubB, ev_SubU, ev_SubF, ev_SubS, ev_SubT, ev_SubA, ev_List, ev_Tuple, ev_Dict0, ev_Comp, ex_Pass, ex_Expr, ex_RetS, ex_RetN, ex_AName, ex_ATupN, ex_ATupC, ex_ASub, ex_If, ex_For, evs_0, evs_1, evOpt_0, evOpt_1, evBool_1, evBool_and, evBool_or, tst_Not, tst_Bool, tst_Cmp, tst_Name, tst_Call, tst_Sub, tst_Const, tstAll_0a, tstAll_0o, tstAll_1a, tstAll_1o, evCmp_1, evCmp_2, evIfs_0, evIfs_1, bindRho, List.map_cons, List.map_nil, List.lookup_cons, List.lookup_nil, ofString_beq, ofString_inj, ofString_bne, upd, isLoc, String.reduceBEq, String.reduceEq, String.reduceBNe, String.reduceNe, ↓reduceIte, true_and, and_true, cxOf_gl, cxOf_call, cxOf_calm, cxOf_hush, cxOf_pull, cxOf_exc, g07, gl07, deq_int, deq_bool, itemsOf_rng, Option.map_some, fewArgs, bo_add, bo_sub, bo_mul, bo_div, bo_mod, bo_pow, uo_neg, uo_not, tr_none, tr_bool, tr_int, su_tup, su_scr, cv_fn, cv_cls, cv_blt, cv_typ, cb_lenT, cb_lenS, cb_isi, ii_intI, ii_boolI, ii_tupI, ii_intB, ii_boolB, ii_tupB, ii_intT, ii_boolT, ii_tupT, ct_rng1, co_lt, co_le, co_gt, co_ge, co_eq, co_ne, co_in, co_ni, lateM_set, plainBase, bindT_name, bindT_pair, List.length_nil, List.length_cons, Nat.reduceLT, Nat.reduceAdd, decide_true, decide_false, Bool.and_true, Bool.true_and, Bool.and_self, decide_eq_true_eq, decide_eq_false_iff_not, Bool.true_eq_false, Bool.false_eq_true, false_implies, forall_const, true_implies, beq_self_eq_true, Bool.or_true, Bool.true_or, Bool.or_false, Bool.false_or, bne_self_eq_false, set_self, compRho, Bool.not_true, Bool.not_false, Int.zero_add], ((Ext.refl σ).set ht).set (by rw [set_ne _ _ hbt]; exact hb0), ?_, [], ?_, ?_⟩ (fun i x ρ' σ' K hx ⟨r1, r2, r3, hE, e1, L, e2, hL⟩ hK _ => ?_) (fun ρ' σ' ⟨r1, r2, r3, hE, e1, L, e2, hL⟩ => ?_)
  · rw [set_ne _ _ (Ne.symm hbt), set_self]; rfl
  · rw [set_self]; rfl
  · exact ⟨fun k a e => (by cases e), fun k _ => rfl, fun k k' a e => (by cases e), by simp⟩
  · obtain ⟨a, ha, rfl⟩ := pairsV_get hx
    have hDl := addDs_len (ps.take i) []
    have hi : (ps.take i).length ≤ 100 := by simp; lia
    simp only [List.length_nil, Nat.zero_add] at hDl
    rw [foldl_take_succ _ _ ha] at hK
    generalize hD : (ps.take i).foldl addD [] = D at *
    have hpp := hE p _ hp
    have fin : ∀ ρ₁ σ₁, ρ₁ "arrows" = some (.ref p) → ρ₁ "there" = some (.ref t) → ρ₁ "behind" = some (.ref b) → Ext σ σ₁ → σ₁ t = some (.dictP (setP (addD D a))) → (∃ L, σ₁ b = some (behObj L) ∧ BehOk σ σ₁ L (addD D a) t b) → K .next ρ₁ σ₁ :=
      fun ρ₁ σ₁ s1 s2 s3 s4 s5 s6 => hK ρ₁ σ₁ (by simp only [still]; rw [set_ne _ _ hpb, set_ne _ _ hpt, hp]; exact s4 p _ hp) ⟨s1, s2, s3, s4, s5, s6⟩
    simp only [forStep, lateX]
    simp (config := { maxSteps := 10000000 }) only [exs_0, exs_1, ev_int, ev_bool, ev_none, ev_str, ev_Name, ev_BinOp, ev_UnaryOp, ev_BoolOp, ev_Compare, ev_CallA, ev_CallN, ev_Slice, ev_SubN, ev_SubC, ev_SubB, ev_SubU, ev_SubF, ev_SubS, ev_SubT, ev_SubA, ev_List, ev_Tuple, ev_Dict0, ev_Comp, ex_Pass, ex_Expr, ex_RetS, ex_RetN, ex_AName, ex_ATupN, ex_ATupC, ex_ASub, ex_If, ex_For, evs_0, evs_1, evOpt_0, evOpt_1, evBool_1, evBool_and, evBool_or, tst_Not, tst_Bool, tst_Cmp, tst_Name, tst_Call, tst_Sub, tst_Const, tstAll_0a, tstAll_0o, tstAll_1a, tstAll_1o, evCmp_1, evCmp_2, evIfs_0, evIfs_1, bindRho, List.map_cons, List.map_nil, List.lookup_cons, List.lookup_nil, ofString_beq, ofString_inj, ofString_bne, upd, isLoc, String.reduceBEq, String.reduceEq, String.reduceBNe, String.reduceNe, ↓reduceIte, true_and, and_true, cxOf_gl, cxOf_call, cxOf_calm, cxOf_hush, cxOf_pull, cxOf_exc, g07, gl07, deq_int, deq_bool, itemsOf_rng, Option.map_some, fewArgs, bo_add, bo_sub, bo_mul, bo_div, bo_mod, bo_pow, uo_neg, uo_not, tr_none, tr_bool, tr_int, su_tup, su_scr, cv_fn, cv_cls, cv_blt, cv_typ, cb_lenT, cb_lenS, cb_isi, ii_intI, ii_boolI, ii_tupI, ii_intB, ii_boolB, ii_tupB, ii_intT, ii_boolT, ii_tupT, ct_rng1, co_lt, co_le, co_gt, co_ge, co_eq, co_ne, co_in, co_ni, lateM_set, plainBase, bindT_name, bindT_pair, List.length_nil, List.length_cons, Nat.reduceLT, Nat.reduceAdd, decide_true, decide_false, Bool.and_true, Bool.true_and, Bool.and_self, decide_eq_true_eq, decide_eq_false_iff_not, Bool.true_eq_false, Bool.false_eq_true, false_implies, forall_const, true_implies, beq_self_eq_true, Bool.or_true, Bool.true_or, Bool.or_false, Bool.false_or, bne_self_eq_false, set_self, compRho, Bool.not_true, Bool.not_false, Int.zero_add]
    simp only [r2, r3]
    try simp (config := { maxSteps := 10000000 }) only [exs_0, exs_1, ev_int, ev_bool, ev_none, ev_str, ev_Name, ev_BinOp, ev_UnaryOp, ev_BoolOp, ev_Compare, ev_CallA, ev_CallN, ev_Slice, ev_SubN, ev_SubC, ev_SubB, ev_SubU, ev_SubF, ev_SubS, ev_SubT, ev_SubA, ev_List, ev_Tuple, ev_Dict0, ev_Comp, ex_Pass, ex_Expr, ex_RetS, ex_RetN, ex_AName, ex_ATupN, ex_ATupC, ex_ASub, ex_If, ex_For, evs_0, evs_1, evOpt_0, evOpt_1, evBool_1, evBool_and, evBool_or, tst_Not, tst_Bool, tst_Cmp, tst_Name, tst_Call, tst_Sub, tst_Const, tstAll_0a, tstAll_0o, tstAll_1a, tstAll_1o, evCmp_1, evCmp_2, evIfs_0, evIfs_1, bindRho, List.map_cons, List.map_nil, List.lookup_cons, List.lookup_nil, ofString_beq, ofString_inj, ofString_bne, upd, isLoc, String.reduceBEq, String.reduceEq, String.reduceBNe, String.reduceNe, ↓reduceIte, true_and, and_true, cxOf_gl, cxOf_call, cxOf_calm, cxOf_hush, cxOf_pull, cxOf_exc, g07, gl07, deq_int, deq_bool, itemsOf_rng, Option.map_some, fewArgs, bo_add, bo_sub, bo_mul, bo_div, bo_mod, bo_pow, uo_neg, uo_not, tr_none, tr_bool, tr_int, su_tup, su_scr, cv_fn, cv_cls, cv_blt, cv_typ, cb_lenT, cb_lenS, cb_isi, ii_intI, ii_boolI, ii_tupI, ii_intB, ii_boolB, ii_tupB, ii_intT, ii_boolT, ii_tupT, ct_rng1, co_lt, co_le, co_gt, co_ge, co_eq, co_ne, co_in, co_ni, lateM_set, plainBase, bindT_name, bindT_pair, List.length_nil, List.length_cons, Nat.reduceLT, Nat.reduceAdd, decide_true, decide_false, Bool.and_true, Bool.true_and, Bool.and_self, decide_eq_true_eq, decide_eq_false_iff_not, Bool.true_eq_false, Bool.false_eq_true, false_implies, forall_const, true_implies, beq_self_eq_true, Bool.or_true, Bool.true_or, Bool.or_false, Bool.false_or, bne_self_eq_false, set_self, compRho, Bool.not_true, Bool.not_false, Int.zero_add]
    rw [mem_setP e1]
    simp only [Option.map_some, Bool.not_eq_true', decide_eq_false_iff_not, Bool.not_eq_false', decide_eq_true_eq]
    refine ⟨fun hin => ?_, fun hin => fin _ _ ?_ ?_ ?_ hE ?_ ⟨L, e2, ?_⟩⟩
    · rw [setitem_P e1 hin]
      refine ⟨by lia, ?_⟩
      have e2' : (σ'.set t (.dictP (setP (D ++ [(a.1, a.2)])))) b = some (behObj L) := by rw [set_ne _ _ hbt]; exact e2
      rw [lateM_beh e2' (by decide)]
      simp (config := { maxSteps := 10000000 }) only [exs_0, exs_1, ev_int, ev_bool, ev_none, ev_str, ev_Name, ev_BinOp, ev_UnaryOp, ev_BoolOp, ev_Compare, ev_CallA, ev_CallN, ev_Slice, ev_SubN, ev_SubC, ev_SubB, ev_SubU, ev_SubF, ev_SubS, ev_SubT, ev_SubA, ev_List, ev_Tuple, ev_Dict0, ev_Comp, ex_Pass, ex_Expr, ex_RetS, ex_RetN, ex_AName, ex_ATupN, ex_ATupC, ex_ASub, ex_If, ex_For, evs_0, evs_1, evOpt_0, evOpt_1, evBool_1, evBool_and, evBool_or, tst_Not, tst_Bool, tst_Cmp, tst_Name, tst_Call, tst_Sub, tst_Const, tstAll_0a, tstAll_0o, tstAll_1a, tstAll_1o, evCmp_1, evCmp_2, evIfs_0, evIfs_1, bindRho, List.map_cons, List.map_nil, List.lookup_cons, List.lookup_nil, ofString_beq, ofString_inj, ofString_bne, upd, isLoc, String.reduceBEq, String.reduceEq, String.reduceBNe, String.reduceNe, ↓reduceIte, true_and, and_true, cxOf_gl, cxOf_call, cxOf_calm, cxOf_hush, cxOf_pull, cxOf_exc, g07, gl07, deq_int, deq_bool, itemsOf_rng, Option.map_some, fewArgs, bo_add, bo_sub, bo_mul, bo_div, bo_mod, bo_pow, uo_neg, uo_not, tr_none, tr_bool, tr_int, su_tup, su_scr, cv_fn, cv_cls, cv_blt, cv_typ, cb_lenT, cb_lenS, cb_isi, ii_intI, ii_boolI, ii_tupI, ii_intB, ii_boolB, ii_tupB, ii_intT, ii_boolT, ii_tupT, ct_rng1, co_lt, co_le, co_gt, co_ge, co_eq, co_ne, co_in, co_ni, lateM_set, plainBase, bindT_name, bindT_pair, List.length_nil, List.length_cons, Nat.reduceLT, Nat.reduceAdd, decide_true, decide_false, Bool.and_true, Bool.true_and, Bool.and_self, decide_eq_true_eq, decide_eq_false_iff_not, Bool.true_eq_false, Bool.false_eq_true, false_implies, forall_const, true_implies, beq_self_eq_true, Bool.or_true, Bool.true_or, Bool.or_false, Bool.false_or, bne_self_eq_false, set_self, compRho, Bool.not_true, Bool.not_false, Int.zero_add]
      intro c hc0
      have hct : c ≠ t := by rintro rfl; rw [set_self] at hc0; cases hc0
      have hcb : c ≠ b := by rintro rfl; rw [e2'] at hc0; cases hc0
      have hc1 : σ' c = none := by rw [set_ne _ _ hct] at hc0; exact hc0
      have hcs : σ c = none := by
        cases hs : σ c with
        | none => rfl
        | some o => rw [hE c o hs] at hc1; cases hc1
      rw [beh_setdefault (L := L) (by rw [set_ne _ _ (Ne.symm hcb)]; exact e2')]
      have hadd : addD D a = D ++ [(a.1, a.2)] := by unfold addD; rw [if_neg hin]
      cases hk : lookL a.1 L with
      | some q =>
        obtain ⟨g1, g2, g3, g4⟩ := hL.got _ _ hk
        have hqc : q ≠ c := by rintro rfl; rw [g1] at hc1; cases hc1
        dsimp only
        have gq : ((σ'.set t (.dictP (setP (D ++ [(a.1, a.2)])))).set c (.list [])) q = some (.list (ofInts (outs D a.1))) := by rw [set_ne _ _ hqc, set_ne _ _ g3]; exact g1
        rw [lateM_list gq (by decide)]
        simp (config := { maxSteps := 10000000 }) only [exs_0, exs_1, ev_int, ev_bool, ev_none, ev_str, ev_Name, ev_BinOp, ev_UnaryOp, ev_BoolOp, ev_Compare, ev_CallA, ev_CallN, ev_Slice, ev_SubN, ev_SubC, ev_SubB, ev_SubU, ev_SubF, ev_SubS, ev_SubT, ev_SubA, ev_List, ev_Tuple, ev_Dict0, ev_Comp, ex_Pass, ex_Expr, ex_RetS, ex_RetN, ex_AName, ex_ATupN, ex_ATupC, ex_ASub, ex_If, ex_For, evs_0, evs_1, evOpt_0, evOpt_1, evBool_1, evBool_and, evBool_or, tst_Not, tst_Bool, tst_Cmp, tst_Name, tst_Call, tst_Sub, tst_Const, tstAll_0a, tstAll_0o, tstAll_1a, tstAll_1o, evCmp_1, evCmp_2, evIfs_0, evIfs_1, bindRho, List.map_cons, List.map_nil, List.lookup_cons, List.lookup_nil, ofString_beq, ofString_inj, ofString_bne, upd, isLoc, String.reduceBEq, String.reduceEq, String.reduceBNe, String.reduceNe, ↓reduceIte, true_and, and_true, cxOf_gl, cxOf_call, cxOf_calm, cxOf_hush, cxOf_pull, cxOf_exc, g07, gl07, deq_int, deq_bool, itemsOf_rng, Option.map_some, fewArgs, bo_add, bo_sub, bo_mul, bo_div, bo_mod, bo_pow, uo_neg, uo_not, tr_none, tr_bool, tr_int, su_tup, su_scr, cv_fn, cv_cls, cv_blt, cv_typ, cb_lenT, cb_lenS, cb_isi, ii_intI, ii_boolI, ii_tupI, ii_intB, ii_boolB, ii_tupB, ii_intT, ii_boolT, ii_tupT, ct_rng1, co_lt, co_le, co_gt, co_ge, co_eq, co_ne, co_in, co_ni, lateM_set, plainBase, bindT_name, bindT_pair, List.length_nil, List.length_cons, Nat.reduceLT, Nat.reduceAdd, decide_true, decide_false, Bool.and_true, Bool.true_and, Bool.and_self, decide_eq_true_eq, decide_eq_false_iff_not, Bool.true_eq_false, Bool.false_eq_true, false_implies, forall_const, true_implies, beq_self_eq_true, Bool.or_true, Bool.true_or, Bool.or_false, Bool.false_or, bne_self_eq_false, set_self, compRho, Bool.not_true, Bool.not_false, Int.zero_add]
        rw [listMeth_append gq]
        have := outs_len D a.1
        refine ⟨by simp [ofInts]; lia, fin _ _ ?_ ?_ ?_ ?_ ?_ ⟨L, ?_, ?_⟩⟩
        all_goals first | (simp (config := { maxSteps := 10000000 }) only [exs_0, exs_1, ev_int, ev_bool, ev_none, ev_str, ev_Name, ev_BinOp, ev_UnaryOp, ev_BoolOp, ev_Compare, ev_CallA, ev_CallN, ev_Slice, ev_SubN, ev_SubC, ev_SubB, ev_SubU, ev_SubF, ev_SubS, ev_SubT, ev_SubA, ev_List, ev_Tuple, ev_Dict0, ev_Comp, ex_Pass, ex_Expr, ex_RetS, ex_RetN, ex_AName, ex_ATupN, ex_ATupC, ex_ASub, ex_If, ex_For, evs_0, evs_1, evOpt_0, evOpt_1, evBool_1, evBool_and, evBool_or, tst_Not, tst_Bool, tst_Cmp, tst_Name, tst_Call, tst_Sub, tst_Const, tstAll_0a, tstAll_0o, tstAll_1a, tstAll_1o, evCmp_1, evCmp_2, evIfs_0, evIfs_1, bindRho, List.map_cons, List.map_nil, List.lookup_cons, List.lookup_nil, ofString_beq, ofString_inj, ofString_bne, upd, isLoc, String.reduceBEq, String.reduceEq, String.reduceBNe, String.reduceNe, ↓reduceIte, true_and, and_true, cxOf_gl, cxOf_call, cxOf_calm, cxOf_hush, cxOf_pull, cxOf_exc, g07, gl07, deq_int, deq_bool, itemsOf_rng, Option.map_some, fewArgs, bo_add, bo_sub, bo_mul, bo_div, bo_mod, bo_pow, uo_neg, uo_not, tr_none, tr_bool, tr_int, su_tup, su_scr, cv_fn, cv_cls, cv_blt, cv_typ, cb_lenT, cb_lenS, cb_isi, ii_intI, ii_boolI, ii_tupI, ii_intB, ii_boolB, ii_tupB, ii_intT, ii_boolT, ii_tupT, ct_rng1, co_lt, co_le, co_gt, co_ge, co_eq, co_ne, co_in, co_ni, lateM_set, plainBase, bindT_name, bindT_pair, List.length_nil, List.length_cons, Nat.reduceLT, Nat.reduceAdd, decide_true, decide_false, Bool.and_true, Bool.true_and, Bool.and_self, decide_eq_true_eq, decide_eq_false_iff_not, Bool.true_eq_false, Bool.false_eq_true, false_implies, forall_const, true_implies, beq_self_eq_true, Bool.or_true, Bool.true_or, Bool.or_false, Bool.false_or, bne_self_eq_false, set_self, compRho, Bool.not_true, Bool.not_false, Int.zero_add]; assumption) | skip
        · exact ((hE.upd ht).upd hcs).upd g2
        · rw [set_ne _ _ (Ne.symm g3), set_ne _ _ (Ne.symm hct), set_self, hadd]
        · rw [set_ne _ _ (Ne.symm g4), set_ne _ _ (Ne.symm hcb), set_ne _ _ hbt]; exact e2
        · rw [hadd]
          refine ⟨fun k q' hq' => ?_, fun k hk' => ?_, hL.inj, by have := hL.len; simp; lia⟩
          · obtain ⟨f1, f2, f3, f4⟩ := hL.got _ _ hq'
            refine ⟨?_, f2, f3, f4⟩
            rw [outs_snoc]
            by_cases hka : a.1 = k
            · subst hka; rw [hk] at hq'; cases hq'
              rw [set_self, if_pos rfl]; simp [ofInts]
            · rw [if_neg hka, set_ne _ _ (by rintro rfl; exact hka (hL.inj _ _ _ hk hq')), set_ne _ _ (by rintro rfl; rw [f1] at hc1; cases hc1), set_ne _ _ f3]; exact f1
          · rw [outs_snoc, if_neg (by rintro rfl; rw [hk] at hk'; cases hk')]; exact hL.out _ hk'
      | none =>
        dsimp only
        refine ⟨by have := hL.len; lia, ?_⟩
        have gq : (((σ'.set t (.dictP (setP (D ++ [(a.1, a.2)])))).set c (.list [])).set b (behObj (L ++ [(a.1, c)]))) c = some (.list []) := by rw [set_ne _ _ hcb, set_self]
        rw [lateM_list gq (by decide)]
        simp (config := { maxSteps := 10000000 }) only [exs_0, exs_1, ev_int, ev_bool, ev_none, ev_str, ev_Name, ev_BinOp, ev_UnaryOp, ev_BoolOp, ev_Compare, ev_CallA, ev_CallN, ev_Slice, ev_SubN, ev_SubC, ev_SubB, ev_SubU, ev_SubF, ev_SubS, ev_SubT, ev_SubA, ev_List, ev_Tuple, ev_Dict0, ev_Comp, ex_Pass, ex_Expr, ex_RetS, ex_RetN, ex_AName, ex_ATupN, ex_ATupC, ex_ASub, ex_If, ex_For, evs_0, evs_1, evOpt_0, evOpt_1, evBool_1, evBool_and, evBool_or, tst_Not, tst_Bool, tst_Cmp, tst_Name, tst_Call, tst_Sub, tst_Const, tstAll_0a, tstAll_0o, tstAll_1a, tstAll_1o, evCmp_1, evCmp_2, evIfs_0, evIfs_1, bindRho, List.map_cons, List.map_nil, List.lookup_cons, List.lookup_nil, ofString_beq, ofString_inj, ofString_bne, upd, isLoc, String.reduceBEq, String.reduceEq, String.reduceBNe, String.reduceNe, ↓reduceIte, true_and, and_true, cxOf_gl, cxOf_call, cxOf_calm, cxOf_hush, cxOf_pull, cxOf_exc, g07, gl07, deq_int, deq_bool, itemsOf_rng, Option.map_some, fewArgs, bo_add, bo_sub, bo_mul, bo_div, bo_mod, bo_pow, uo_neg, uo_not, tr_none, tr_bool, tr_int, su_tup, su_scr, cv_fn, cv_cls, cv_blt, cv_typ, cb_lenT, cb_lenS, cb_isi, ii_intI, ii_boolI, ii_tupI, ii_intB, ii_boolB, ii_tupB, ii_intT, ii_boolT, ii_tupT, ct_rng1, co_lt, co_le, co_gt, co_ge, co_eq, co_ne, co_in, co_ni, lateM_set, plainBase, bindT_name, bindT_pair, List.length_nil, List.length_cons, Nat.reduceLT, Nat.reduceAdd, decide_true, decide_false, Bool.and_true, Bool.true_and, Bool.and_self, decide_eq_true_eq, decide_eq_false_iff_not, Bool.true_eq_false, Bool.false_eq_true, false_implies, forall_const, true_implies, beq_self_eq_true, Bool.or_true, Bool.true_or, Bool.or_false, Bool.false_or, bne_self_eq_false, set_self, compRho, Bool.not_true, Bool.not_false, Int.zero_add]
        rw [listMeth_append gq]
        refine ⟨by simp [cap], fin _ _ ?_ ?_ ?_ ?_ ?_ ⟨L ++ [(a.1, c)], ?_, ?_⟩⟩
        all_goals first | (simp (config := { maxSteps := 10000000 }) only [exs_0, exs_1, ev_int, ev_bool, ev_none, ev_str, ev_Name, ev_BinOp, ev_UnaryOp, ev_BoolOp, ev_Compare, ev_CallA, ev_CallN, ev_Slice, ev_SubN, ev_SubC, ev_SubB, ev_SubU, ev_SubF, ev_SubS, ev_SubT, ev_SubA, ev_List, ev_Tuple, ev_Dict0, ev_Comp, ex_Pass, ex_Expr, ex_RetS, ex_RetN, ex_AName, ex_ATupN, ex_ATupC, ex_ASub, ex_If, ex_For, evs_0, evs_1, evOpt_0, evOpt_1, evBool_1, evBool_and, evBool_or, tst_Not, tst_Bool, tst_Cmp, tst_Name, tst_Call, tst_Sub, tst_Const, tstAll_0a, tstAll_0o, tstAll_1a, tstAll_1o, evCmp_1, evCmp_2, evIfs_0, evIfs_1, bindRho, List.map_cons, List.map_nil, List.lookup_cons, List.lookup_nil, ofString_beq, ofString_inj, ofString_bne, upd, isLoc, String.reduceBEq, String.reduceEq, String.reduceBNe, String.reduceNe, ↓reduceIte, true_and, and_true, cxOf_gl, cxOf_call, cxOf_calm, cxOf_hush, cxOf_pull, cxOf_exc, g07, gl07, deq_int, deq_bool, itemsOf_rng, Option.map_some, fewArgs, bo_add, bo_sub, bo_mul, bo_div, bo_mod, bo_pow, uo_neg, uo_not, tr_none, tr_bool, tr_int, su_tup, su_scr, cv_fn, cv_cls, cv_blt, cv_typ, cb_lenT, cb_lenS, cb_isi, ii_intI, ii_boolI, ii_tupI, ii_intB, ii_boolB, ii_tupB, ii_intT, ii_boolT, ii_tupT, ct_rng1, co_lt, co_le, co_gt, co_ge, co_eq, co_ne, co_in, co_ni, lateM_set, plainBase, bindT_name, bindT_pair, List.length_nil, List.length_cons, Nat.reduceLT, Nat.reduceAdd, decide_true, decide_false, Bool.and_true, Bool.true_and, Bool.and_self, decide_eq_true_eq, decide_eq_false_iff_not, Bool.true_eq_false, Bool.false_eq_true, false_implies, forall_const, true_implies, beq_self_eq_true, Bool.or_true, Bool.true_or, Bool.or_false, Bool.false_or, bne_self_eq_false, set_self, compRho, Bool.not_true, Bool.not_false, Int.zero_add]; assumption) | skip
        · exact (((hE.upd ht).upd hcs).upd hb0).upd hcs
        · rw [set_ne _ _ (Ne.symm hct), set_ne _ _ (Ne.symm hbt), set_ne _ _ (Ne.symm hct), set_self, hadd]
        · rw [set_ne _ _ (Ne.symm hcb), set_self]
        · rw [hadd]
          have new : ∀ k q', lookL k L = some q' → q' ≠ c := by rintro k q' e rfl; rw [(hL.got _ _ e).1] at hc1; cases hc1
          refine ⟨fun k q' hq' => ?_, fun k hk' => ?_, fun k k' q' h1 h2 => ?_, by have := hL.len; simp; lia⟩
          · rw [lookL_snoc] at hq'
            rw [outs_snoc]
            cases hkk : lookL k L with
            | some q =>
              rw [hkk] at hq'; cases hq'
              obtain ⟨f1, f2, f3, f4⟩ := hL.got _ _ hkk
              have hka : a.1 ≠ k := by rintro rfl; rw [hk] at hkk; cases hkk
              refine ⟨?_, f2, f3, f4⟩
              rw [if_neg hka, set_ne _ _ (new _ _ hkk), set_ne _ _ f4, set_ne _ _ (new _ _ hkk), set_ne _ _ f3]; exact f1
            | none =>
              rw [hkk] at hq'
              dsimp only at hq'
              split at hq'
              · rename_i hka; cases hq'; subst hka
                refine ⟨?_, hcs, hct, hcb⟩
                rw [if_pos rfl, set_self, hL.out _ hk]; rfl
              · cases hq'
          · rw [lookL_snoc] at hk'
            rw [outs_snoc]
            cases hkk : lookL k L with
            | some q => rw [hkk] at hk'; cases hk'
            | none =>
              rw [hkk] at hk'
              dsimp only at hk'
              split at hk'
              · cases hk'
              · rename_i hka; rw [if_neg hka]; exact hL.out _ hkk
          · rw [lookL_snoc] at h1 h2
            cases g1 : lookL k L with
            | some q =>
              rw [g1] at h1; cases h1
              cases g2 : lookL k' L with
              | some q2 => rw [g2] at h2; cases h2; exact hL.inj _ _ _ g1 g2
              | none =>
                rw [g2] at h2; dsimp only at h2
                split at h2
                · cases h2; exact absurd rfl (new _ _ g1)
                · cases h2
            | none =>
              rw [g1] at h1; dsimp only at h1
              split at h1
              · rename_i hka; cases h1
                cases g2 : lookL k' L with
                | some q2 => rw [g2] at h2; cases h2; exact absurd rfl (new _ _ g2)
                | none =>
                  rw [g2] at h2; dsimp only at h2
                  split at h2
                  · rename_i hkb; rw [← hka, ← hkb]
                  · cases h2
              · cases h1
    all_goals first | (simp (config := { maxSteps := 10000000 }) only [exs_0, exs_1, ev_int, ev_bool, ev_none, ev_str, ev_Name, ev_BinOp, ev_UnaryOp, ev_BoolOp, ev_Compare, ev_CallA, ev_CallN, ev_Slice, ev_SubN, ev_SubC, ev_SubB, ev_SubU, ev_SubF, ev_SubS, ev_SubT, ev_SubA, ev_List, ev_Tuple, ev_Dict0, ev_Comp, ex_Pass, ex_Expr, ex_RetS, ex_RetN, ex_AName, ex_ATupN, ex_ATupC, ex_ASub, ex_If, ex_For, evs_0, evs_1, evOpt_0, evOpt_1, evBool_1, evBool_and, evBool_or, tst_Not, tst_Bool, tst_Cmp, tst_Name, tst_Call, tst_Sub, tst_Const, tstAll_0a, tstAll_0o, tstAll_1a, tstAll_1o, evCmp_1, evCmp_2, evIfs_0, evIfs_1, bindRho, List.map_cons, List.map_nil, List.lookup_cons, List.lookup_nil, ofString_beq, ofString_inj, ofString_bne, upd, isLoc, String.reduceBEq, String.reduceEq, String.reduceBNe, String.reduceNe, ↓reduceIte, true_and, and_true, cxOf_gl, cxOf_call, cxOf_calm, cxOf_hush, cxOf_pull, cxOf_exc, g07, gl07, deq_int, deq_bool, itemsOf_rng, Option.map_some, fewArgs, bo_add, bo_sub, bo_mul, bo_div, bo_mod, bo_pow, uo_neg, uo_not, tr_none, tr_bool, tr_int, su_tup, su_scr, cv_fn, cv_cls, cv_blt, cv_typ, cb_lenT, cb_lenS, cb_isi, ii_intI, ii_boolI, ii_tupI, ii_intB, ii_boolB, ii_tupB, ii_intT, ii_boolT, ii_tupT, ct_rng1, co_lt, co_le, co_gt, co_ge, co_eq, co_ne, co_in, co_ni, lateM_set, plainBase, bindT_name, bindT_pair, List.length_nil, List.length_cons, Nat.reduceLT, Nat.reduceAdd, decide_true, decide_false, Bool.and_true, Bool.true_and, Bool.and_self, decide_eq_true_eq, decide_eq_false_iff_not, Bool.true_eq_false, Bool.false_eq_true, false_implies, forall_const, true_implies, beq_self_eq_true, Bool.or_true, Bool.true_or, Bool.or_false, Bool.false_or, bne_self_eq_false, set_self, compRho, Bool.not_true, Bool.not_false, Int.zero_add]; assumption) | skip
    · unfold addD; rw [if_pos hin]; exact e1
    · unfold addD; rw [if_pos hin]; exact hL
  · simp (config := { maxSteps := 10000000 }) only [exs_0, exs_1, ev_int, ev_bool, ev_none, ev_str, ev_Name, ev_BinOp, ev_UnaryOp, ev_BoolOp, ev_Compare, ev_CallA, ev_CallN, ev_Slice, ev_SubN, ev_SubC, ev_SubB, ev_SubU, ev_SubF, ev_SubS, ev_SubT, ev_SubA, ev_List, ev_Tuple, ev_Dict0, ev_Comp, ex_Pass, ex_Expr, ex_RetS, ex_RetN, ex_AName, ex_ATupN, ex_ATupC, ex_ASub, ex_If, ex_For, evs_0, evs_1, evOpt_0, evOpt_1, evBool_1, evBool_and, evBool_or, tst_Not, tst_Bool, tst_Cmp, tst_Name, tst_Call, tst_Sub, tst_Const, tstAll_0a, tstAll_0o, tstAll_1a, tstAll_1o, evCmp_1, evCmp_2, evIfs_0, evIfs_1, bindRho, List.map_cons, List.map_nil, List.lookup_cons, List.lookup_nil, ofString_beq, ofString_inj, ofString_bne, upd, isLoc, String.reduceBEq, String.reduceEq, String.reduceBNe, String.reduceNe, ↓reduceIte, true_and, and_true, cxOf_gl, cxOf_call, cxOf_calm, cxOf_hush, cxOf_pull, cxOf_exc, g07, gl07, deq_int, deq_bool, itemsOf_rng, Option.map_some, fewArgs, bo_add, bo_sub, bo_mul, bo_div, bo_mod, bo_pow, uo_neg, uo_not, tr_none, tr_bool, tr_int, su_tup, su_scr, cv_fn, cv_cls, cv_blt, cv_typ, cb_lenT, cb_lenS, cb_isi, ii_intI, ii_boolI, ii_tupI, ii_intB, ii_boolB, ii_tupB, ii_intT, ii_boolT, ii_tupT, ct_rng1, co_lt, co_le, co_gt, co_ge, co_eq, co_ne, co_in, co_ni, lateM_set, plainBase, bindT_name, bindT_pair, List.length_nil, List.length_cons, Nat.reduceLT, Nat.reduceAdd, decide_true, decide_false, Bool.and_true, Bool.true_and, Bool.and_self, decide_eq_true_eq, decide_eq_false_iff_not, Bool.true_eq_false, Bool.false_eq_true, false_implies, forall_const, true_implies, beq_self_eq_true, Bool.or_true, Bool.true_or, Bool.or_false, Bool.false_or, bne_self_eq_false, set_self, compRho, Bool.not_true, Bool.not_false, Int.zero_add]
    intro f hf
    simp only [r2]
    rw [pairsV_length, List.take_length] at e1 hL
    have hDl := addDs_len ps []
    simp only [List.length_nil, Nat.zero_add] at hDl
    generalize hD : ps.foldl addD [] = D at *
    have hft : f ≠ t := by rintro rfl; rw [e1] at hf; cases hf
    have hfb : f ≠ b := by rintro rfl; rw [e2] at hf; cases hf
    have hfs : σ f = none := hE.off hf
    have hfL : ∀ k q, lookL k L = some q → q ≠ f := by rintro k q e rfl; rw [(hL.got _ _ e).1] at hf; cases hf
    have e1' : (σ'.set f (.list [])) t = some (.dictP (setP D)) := by rw [set_ne _ _ (Ne.symm hft)]; exact e1
    rw [lateM_dictP e1' (by decide)]
    simp (config := { maxSteps := 10000000 }) only [exs_0, exs_1, ev_int, ev_bool, ev_none, ev_str, ev_Name, ev_BinOp, ev_UnaryOp, ev_BoolOp, ev_Compare, ev_CallA, ev_CallN, ev_Slice, ev_SubN, ev_SubC, ev_SubB, ev_SubU, ev_SubF, ev_SubS, ev_SubT, ev_SubA, ev_List, ev_Tuple, ev_Dict0, ev_Comp, ex_Pass, ex_Expr, ex_RetS, ex_RetN, ex_AName, ex_ATupN, ex_ATupC, ex_ASub, ex_If, ex_For, evs_0, evs_1, evOpt_0, evOpt_1, evBool_1, evBool_and, evBool_or, tst_Not, tst_Bool, tst_Cmp, tst_Name, tst_Call, tst_Sub, tst_Const, tstAll_0a, tstAll_0o, tstAll_1a, tstAll_1o, evCmp_1, evCmp_2, evIfs_0, evIfs_1, bindRho, List.map_cons, List.map_nil, List.lookup_cons, List.lookup_nil, ofString_beq, ofString_inj, ofString_bne, upd, isLoc, String.reduceBEq, String.reduceEq, String.reduceBNe, String.reduceNe, ↓reduceIte, true_and, and_true, cxOf_gl, cxOf_call, cxOf_calm, cxOf_hush, cxOf_pull, cxOf_exc, g07, gl07, deq_int, deq_bool, itemsOf_rng, Option.map_some, fewArgs, bo_add, bo_sub, bo_mul, bo_div, bo_mod, bo_pow, uo_neg, uo_not, tr_none, tr_bool, tr_int, su_tup, su_scr, cv_fn, cv_cls, cv_blt, cv_typ, cb_lenT, cb_lenS, cb_isi, ii_intI, ii_boolI, ii_tupI, ii_intB, ii_boolB, ii_tupB, ii_intT, ii_boolT, ii_tupT, ct_rng1, co_lt, co_le, co_gt, co_ge, co_eq, co_ne, co_in, co_ni, lateM_set, plainBase, bindT_name, bindT_pair, List.length_nil, List.length_cons, Nat.reduceLT, Nat.reduceAdd, decide_true, decide_false, Bool.and_true, Bool.true_and, Bool.and_self, decide_eq_true_eq, decide_eq_false_iff_not, Bool.true_eq_false, Bool.false_eq_true, false_implies, forall_const, true_implies, beq_self_eq_true, Bool.or_true, Bool.true_or, Bool.or_false, Bool.false_or, bne_self_eq_false, set_self, compRho, Bool.not_true, Bool.not_false, Int.zero_add]
    rw [dictMeth_keys e1', forV_keys e1', setP_keys]
    simp (config := { maxSteps := 10000000 }) only [exs_0, exs_1, ev_int, ev_bool, ev_none, ev_str, ev_Name, ev_BinOp, ev_UnaryOp, ev_BoolOp, ev_Compare, ev_CallA, ev_CallN, ev_Slice, ev_SubN, ev_SubC, ev_SubB, ev_SubU, ev_SubF, ev_SubS, ev_SubT, ev_SubA, ev_List, ev_Tuple, ev_Dict0, ev_Comp, ex_Pass, ex_Expr, ex_RetS, ex_RetN, ex_AName, ex_ATupN, ex_ATupC, ex_ASub, ex_If, ex_For, evs_0, evs_1, evOpt_0, evOpt_1, evBool_1, evBool_and, evBool_or, tst_Not, tst_Bool, tst_Cmp, tst_Name, tst_Call, tst_Sub, tst_Const, tstAll_0a, tstAll_0o, tstAll_1a, tstAll_1o, evCmp_1, evCmp_2, evIfs_0, evIfs_1, bindRho, List.map_cons, List.map_nil, List.lookup_cons, List.lookup_nil, ofString_beq, ofString_inj, ofString_bne, upd, isLoc, String.reduceBEq, String.reduceEq, String.reduceBNe, String.reduceNe, ↓reduceIte, true_and, and_true, cxOf_gl, cxOf_call, cxOf_calm, cxOf_hush, cxOf_pull, cxOf_exc, g07, gl07, deq_int, deq_bool, itemsOf_rng, Option.map_some, fewArgs, bo_add, bo_sub, bo_mul, bo_div, bo_mod, bo_pow, uo_neg, uo_not, tr_none, tr_bool, tr_int, su_tup, su_scr, cv_fn, cv_cls, cv_blt, cv_typ, cb_lenT, cb_lenS, cb_isi, ii_intI, ii_boolI, ii_tupI, ii_intB, ii_boolB, ii_tupB, ii_intT, ii_boolT, ii_tupT, ct_rng1, co_lt, co_le, co_gt, co_ge, co_eq, co_ne, co_in, co_ni, lateM_set, plainBase, bindT_name, bindT_pair, List.length_nil, List.length_cons, Nat.reduceLT, Nat.reduceAdd, decide_true, decide_false, Bool.and_true, Bool.true_and, Bool.and_self, decide_eq_true_eq, decide_eq_false_iff_not, Bool.true_eq_false, Bool.false_eq_true, false_implies, forall_const, true_implies, beq_self_eq_true, Bool.or_true, Bool.true_or, Bool.or_false, Bool.false_or, bne_self_eq_false, set_self, compRho, Bool.not_true, Bool.not_false, Int.zero_add]
    refine forLoop_inv (fun i ρ₁ σ₁ => ρ₁ "there" = some (.ref t) ∧ ρ₁ "behind" = some (.ref b) ∧ ρ₁ "found" = some (.ref f) ∧ Ext σ σ₁ ∧ σ₁ t = some (.dictR (setP D)) ∧ σ₁ b = some (behObj L) ∧ BehOk σ σ₁ L D t b ∧
      σ₁ f = some (.list (tripsV ((D.take i).foldl (gapOut D) [])))) ⟨by simp (config := { maxSteps := 10000000 }) only [exs_0, exs_1, ev_int, ev_bool, ev_none, ev_str, ev_Name, ev_BinOp, ev_UnaryOp, ev_BoolOp, ev_Compare, ev_CallA, ev_CallN, ev_Slice, ev_SubN, ev_SubC, ev_SubB, ev_SubU, ev_SubF, ev_SubS, ev_SubT, ev_SubA, ev_List, ev_Tuple, ev_Dict0, ev_Comp, ex_Pass, ex_Expr, ex_RetS, ex_RetN, ex_AName, ex_ATupN, ex_ATupC, ex_ASub, ex_If, ex_For, evs_0, evs_1, evOpt_0, evOpt_1, evBool_1, evBool_and, evBool_or, tst_Not, tst_Bool, tst_Cmp, tst_Name, tst_Call, tst_Sub, tst_Const, tstAll_0a, tstAll_0o, tstAll_1a, tstAll_1o, evCmp_1, evCmp_2, evIfs_0, evIfs_1, bindRho, List.map_cons, List.map_nil, List.lookup_cons, List.lookup_nil, ofString_beq, ofString_inj, ofString_bne, upd, isLoc, String.reduceBEq, String.reduceEq, String.reduceBNe, String.reduceNe, ↓reduceIte, true_and, and_true, cxOf_gl, cxOf_call, cxOf_calm, cxOf_hush, cxOf_pull, cxOf_exc, g07, gl07, deq_int, deq_bool, itemsOf_rng, Option.map_some, fewArgs, bo_add, bo_sub, bo_mul, bo_div, bo_mod, bo_pow, uo_neg, uo_not, tr_none, tr_bool, tr_int, su_tup, su_scr, cv_fn, cv_cls, cv_blt, cv_typ, cb_lenT, cb_lenS, cb_isi, ii_intI, ii_boolI, ii_tupI, ii_intB, ii_boolB, ii_tupB, ii_intT, ii_boolT, ii_tupT, ct_rng1, co_lt, co_le, co_gt, co_ge, co_eq, co_ne, co_in, co_ni, lateM_set, plainBase, bindT_name, bindT_pair, List.length_nil, List.length_cons, Nat.reduceLT, Nat.reduceAdd, decide_true, decide_false, Bool.and_true, Bool.true_and, Bool.and_self, decide_eq_true_eq, decide_eq_false_iff_not, Bool.true_eq_false, Bool.false_eq_true, false_implies, forall_const, true_implies, beq_self_eq_true, Bool.or_true, Bool.true_or, Bool.or_false, Bool.false_or, bne_self_eq_false, set_self, compRho, Bool.not_true, Bool.not_false, Int.zero_add]; exact r2, by simp (config := { maxSteps := 10000000 }) only [exs_0, exs_1, ev_int, ev_bool, ev_none, ev_str, ev_Name, ev_BinOp, ev_UnaryOp, ev_BoolOp, ev_Compare, ev_CallA, ev_CallN, ev_Slice, ev_SubN, ev_SubC, ev_SubB, ev_SubU, ev_SubF, ev_SubS, ev_SubT, ev_SubA, ev_List, ev_Tuple, ev_Dict0, ev_Comp, ex_Pass, ex_Expr, ex_RetS, ex_RetN, ex_AName, ex_ATupN, ex_ATupC, ex_ASub, ex_If, ex_For, evs_0, evs_1, evOpt_0, evOpt_1, evBool_1, evBool_and, evBool_or, tst_Not, tst_Bool, tst_Cmp, tst_Name, tst_Call, tst_Sub, tst_Const, tstAll_0a, tstAll_0o, tstAll_1a, tstAll_1o, evCmp_1, evCmp_2, evIfs_0, evIfs_1, bindRho, List.map_cons, List.map_nil, List.lookup_cons, List.lookup_nil, ofString_beq, ofString_inj, ofString_bne, upd, isLoc, String.reduceBEq, String.reduceEq, String.reduceBNe, String.reduceNe, ↓reduceIte, true_and, and_true, cxOf_gl, cxOf_call, cxOf_calm, cxOf_hush, cxOf_pull, cxOf_exc, g07, gl07, deq_int, deq_bool, itemsOf_rng, Option.map_some, fewArgs, bo_add, bo_sub, bo_mul, bo_div, bo_mod, bo_pow, uo_neg, uo_not, tr_none, tr_bool, tr_int, su_tup, su_scr, cv_fn, cv_cls, cv_blt, cv_typ, cb_lenT, cb_lenS, cb_isi, ii_intI, ii_boolI, ii_tupI, ii_intB, ii_boolB, ii_tupB, ii_intT, ii_boolT, ii_tupT, ct_rng1, co_lt, co_le, co_gt, co_ge, co_eq, co_ne, co_in, co_ni, lateM_set, plainBase, bindT_name, bindT_pair, List.length_nil, List.length_cons, Nat.reduceLT, Nat.reduceAdd, decide_true, decide_false, Bool.and_true, Bool.true_and, Bool.and_self, decide_eq_true_eq, decide_eq_false_iff_not, Bool.true_eq_false, Bool.false_eq_true, false_implies, forall_const, true_implies, beq_self_eq_true, Bool.or_true, Bool.true_or, Bool.or_false, Bool.false_or, bne_self_eq_false, set_self, compRho, Bool.not_true, Bool.not_false, Int.zero_add]; exact r3, by simp (config := { maxSteps := 10000000 }) only [exs_0, exs_1, ev_int, ev_bool, ev_none, ev_str, ev_Name, ev_BinOp, ev_UnaryOp, ev_BoolOp, ev_Compare, ev_CallA, ev_CallN, ev_Slice, ev_SubN, ev_SubC, ev_SubB, ev_SubU, ev_SubF, ev_SubS, ev_SubT, ev_SubA, ev_List, ev_Tuple, ev_Dict0, ev_Comp, ex_Pass, ex_Expr, ex_RetS, ex_RetN, ex_AName, ex_ATupN, ex_ATupC, ex_ASub, ex_If, ex_For, evs_0, evs_1, evOpt_0, evOpt_1, evBool_1, evBool_and, evBool_or, tst_Not, tst_Bool, tst_Cmp, tst_Name, tst_Call, tst_Sub, tst_Const, tstAll_0a, tstAll_0o, tstAll_1a, tstAll_1o, evCmp_1, evCmp_2, evIfs_0, evIfs_1, bindRho, List.map_cons, List.map_nil, List.lookup_cons, List.lookup_nil, ofString_beq, ofString_inj, ofString_bne, upd, isLoc, String.reduceBEq, String.reduceEq, String.reduceBNe, String.reduceNe, ↓reduceIte, true_and, and_true, cxOf_gl, cxOf_call, cxOf_calm, cxOf_hush, cxOf_pull, cxOf_exc, g07, gl07, deq_int, deq_bool, itemsOf_rng, Option.map_some, fewArgs, bo_add, bo_sub, bo_mul, bo_div, bo_mod, bo_pow, uo_neg, uo_not, tr_none, tr_bool, tr_int, su_tup, su_scr, cv_fn, cv_cls, cv_blt, cv_typ, cb_lenT, cb_lenS, cb_isi, ii_intI, ii_boolI, ii_tupI, ii_intB, ii_boolB, ii_tupB, ii_intT, ii_boolT, ii_tupT, ct_rng1, co_lt, co_le, co_gt, co_ge, co_eq, co_ne, co_in, co_ni, lateM_set, plainBase, bindT_name, bindT_pair, List.length_nil, List.length_cons, Nat.reduceLT, Nat.reduceAdd, decide_true, decide_false, Bool.and_true, Bool.true_and, Bool.and_self, decide_eq_true_eq, decide_eq_false_iff_not, Bool.true_eq_false, Bool.false_eq_true, false_implies, forall_const, true_implies, beq_self_eq_true, Bool.or_true, Bool.true_or, Bool.or_false, Bool.false_or, bne_self_eq_false, set_self, compRho, Bool.not_true, Bool.not_false, Int.zero_add], (hE.upd hfs).upd ht, set_self _ _ _, ?_, ?_, ?_⟩ (fun i x ρ₁ σ₁ K hx ⟨s1, s2, s3, hE1, t1, t2, hL1, t3⟩ hK _ => ?_) (fun ρ₁ σ₁ ⟨s1, s2, s3, hE1, t1, t2, hL1, t3⟩ => ?_)
    · rw [set_ne _ _ hbt, set_ne _ _ (Ne.symm hfb)]; exact e2
    · exact ⟨fun k q hq => ⟨by rw [set_ne _ _ (hL.got _ _ hq).2.2.1, set_ne _ _ (hfL _ _ hq)]; exact (hL.got _ _ hq).1, (hL.got _ _ hq).2⟩, hL.out, hL.inj, hL.len⟩
    · rw [set_ne _ _ hft, set_self]; rfl
    · obtain ⟨a, ha, rfl⟩ := pairsV_get hx
      rw [foldl_take_succ _ _ ha] at hK
      have hlen0 := gapOuts_len D (D.take i) []
      have hi : (D.take i).length ≤ 100 := by simp; lia
      have hm0 : (D.take i).length * D.length ≤ 100 * 100 := Nat.mul_le_mul hi (by lia)
      simp only [List.length_nil, Nat.zero_add] at hlen0
      generalize hG : (D.take i).foldl (gapOut D) [] = G at *
      simp only [forStep, lateX]
      simp (config := { maxSteps := 10000000 }) only [exs_0, exs_1, ev_int, ev_bool, ev_none, ev_str, ev_Name, ev_BinOp, ev_UnaryOp, ev_BoolOp, ev_Compare, ev_CallA, ev_CallN, ev_Slice, ev_SubN, ev_SubC, ev_SubB, ev_SubU, ev_SubF, ev_SubS, ev_SubT, ev_SubA, ev_List, ev_Tuple, ev_Dict0, ev_Comp, ex_Pass, ex_Expr, ex_RetS, ex_RetN, ex_AName, ex_ATupN, ex_ATupC, ex_ASub, ex_If, ex_For, evs_0, evs_1, evOpt_0, evOpt_1, evBool_1, evBool_and, evBool_or, tst_Not, tst_Bool, tst_Cmp, tst_Name, tst_Call, tst_Sub, tst_Const, tstAll_0a, tstAll_0o, tstAll_1a, tstAll_1o, evCmp_1, evCmp_2, evIfs_0, evIfs_1, bindRho, List.map_cons, List.map_nil, List.lookup_cons, List.lookup_nil, ofString_beq, ofString_inj, ofString_bne, upd, isLoc, String.reduceBEq, String.reduceEq, String.reduceBNe, String.reduceNe, ↓reduceIte, true_and, and_true, cxOf_gl, cxOf_call, cxOf_calm, cxOf_hush, cxOf_pull, cxOf_exc, g07, gl07, deq_int, deq_bool, itemsOf_rng, Option.map_some, fewArgs, bo_add, bo_sub, bo_mul, bo_div, bo_mod, bo_pow, uo_neg, uo_not, tr_none, tr_bool, tr_int, su_tup, su_scr, cv_fn, cv_cls, cv_blt, cv_typ, cb_lenT, cb_lenS, cb_isi, ii_intI, ii_boolI, ii_tupI, ii_intB, ii_boolB, ii_tupB, ii_intT, ii_boolT, ii_tupT, ct_rng1, co_lt, co_le, co_gt, co_ge, co_eq, co_ne, co_in, co_ni, lateM_set, plainBase, bindT_name, bindT_pair, List.length_nil, List.length_cons, Nat.reduceLT, Nat.reduceAdd, decide_true, decide_false, Bool.and_true, Bool.true_and, Bool.and_self, decide_eq_true_eq, decide_eq_false_iff_not, Bool.true_eq_false, Bool.false_eq_true, false_implies, forall_const, true_implies, beq_self_eq_true, Bool.or_true, Bool.true_or, Bool.or_false, Bool.false_or, bne_self_eq_false, set_self, compRho, Bool.not_true, Bool.not_false, Int.zero_add]
      simp only [s2]
      rw [lateM_beh t2 (by decide)]
      simp (config := { maxSteps := 10000000 }) only [exs_0, exs_1, ev_int, ev_bool, ev_none, ev_str, ev_Name, ev_BinOp, ev_UnaryOp, ev_BoolOp, ev_Compare, ev_CallA, ev_CallN, ev_Slice, ev_SubN, ev_SubC, ev_SubB, ev_SubU, ev_SubF, ev_SubS, ev_SubT, ev_SubA, ev_List, ev_Tuple, ev_Dict0, ev_Comp, ex_Pass, ex_Expr, ex_RetS, ex_RetN, ex_AName, ex_ATupN, ex_ATupC, ex_ASub, ex_If, ex_For, evs_0, evs_1, evOpt_0, evOpt_1, evBool_1, evBool_and, evBool_or, tst_Not, tst_Bool, tst_Cmp, tst_Name, tst_Call, tst_Sub, tst_Const, tstAll_0a, tstAll_0o, tstAll_1a, tstAll_1o, evCmp_1, evCmp_2, evIfs_0, evIfs_1, bindRho, List.map_cons, List.map_nil, List.lookup_cons, List.lookup_nil, ofString_beq, ofString_inj, ofString_bne, upd, isLoc, String.reduceBEq, String.reduceEq, String.reduceBNe, String.reduceNe, ↓reduceIte, true_and, and_true, cxOf_gl, cxOf_call, cxOf_calm, cxOf_hush, cxOf_pull, cxOf_exc, g07, gl07, deq_int, deq_bool, itemsOf_rng, Option.map_some, fewArgs, bo_add, bo_sub, bo_mul, bo_div, bo_mod, bo_pow, uo_neg, uo_not, tr_none, tr_bool, tr_int, su_tup, su_scr, cv_fn, cv_cls, cv_blt, cv_typ, cb_lenT, cb_lenS, cb_isi, ii_intI, ii_boolI, ii_tupI, ii_intB, ii_boolB, ii_tupB, ii_intT, ii_boolT, ii_tupT, ct_rng1, co_lt, co_le, co_gt, co_ge, co_eq, co_ne, co_in, co_ni, lateM_set, plainBase, bindT_name, bindT_pair, List.length_nil, List.length_cons, Nat.reduceLT, Nat.reduceAdd, decide_true, decide_false, Bool.and_true, Bool.true_and, Bool.and_self, decide_eq_true_eq, decide_eq_false_iff_not, Bool.true_eq_false, Bool.false_eq_true, false_implies, forall_const, true_implies, beq_self_eq_true, Bool.or_true, Bool.true_or, Bool.or_false, Bool.false_or, bne_self_eq_false, set_self, compRho, Bool.not_true, Bool.not_false, Int.zero_add]
      intro c hc0
      have hcs : σ c = none := hE1.off hc0
      have hct : c ≠ t := by rintro rfl; rw [t1] at hc0; cases hc0
      have hcb : c ≠ b := by rintro rfl; rw [t2] at hc0; cases hc0
      have hcf : c ≠ f := by rintro rfl; rw [t3] at hc0; cases hc0
      rw [beh_get (L := L) (by rw [set_ne _ _ (Ne.symm hcb)]; exact t2)]
      obtain ⟨q, hv, hq, hqf, hqt⟩ : ∃ q, ((lookL a.2 L).map Val.ref).getD (.ref c) = .ref q ∧ (σ₁.set c (.list [])) q = some (.list (ofInts (outs D a.2))) ∧ q ≠ f ∧ q ≠ t := by
        cases hk : lookL a.2 L with
        | some q =>
          obtain ⟨g1, g2, g3, g4⟩ := hL1.got _ _ hk
          exact ⟨q, rfl, by rw [set_ne _ _ (by rintro rfl; rw [g1] at hc0; cases hc0)]; exact g1, hfL _ _ hk, g3⟩
        | none => exact ⟨c, rfl, by rw [set_self, hL1.out _ hk]; rfl, hcf, hct⟩
      rw [hv, forV_list hq]
      simp (config := { maxSteps := 10000000 }) only [exs_0, exs_1, ev_int, ev_bool, ev_none, ev_str, ev_Name, ev_BinOp, ev_UnaryOp, ev_BoolOp, ev_Compare, ev_CallA, ev_CallN, ev_Slice, ev_SubN, ev_SubC, ev_SubB, ev_SubU, ev_SubF, ev_SubS, ev_SubT, ev_SubA, ev_List, ev_Tuple, ev_Dict0, ev_Comp, ex_Pass, ex_Expr, ex_RetS, ex_RetN, ex_AName, ex_ATupN, ex_ATupC, ex_ASub, ex_If, ex_For, evs_0, evs_1, evOpt_0, evOpt_1, evBool_1, evBool_and, evBool_or, tst_Not, tst_Bool, tst_Cmp, tst_Name, tst_Call, tst_Sub, tst_Const, tstAll_0a, tstAll_0o, tstAll_1a, tstAll_1o, evCmp_1, evCmp_2, evIfs_0, evIfs_1, bindRho, List.map_cons, List.map_nil, List.lookup_cons, List.lookup_nil, ofString_beq, ofString_inj, ofString_bne, upd, isLoc, String.reduceBEq, String.reduceEq, String.reduceBNe, String.reduceNe, ↓reduceIte, true_and, and_true, cxOf_gl, cxOf_call, cxOf_calm, cxOf_hush, cxOf_pull, cxOf_exc, g07, gl07, deq_int, deq_bool, itemsOf_rng, Option.map_some, fewArgs, bo_add, bo_sub, bo_mul, bo_div, bo_mod, bo_pow, uo_neg, uo_not, tr_none, tr_bool, tr_int, su_tup, su_scr, cv_fn, cv_cls, cv_blt, cv_typ, cb_lenT, cb_lenS, cb_isi, ii_intI, ii_boolI, ii_tupI, ii_intB, ii_boolB, ii_tupB, ii_intT, ii_boolT, ii_tupT, ct_rng1, co_lt, co_le, co_gt, co_ge, co_eq, co_ne, co_in, co_ni, lateM_set, plainBase, bindT_name, bindT_pair, List.length_nil, List.length_cons, Nat.reduceLT, Nat.reduceAdd, decide_true, decide_false, Bool.and_true, Bool.true_and, Bool.and_self, decide_eq_true_eq, decide_eq_false_iff_not, Bool.true_eq_false, Bool.false_eq_true, false_implies, forall_const, true_implies, beq_self_eq_true, Bool.or_true, Bool.true_or, Bool.or_false, Bool.false_or, bne_self_eq_false, set_self, compRho, Bool.not_true, Bool.not_false, Int.zero_add]
      have hol := outs_len D a.2
      refine forLoop_inv (fun j ρ₂ σ₂ => ρ₂ "there" = some (.ref t) ∧ ρ₂ "behind" = some (.ref b) ∧ ρ₂ "found" = some (.ref f) ∧ ρ₂ "one" = some (.int a.1) ∧ ρ₂ "other" = some (.int a.2) ∧
        σ₂ = (σ₁.set c (.list [])).set f (.list (tripsV (((outs D a.2).take j).foldl (gapIn D a) G)))) ⟨by simp (config := { maxSteps := 10000000 }) only [exs_0, exs_1, ev_int, ev_bool, ev_none, ev_str, ev_Name, ev_BinOp, ev_UnaryOp, ev_BoolOp, ev_Compare, ev_CallA, ev_CallN, ev_Slice, ev_SubN, ev_SubC, ev_SubB, ev_SubU, ev_SubF, ev_SubS, ev_SubT, ev_SubA, ev_List, ev_Tuple, ev_Dict0, ev_Comp, ex_Pass, ex_Expr, ex_RetS, ex_RetN, ex_AName, ex_ATupN, ex_ATupC, ex_ASub, ex_If, ex_For, evs_0, evs_1, evOpt_0, evOpt_1, evBool_1, evBool_and, evBool_or, tst_Not, tst_Bool, tst_Cmp, tst_Name, tst_Call, tst_Sub, tst_Const, tstAll_0a, tstAll_0o, tstAll_1a, tstAll_1o, evCmp_1, evCmp_2, evIfs_0, evIfs_1, bindRho, List.map_cons, List.map_nil, List.lookup_cons, List.lookup_nil, ofString_beq, ofString_inj, ofString_bne, upd, isLoc, String.reduceBEq, String.reduceEq, String.reduceBNe, String.reduceNe, ↓reduceIte, true_and, and_true, cxOf_gl, cxOf_call, cxOf_calm, cxOf_hush, cxOf_pull, cxOf_exc, g07, gl07, deq_int, deq_bool, itemsOf_rng, Option.map_some, fewArgs, bo_add, bo_sub, bo_mul, bo_div, bo_mod, bo_pow, uo_neg, uo_not, tr_none, tr_bool, tr_int, su_tup, su_scr, cv_fn, cv_cls, cv_blt, cv_typ, cb_lenT, cb_lenS, cb_isi, ii_intI, ii_boolI, ii_tupI, ii_intB, ii_boolB, ii_tupB, ii_intT, ii_boolT, ii_tupT, ct_rng1, co_lt, co_le, co_gt, co_ge, co_eq, co_ne, co_in, co_ni, lateM_set, plainBase, bindT_name, bindT_pair, List.length_nil, List.length_cons, Nat.reduceLT, Nat.reduceAdd, decide_true, decide_false, Bool.and_true, Bool.true_and, Bool.and_self, decide_eq_true_eq, decide_eq_false_iff_not, Bool.true_eq_false, Bool.false_eq_true, false_implies, forall_const, true_implies, beq_self_eq_true, Bool.or_true, Bool.true_or, Bool.or_false, Bool.false_or, bne_self_eq_false, set_self, compRho, Bool.not_true, Bool.not_false, Int.zero_add]; exact s1, by simp (config := { maxSteps := 10000000 }) only [exs_0, exs_1, ev_int, ev_bool, ev_none, ev_str, ev_Name, ev_BinOp, ev_UnaryOp, ev_BoolOp, ev_Compare, ev_CallA, ev_CallN, ev_Slice, ev_SubN, ev_SubC, ev_SubB, ev_SubU, ev_SubF, ev_SubS, ev_SubT, ev_SubA, ev_List, ev_Tuple, ev_Dict0, ev_Comp, ex_Pass, ex_Expr, ex_RetS, ex_RetN, ex_AName, ex_ATupN, ex_ATupC, ex_ASub, ex_If, ex_For, evs_0, evs_1, evOpt_0, evOpt_1, evBool_1, evBool_and, evBool_or, tst_Not, tst_Bool, tst_Cmp, tst_Name, tst_Call, tst_Sub, tst_Const, tstAll_0a, tstAll_0o, tstAll_1a, tstAll_1o, evCmp_1, evCmp_2, evIfs_0, evIfs_1, bindRho, List.map_cons, List.map_nil, List.lookup_cons, List.lookup_nil, ofString_beq, ofString_inj, ofString_bne, upd, isLoc, String.reduceBEq, String.reduceEq, String.reduceBNe, String.reduceNe, ↓reduceIte, true_and, and_true, cxOf_gl, cxOf_call, cxOf_calm, cxOf_hush, cxOf_pull, cxOf_exc, g07, gl07, deq_int, deq_bool, itemsOf_rng, Option.map_some, fewArgs, bo_add, bo_sub, bo_mul, bo_div, bo_mod, bo_pow, uo_neg, uo_not, tr_none, tr_bool, tr_int, su_tup, su_scr, cv_fn, cv_cls, cv_blt, cv_typ, cb_lenT, cb_lenS, cb_isi, ii_intI, ii_boolI, ii_tupI, ii_intB, ii_boolB, ii_tupB, ii_intT, ii_boolT, ii_tupT, ct_rng1, co_lt, co_le, co_gt, co_ge, co_eq, co_ne, co_in, co_ni, lateM_set, plainBase, bindT_name, bindT_pair, List.length_nil, List.length_cons, Nat.reduceLT, Nat.reduceAdd, decide_true, decide_false, Bool.and_true, Bool.true_and, Bool.and_self, decide_eq_true_eq, decide_eq_false_iff_not, Bool.true_eq_false, Bool.false_eq_true, false_implies, forall_const, true_implies, beq_self_eq_true, Bool.or_true, Bool.true_or, Bool.or_false, Bool.false_or, bne_self_eq_false, set_self, compRho, Bool.not_true, Bool.not_false, Int.zero_add]; exact s2, by simp (config := { maxSteps := 10000000 }) only [exs_0, exs_1, ev_int, ev_bool, ev_none, ev_str, ev_Name, ev_BinOp, ev_UnaryOp, ev_BoolOp, ev_Compare, ev_CallA, ev_CallN, ev_Slice, ev_SubN, ev_SubC, ev_SubB, ev_SubU, ev_SubF, ev_SubS, ev_SubT, ev_SubA, ev_List, ev_Tuple, ev_Dict0, ev_Comp, ex_Pass, ex_Expr, ex_RetS, ex_RetN, ex_AName, ex_ATupN, ex_ATupC, ex_ASub, ex_If, ex_For, evs_0, evs_1, evOpt_0, evOpt_1, evBool_1, evBool_and, evBool_or, tst_Not, tst_Bool, tst_Cmp, tst_Name, tst_Call, tst_Sub, tst_Const, tstAll_0a, tstAll_0o, tstAll_1a, tstAll_1o, evCmp_1, evCmp_2, evIfs_0, evIfs_1, bindRho, List.map_cons, List.map_nil, List.lookup_cons, List.lookup_nil, ofString_beq, ofString_inj, ofString_bne, upd, isLoc, String.reduceBEq, String.reduceEq, String.reduceBNe, String.reduceNe, ↓reduceIte, true_and, and_true, cxOf_gl, cxOf_call, cxOf_calm, cxOf_hush, cxOf_pull, cxOf_exc, g07, gl07, deq_int, deq_bool, itemsOf_rng, Option.map_some, fewArgs, bo_add, bo_sub, bo_mul, bo_div, bo_mod, bo_pow, uo_neg, uo_not, tr_none, tr_bool, tr_int, su_tup, su_scr, cv_fn, cv_cls, cv_blt, cv_typ, cb_lenT, cb_lenS, cb_isi, ii_intI, ii_boolI, ii_tupI, ii_intB, ii_boolB, ii_tupB, ii_intT, ii_boolT, ii_tupT, ct_rng1, co_lt, co_le, co_gt, co_ge, co_eq, co_ne, co_in, co_ni, lateM_set, plainBase, bindT_name, bindT_pair, List.length_nil, List.length_cons, Nat.reduceLT, Nat.reduceAdd, decide_true, decide_false, Bool.and_true, Bool.true_and, Bool.and_self, decide_eq_true_eq, decide_eq_false_iff_not, Bool.true_eq_false, Bool.false_eq_true, false_implies, forall_const, true_implies, beq_self_eq_true, Bool.or_true, Bool.true_or, Bool.or_false, Bool.false_or, bne_self_eq_false, set_self, compRho, Bool.not_true, Bool.not_false, Int.zero_add]; exact s3, by simp (config := { maxSteps := 10000000 }) only [exs_0, exs_1, ev_int, ev_bool, ev_none, ev_str, ev_Name, ev_BinOp, ev_UnaryOp, ev_BoolOp, ev_Compare, ev_CallA, ev_CallN, ev_Slice, ev_SubN, ev_SubC, ev_SubB, ev_SubU, ev_SubF, ev_SubS, ev_SubT, ev_SubA, ev_List, ev_Tuple, ev_Dict0, ev_Comp, ex_Pass, ex_Expr, ex_RetS, ex_RetN, ex_AName, ex_ATupN, ex_ATupC, ex_ASub, ex_If, ex_For, evs_0, evs_1, evOpt_0, evOpt_1, evBool_1, evBool_and, evBool_or, tst_Not, tst_Bool, tst_Cmp, tst_Name, tst_Call, tst_Sub, tst_Const, tstAll_0a, tstAll_0o, tstAll_1a, tstAll_1o, evCmp_1, evCmp_2, evIfs_0, evIfs_1, bindRho, List.map_cons, List.map_nil, List.lookup_cons, List.lookup_nil, ofString_beq, ofString_inj, ofString_bne, upd, isLoc, String.reduceBEq, String.reduceEq, String.reduceBNe, String.reduceNe, ↓reduceIte, true_and, and_true, cxOf_gl, cxOf_call, cxOf_calm, cxOf_hush, cxOf_pull, cxOf_exc, g07, gl07, deq_int, deq_bool, itemsOf_rng, Option.map_some, fewArgs, bo_add, bo_sub, bo_mul, bo_div, bo_mod, bo_pow, uo_neg, uo_not, tr_none, tr_bool, tr_int, su_tup, su_scr, cv_fn, cv_cls, cv_blt, cv_typ, cb_lenT, cb_lenS, cb_isi, ii_intI, ii_boolI, ii_tupI, ii_intB, ii_boolB, ii_tupB, ii_intT, ii_boolT, ii_tupT, ct_rng1, co_lt, co_le, co_gt, co_ge, co_eq, co_ne, co_in, co_ni, lateM_set, plainBase, bindT_name, bindT_pair, List.length_nil, List.length_cons, Nat.reduceLT, Nat.reduceAdd, decide_true, decide_false, Bool.and_true, Bool.true_and, Bool.and_self, decide_eq_true_eq, decide_eq_false_iff_not, Bool.true_eq_false, Bool.false_eq_true, false_implies, forall_const, true_implies, beq_self_eq_true, Bool.or_true, Bool.true_or, Bool.or_false, Bool.false_or, bne_self_eq_false, set_self, compRho, Bool.not_true, Bool.not_false, Int.zero_add], by simp (config := { maxSteps := 10000000 }) only [exs_0, exs_1, ev_int, ev_bool, ev_none, ev_str, ev_Name, ev_BinOp, ev_UnaryOp, ev_BoolOp, ev_Compare, ev_CallA, ev_CallN, ev_Slice, ev_SubN, ev_SubC, ev_SubB, ev_SubU, ev_SubF, ev_SubS, ev_SubT, ev_SubA, ev_List, ev_Tuple, ev_Dict0, ev_Comp, ex_Pass, ex_Expr, ex_RetS, ex_RetN, ex_AName, ex_ATupN, ex_ATupC, ex_ASub, ex_If, ex_For, evs_0, evs_1, evOpt_0, evOpt_1, evBool_1, evBool_and, evBool_or, tst_Not, tst_Bool, tst_Cmp, tst_Name, tst_Call, tst_Sub, tst_Const, tstAll_0a, tstAll_0o, tstAll_1a, tstAll_1o, evCmp_1, evCmp_2, evIfs_0, evIfs_1, bindRho, List.map_cons, List.map_nil, List.lookup_cons, List.lookup_nil, ofString_beq, ofString_inj, ofString_bne, upd, isLoc, String.reduceBEq, String.reduceEq, String.reduceBNe, String.reduceNe, ↓reduceIte, true_and, and_true, cxOf_gl, cxOf_call, cxOf_calm, cxOf_hush, cxOf_pull, cxOf_exc, g07, gl07, deq_int, deq_bool, itemsOf_rng, Option.map_some, fewArgs, bo_add, bo_sub, bo_mul, bo_div, bo_mod, bo_pow, uo_neg, uo_not, tr_none, tr_bool, tr_int, su_tup, su_scr, cv_fn, cv_cls, cv_blt, cv_typ, cb_lenT, cb_lenS, cb_isi, ii_intI, ii_boolI, ii_tupI, ii_intB, ii_boolB, ii_tupB, ii_intT, ii_boolT, ii_tupT, ct_rng1, co_lt, co_le, co_gt, co_ge, co_eq, co_ne, co_in, co_ni, lateM_set, plainBase, bindT_name, bindT_pair, List.length_nil, List.length_cons, Nat.reduceLT, Nat.reduceAdd, decide_true, decide_false, Bool.and_true, Bool.true_and, Bool.and_self, decide_eq_true_eq, decide_eq_false_iff_not, Bool.true_eq_false, Bool.false_eq_true, false_implies, forall_const, true_implies, beq_self_eq_true, Bool.or_true, Bool.true_or, Bool.or_false, Bool.false_or, bne_self_eq_false, set_self, compRho, Bool.not_true, Bool.not_false, Int.zero_add], ?_⟩
        (fun j y ρ₂ σ₂ K' hy ⟨u1, u2, u3, u4, u5, e⟩ hK' _ => ?_) (fun ρ₂ σ₂ ⟨u1, u2, u3, u4, u5, e⟩ => ?_)
      · funext z; unfold Store.set
        by_cases hz : z = f
        · subst hz; rw [if_neg (Ne.symm hcf), if_pos rfl, t3]; rfl
        · rw [if_neg hz]
      · obtain ⟨l, hl', rfl⟩ : ∃ l, (outs D a.2)[j]? = some l ∧ y = .int l := by
          rw [ofInts_get] at hy; obtain ⟨l, h1, h2⟩ := Option.map_eq_some_iff.mp hy; exact ⟨l, h1, h2.symm⟩
        subst e
        have hb1 := gapIns_len D a ((outs D a.2).take j) G
        have hj : ((outs D a.2).take j).length ≤ 100 := by simp; lia
        have tt : ((σ₁.set c (.list [])).set f (.list (tripsV (((outs D a.2).take j).foldl (gapIn D a) G)))) t = some (.dictR (setP D)) := by rw [set_ne _ _ (Ne.symm hft), set_ne _ _ (Ne.symm hct)]; exact t1
        have fin : ∀ ρ₃ σ₃, ρ₃ "there" = some (.ref t) → ρ₃ "behind" = some (.ref b) → ρ₃ "found" = some (.ref f) → ρ₃ "one" = some (.int a.1) → ρ₃ "other" = some (.int a.2) →
            σ₃ = (σ₁.set c (.list [])).set f (.list (tripsV (gapIn D a (((outs D a.2).take j).foldl (gapIn D a) G) l))) → K' .next ρ₃ σ₃ := by
          intro ρ₃ σ₃ v1 v2 v3 v4 v5 v6
          refine hK' ρ₃ σ₃ ?_ ⟨v1, v2, v3, v4, v5, by rw [v6, foldl_take_succ _ _ hl']⟩
          rw [v6]; simp only [still]; rw [set_ne _ _ hqf]
        simp only [forStep, lateX]
        simp (config := { maxSteps := 10000000 }) only [exs_0, exs_1, ev_int, ev_bool, ev_none, ev_str, ev_Name, ev_BinOp, ev_UnaryOp, ev_BoolOp, ev_Compare, ev_CallA, ev_CallN, ev_Slice, ev_SubN, ev_SubC, ev_SubB, ev_SubU, ev_SubF, ev_SubS, ev_SubT, ev_SubA, ev_List, ev_Tuple, ev_Dict0, ev_Comp, ex_Pass, ex_Expr, ex_RetS, ex_RetN, ex_AName, ex_ATupN, ex_ATupC, ex_ASub, ex_If, ex_For, evs_0, evs_1, evOpt_0, evOpt_1, evBool_1, evBool_and, evBool_or, tst_Not, tst_Bool, tst_Cmp, tst_Name, tst_Call, tst_Sub, tst_Const, tstAll_0a, tstAll_0o, tstAll_1a, tstAll_1o, evCmp_1, evCmp_2, evIfs_0, evIfs_1, bindRho, List.map_cons, List.map_nil, List.lookup_cons, List.lookup_nil, ofString_beq, ofString_inj, ofString_bne, upd, isLoc, String.reduceBEq, String.reduceEq, String.reduceBNe, String.reduceNe, ↓reduceIte, true_and, and_true, cxOf_gl, cxOf_call, cxOf_calm, cxOf_hush, cxOf_pull, cxOf_exc, g07, gl07, deq_int, deq_bool, itemsOf_rng, Option.map_some, fewArgs, bo_add, bo_sub, bo_mul, bo_div, bo_mod, bo_pow, uo_neg, uo_not, tr_none, tr_bool, tr_int, su_tup, su_scr, cv_fn, cv_cls, cv_blt, cv_typ, cb_lenT, cb_lenS, cb_isi, ii_intI, ii_boolI, ii_tupI, ii_intB, ii_boolB, ii_tupB, ii_intT, ii_boolT, ii_tupT, ct_rng1, co_lt, co_le, co_gt, co_ge, co_eq, co_ne, co_in, co_ni, lateM_set, plainBase, bindT_name, bindT_pair, List.length_nil, List.length_cons, Nat.reduceLT, Nat.reduceAdd, decide_true, decide_false, Bool.and_true, Bool.true_and, Bool.and_self, decide_eq_true_eq, decide_eq_false_iff_not, Bool.true_eq_false, Bool.false_eq_true, false_implies, forall_const, true_implies, beq_self_eq_true, Bool.or_true, Bool.true_or, Bool.or_false, Bool.false_or, bne_self_eq_false, set_self, compRho, Bool.not_true, Bool.not_false, Int.zero_add]
        simp only [u1, u2, u3, u4, u5]
        try simp (config := { maxSteps := 10000000 }) only [exs_0, exs_1, ev_int, ev_bool, ev_none, ev_str, ev_Name, ev_BinOp, ev_UnaryOp, ev_BoolOp, ev_Compare, ev_CallA, ev_CallN, ev_Slice, ev_SubN, ev_SubC, ev_SubB, ev_SubU, ev_SubF, ev_SubS, ev_SubT, ev_SubA, ev_List, ev_Tuple, ev_Dict0, ev_Comp, ex_Pass, ex_Expr, ex_RetS, ex_RetN, ex_AName, ex_ATupN, ex_ATupC, ex_ASub, ex_If, ex_For, evs_0, evs_1, evOpt_0, evOpt_1, evBool_1, evBool_and, evBool_or, tst_Not, tst_Bool, tst_Cmp, tst_Name, tst_Call, tst_Sub, tst_Const, tstAll_0a, tstAll_0o, tstAll_1a, tstAll_1o, evCmp_1, evCmp_2, evIfs_0, evIfs_1, bindRho, List.map_cons, List.map_nil, List.lookup_cons, List.lookup_nil, ofString_beq, ofString_inj, ofString_bne, upd, isLoc, String.reduceBEq, String.reduceEq, String.reduceBNe, String.reduceNe, ↓reduceIte, true_and, and_true, cxOf_gl, cxOf_call, cxOf_calm, cxOf_hush, cxOf_pull, cxOf_exc, g07, gl07, deq_int, deq_bool, itemsOf_rng, Option.map_some, fewArgs, bo_add, bo_sub, bo_mul, bo_div, bo_mod, bo_pow, uo_neg, uo_not, tr_none, tr_bool, tr_int, su_tup, su_scr, cv_fn, cv_cls, cv_blt, cv_typ, cb_lenT, cb_lenS, cb_isi, ii_intI, ii_boolI, ii_tupI, ii_intB, ii_boolB, ii_tupB, ii_intT, ii_boolT, ii_tupT, ct_rng1, co_lt, co_le, co_gt, co_ge, co_eq, co_ne, co_in, co_ni, lateM_set, plainBase, bindT_name, bindT_pair, List.length_nil, List.length_cons, Nat.reduceLT, Nat.reduceAdd, decide_true, decide_false, Bool.and_true, Bool.true_and, Bool.and_self, decide_eq_true_eq, decide_eq_false_iff_not, Bool.true_eq_false, Bool.false_eq_true, false_implies, forall_const, true_implies, beq_self_eq_true, Bool.or_true, Bool.true_or, Bool.or_false, Bool.false_or, bne_self_eq_false, set_self, compRho, Bool.not_true, Bool.not_false, Int.zero_add]
        rw [mem_setR tt]
        simp only [Option.map_some, Bool.not_eq_true', decide_eq_false_iff_not, Bool.not_eq_false', decide_eq_true_eq]
        refine ⟨fun hin => ?_, fun hin => fin _ _ ?_ ?_ ?_ ?_ ?_ ?_⟩
        · simp only [u4, u5]
          rw [listMeth_append (set_self _ _ _)]
          refine ⟨by rw [tripsV_length]; lia, fin _ _ ?_ ?_ ?_ ?_ ?_ ?_⟩
          case refine_6 => unfold gapIn; rw [if_pos hin, set_set, tripsV_snoc]
          all_goals (simp (config := { maxSteps := 10000000 }) only [exs_0, exs_1, ev_int, ev_bool, ev_none, ev_str, ev_Name, ev_BinOp, ev_UnaryOp, ev_BoolOp, ev_Compare, ev_CallA, ev_CallN, ev_Slice, ev_SubN, ev_SubC, ev_SubB, ev_SubU, ev_SubF, ev_SubS, ev_SubT, ev_SubA, ev_List, ev_Tuple, ev_Dict0, ev_Comp, ex_Pass, ex_Expr, ex_RetS, ex_RetN, ex_AName, ex_ATupN, ex_ATupC, ex_ASub, ex_If, ex_For, evs_0, evs_1, evOpt_0, evOpt_1, evBool_1, evBool_and, evBool_or, tst_Not, tst_Bool, tst_Cmp, tst_Name, tst_Call, tst_Sub, tst_Const, tstAll_0a, tstAll_0o, tstAll_1a, tstAll_1o, evCmp_1, evCmp_2, evIfs_0, evIfs_1, bindRho, List.map_cons, List.map_nil, List.lookup_cons, List.lookup_nil, ofString_beq, ofString_inj, ofString_bne, upd, isLoc, String.reduceBEq, String.reduceEq, String.reduceBNe, String.reduceNe, ↓reduceIte, true_and, and_true, cxOf_gl, cxOf_call, cxOf_calm, cxOf_hush, cxOf_pull, cxOf_exc, g07, gl07, deq_int, deq_bool, itemsOf_rng, Option.map_some, fewArgs, bo_add, bo_sub, bo_mul, bo_div, bo_mod, bo_pow, uo_neg, uo_not, tr_none, tr_bool, tr_int, su_tup, su_scr, cv_fn, cv_cls, cv_blt, cv_typ, cb_lenT, cb_lenS, cb_isi, ii_intI, ii_boolI, ii_tupI, ii_intB, ii_boolB, ii_tupB, ii_intT, ii_boolT, ii_tupT, ct_rng1, co_lt, co_le, co_gt, co_ge, co_eq, co_ne, co_in, co_ni, lateM_set, plainBase, bindT_name, bindT_pair, List.length_nil, List.length_cons, Nat.reduceLT, Nat.reduceAdd, decide_true, decide_false, Bool.and_true, Bool.true_and, Bool.and_self, decide_eq_true_eq, decide_eq_false_iff_not, Bool.true_eq_false, Bool.false_eq_true, false_implies, forall_const, true_implies, beq_self_eq_true, Bool.or_true, Bool.true_or, Bool.or_false, Bool.false_or, bne_self_eq_false, set_self, compRho, Bool.not_true, Bool.not_false, Int.zero_add]; assumption)
        case refine_7 => unfold gapIn; rw [if_neg (by simpa using hin)]
        all_goals (simp (config := { maxSteps := 10000000 }) only [exs_0, exs_1, ev_int, ev_bool, ev_none, ev_str, ev_Name, ev_BinOp, ev_UnaryOp, ev_BoolOp, ev_Compare, ev_CallA, ev_CallN, ev_Slice, ev_SubN, ev_SubC, ev_SubB, ev_SubU, ev_SubF, ev_SubS, ev_SubT, ev_SubA, ev_List, ev_Tuple, ev_Dict0, ev_Comp, ex_Pass, ex_Expr, ex_RetS, ex_RetN, ex_AName, ex_ATupN, ex_ATupC, ex_ASub, ex_If, ex_For, evs_0, evs_1, evOpt_0, evOpt_1, evBool_1, evBool_and, evBool_or, tst_Not, tst_Bool, tst_Cmp, tst_Name, tst_Call, tst_Sub, tst_Const, tstAll_0a, tstAll_0o, tstAll_1a, tstAll_1o, evCmp_1, evCmp_2, evIfs_0, evIfs_1, bindRho, List.map_cons, List.map_nil, List.lookup_cons, List.lookup_nil, ofString_beq, ofString_inj, ofString_bne, upd, isLoc, String.reduceBEq, String.reduceEq, String.reduceBNe, String.reduceNe, ↓reduceIte, true_and, and_true, cxOf_gl, cxOf_call, cxOf_calm, cxOf_hush, cxOf_pull, cxOf_exc, g07, gl07, deq_int, deq_bool, itemsOf_rng, Option.map_some, fewArgs, bo_add, bo_sub, bo_mul, bo_div, bo_mod, bo_pow, uo_neg, uo_not, tr_none, tr_bool, tr_int, su_tup, su_scr, cv_fn, cv_cls, cv_blt, cv_typ, cb_lenT, cb_lenS, cb_isi, ii_intI, ii_boolI, ii_tupI, ii_intB, ii_boolB, ii_tupB, ii_intT, ii_boolT, ii_tupT, ct_rng1, co_lt, co_le, co_gt, co_ge, co_eq, co_ne, co_in, co_ni, lateM_set, plainBase, bindT_name, bindT_pair, List.length_nil, List.length_cons, Nat.reduceLT, Nat.reduceAdd, decide_true, decide_false, Bool.and_true, Bool.true_and, Bool.and_self, decide_eq_true_eq, decide_eq_false_iff_not, Bool.true_eq_false, Bool.false_eq_true, false_implies, forall_const, true_implies, beq_self_eq_true, Bool.or_true, Bool.true_or, Bool.or_false, Bool.false_or, bne_self_eq_false, set_self, compRho, Bool.not_true, Bool.not_false, Int.zero_add]; assumption)
      · simp (config := { maxSteps := 10000000 }) only [exs_0, exs_1, ev_int, ev_bool, ev_none, ev_str, ev_Name, ev_BinOp, ev_UnaryOp, ev_BoolOp, ev_Compare, ev_CallA, ev_CallN, ev_Slice, ev_SubN, ev_SubC, ev_SubB, ev_SubU, ev_SubF, ev_SubS, ev_SubT, ev_SubA, ev_List, ev_Tuple, ev_Dict0, ev_Comp, ex_Pass, ex_Expr, ex_RetS, ex_RetN, ex_AName, ex_ATupN, ex_ATupC, ex_ASub, ex_If, ex_For, evs_0, evs_1, evOpt_0, evOpt_1, evBool_1, evBool_and, evBool_or, tst_Not, tst_Bool, tst_Cmp, tst_Name, tst_Call, tst_Sub, tst_Const, tstAll_0a, tstAll_0o, tstAll_1a, tstAll_1o, evCmp_1, evCmp_2, evIfs_0, evIfs_1, bindRho, List.map_cons, List.map_nil, List.lookup_cons, List.lookup_nil, ofString_beq, ofString_inj, ofString_bne, upd, isLoc, String.reduceBEq, String.reduceEq, String.reduceBNe, String.reduceNe, ↓reduceIte, true_and, and_true, cxOf_gl, cxOf_call, cxOf_calm, cxOf_hush, cxOf_pull, cxOf_exc, g07, gl07, deq_int, deq_bool, itemsOf_rng, Option.map_some, fewArgs, bo_add, bo_sub, bo_mul, bo_div, bo_mod, bo_pow, uo_neg, uo_not, tr_none, tr_bool, tr_int, su_tup, su_scr, cv_fn, cv_cls, cv_blt, cv_typ, cb_lenT, cb_lenS, cb_isi, ii_intI, ii_boolI, ii_tupI, ii_intB, ii_boolB, ii_tupB, ii_intT, ii_boolT, ii_tupT, ct_rng1, co_lt, co_le, co_gt, co_ge, co_eq, co_ne, co_in, co_ni, lateM_set, plainBase, bindT_name, bindT_pair, List.length_nil, List.length_cons, Nat.reduceLT, Nat.reduceAdd, decide_true, decide_false, Bool.and_true, Bool.true_and, Bool.and_self, decide_eq_true_eq, decide_eq_false_iff_not, Bool.true_eq_false, Bool.false_eq_true, false_implies, forall_const, true_implies, beq_self_eq_true, Bool.or_true, Bool.true_or, Bool.or_false, Bool.false_or, bne_self_eq_false, set_self, compRho, Bool.not_true, Bool.not_false, Int.zero_add]
        subst e
        rw [show (ofInts (outs D a.2)).length = (outs D a.2).length by simp [ofInts], List.take_length]
        refine hK ρ₂ _ trivial ⟨u1, u2, u3, (hE1.upd hcs).upd hfs, ?_, ?_, ?_, set_self _ _ _⟩
        · rw [set_ne _ _ (Ne.symm hft), set_ne _ _ (Ne.symm hct)]; exact t1
        · rw [set_ne _ _ (Ne.symm hfb), set_ne _ _ (Ne.symm hcb)]; exact t2
        · refine ⟨fun k z hz => ⟨?_, (hL1.got _ _ hz).2⟩, hL1.out, hL1.inj, hL1.len⟩
          have hzc : z ≠ c := by rintro rfl; rw [(hL1.got _ _ hz).1] at hc0; cases hc0
          rw [set_ne _ _ (hfL _ _ hz), set_ne _ _ hzc]; exact (hL1.got _ _ hz).1
    · simp (config := { maxSteps := 10000000 }) only [exs_0, exs_1, ev_int, ev_bool, ev_none, ev_str, ev_Name, ev_BinOp, ev_UnaryOp, ev_BoolOp, ev_Compare, ev_CallA, ev_CallN, ev_Slice, ev_SubN, ev_SubC, ev_SubB, ev_SubU, ev_SubF, ev_SubS, ev_SubT, ev_SubA, ev_List, ev_Tuple, ev_Dict0, ev_Comp, ex_Pass, ex_Expr, ex_RetS, ex_RetN, ex_AName, ex_ATupN, ex_ATupC, ex_ASub, ex_If, ex_For, evs_0, evs_1, evOpt_0, evOpt_1, evBool_1, evBool_and, evBool_or, tst_Not, tst_Bool, tst_Cmp, tst_Name, tst_Call, tst_Sub, tst_Const, tstAll_0a, tstAll_0o, tstAll_1a, tstAll_1o, evCmp_1, evCmp_2, evIfs_0, evIfs_1, bindRho, List.map_cons, List.map_nil, List.lookup_cons, List.lookup_nil, ofString_beq, ofString_inj, ofString_bne, upd, isLoc, String.reduceBEq, String.reduceEq, String.reduceBNe, String.reduceNe, ↓reduceIte, true_and, and_true, cxOf_gl, cxOf_call, cxOf_calm, cxOf_hush, cxOf_pull, cxOf_exc, g07, gl07, deq_int, deq_bool, itemsOf_rng, Option.map_some, fewArgs, bo_add, bo_sub, bo_mul, bo_div, bo_mod, bo_pow, uo_neg, uo_not, tr_none, tr_bool, tr_int, su_tup, su_scr, cv_fn, cv_cls, cv_blt, cv_typ, cb_lenT, cb_lenS, cb_isi, ii_intI, ii_boolI, ii_tupI, ii_intB, ii_boolB, ii_tupB, ii_intT, ii_boolT, ii_tupT, ct_rng1, co_lt, co_le, co_gt, co_ge, co_eq, co_ne, co_in, co_ni, lateM_set, plainBase, bindT_name, bindT_pair, List.length_nil, List.length_cons, Nat.reduceLT, Nat.reduceAdd, decide_true, decide_false, Bool.and_true, Bool.true_and, Bool.and_self, decide_eq_true_eq, decide_eq_false_iff_not, Bool.true_eq_false, Bool.false_eq_true, false_implies, forall_const, true_implies, beq_self_eq_true, Bool.or_true, Bool.true_or, Bool.or_false, Bool.false_or, bne_self_eq_false, set_self, compRho, Bool.not_true, Bool.not_false, Int.zero_add]
      simp only [s3]
      rw [cb_sort (by rw [set_ne _ _ hft]; exact t3), pairsV_length, List.take_length]
      refine ⟨⟨trips_sortable _, by rw [tripsV_length]; exact h64⟩, fun c' hc' => h c' _ ?_ ?_ (set_self _ _ _)⟩
      · exact (hE1.upd ht).off hc'
      · exact (hE1.upd ht).set hc'
end
end Mine

set_option linter.unusedVariables false
set_option linter.unusedSimpArgs false
set_option maxRecDepth 100000
set_option maxHeartbeats 8000000
namespace Mine
open PySem

def arrow7 (l : List Int) (low far : Int) (k : Nat) : Int × Int :=
  let cell := (cellAt l (2 + k) + 13 * k) * 48271 % 10007
  ((cell % 7 - low) * far, (cell / 7 % 7 - low) * far)
def arrows7 (l : List Int) (low far : Int) (n : Nat) : List (Int × Int) := (List.range n).map (arrow7 l low far)

theorem dueIns_mem (ps : List (Int × Int)) (p : Int × Int) (x : Int × Int × Int) : ∀ (l : List (Int × Int)) (f : List (Int × Int × Int)), x ∈ l.foldl (dueIn ps p) f ↔ x ∈ f ∨ ∃ q ∈ l, q.1 = p.2 ∧ (p.1, q.2) ∉ ps ∧ x = (p.1, p.2, q.2)
  | [], f => by simp
  | q :: l, f => by
    rw [List.foldl_cons, dueIns_mem ps p x l]
    unfold dueIn
    by_cases h : q.1 = p.2 ∧ (p.1, q.2) ∉ ps ∧ (p.1, p.2, q.2) ∉ f
    · rw [if_pos h]
      simp only [List.mem_append, List.mem_cons, List.not_mem_nil, or_false]
      constructor
      · rintro ((h1 | h1) | ⟨d, h1, h2⟩)
        · exact .inl h1
        · exact .inr ⟨q, .inl rfl, h.1, h.2.1, h1⟩
        · exact .inr ⟨d, .inr h1, h2⟩
      · rintro (h1 | ⟨d, rfl | h1, h2, h3, h4⟩)
        · exact .inl (.inl h1)
        · exact .inl (.inr h4)
        · exact .inr ⟨d, h1, h2, h3, h4⟩
    · rw [if_neg h]
      simp only [List.mem_cons]
      constructor
      · rintro (h1 | ⟨d, h1, h2⟩)
        · exact .inl h1
        · exact .inr ⟨d, .inr h1, h2⟩
      · rintro (h1 | ⟨d, rfl | h1, h2, h3, h4⟩)
        · exact .inl h1
        · refine .inl ?_
          rw [h4]
          exact Classical.byContradiction fun hx => h ⟨h2, h3, hx⟩
        · exact .inr ⟨d, h1, h2, h3, h4⟩
theorem dueOuts_mem (ps : List (Int × Int)) (x : Int × Int × Int) : ∀ (l : List (Int × Int)) (f : List (Int × Int × Int)), x ∈ l.foldl (dueOut ps) f ↔ x ∈ f ∨ ∃ p ∈ l, ∃ c, (p.2, c) ∈ ps ∧ (p.1, c) ∉ ps ∧ x = (p.1, p.2, c)
  | [], f => by simp
  | p :: l, f => by
    rw [List.foldl_cons, dueOuts_mem ps x l]
    unfold dueOut
    rw [dueIns_mem]
    simp only [List.mem_cons]
    constructor
    · rintro ((h1 | ⟨q, h1, h2, h3, h4⟩) | ⟨q, h1, h2⟩)
      · exact .inl h1
      · exact .inr ⟨p, .inl rfl, q.2, by rw [← h2]; exact h1, h3, h4⟩
      · exact .inr ⟨q, .inr h1, h2⟩
    · rintro (h1 | ⟨q, rfl | h1, c, h2, h3, h4⟩)
      · exact .inl (.inl h1)
      · exact .inl (.inr ⟨(q.2, c), h2, rfl, h3, h4⟩)
      · exact .inr ⟨q, h1, c, h2, h3, h4⟩
theorem dueIns_nodup (ps : List (Int × Int)) (p : Int × Int) : ∀ (l : List (Int × Int)) (f : List (Int × Int × Int)), f.Nodup → (l.foldl (dueIn ps p) f).Nodup
  | [], f, h => h
  | q :: l, f, h => by
    rw [List.foldl_cons]
    refine dueIns_nodup ps p l _ ?_
    unfold dueIn; split
    · rename_i hq; exact snoc_nodup h hq.2.2
    · exact h
theorem dueOuts_nodup (ps : List (Int × Int)) : ∀ (l : List (Int × Int)) (f : List (Int × Int × Int)), f.Nodup → (l.foldl (dueOut ps) f).Nodup
  | [], f, h => h
  | q :: l, f, h => dueOuts_nodup ps l _ (dueIns_nodup ps q ps f h)
/-- the two lookings agree -/
theorem gaps_perm (ps : List (Int × Int)) : (gapsL (ps.foldl addD [])).Perm (dueL ps) := by
  refine (List.perm_ext_iff_of_nodup ?_ (dueOuts_nodup ps ps [] .nil)).mpr fun x => ?_
  · exact gapOuts_nodup _ (addDs_nodup ps [] .nil) _ _ (addDs_nodup ps [] .nil) .nil (fun _ _ _ h => by simp at h)
  · unfold gapsL
    rw [gapOuts_mem, dueOuts_mem]
    simp only [addDs_mem, List.not_mem_nil, false_or]
theorem gaps_due (ps : List (Int × Int)) : sortV (tripsV (gapsL (ps.foldl addD []))) = sortV (tripsV (dueL ps)) :=
  sortV_congr (trips_sortable _) (List.Perm.map _ (gaps_perm ps))
theorem due_few (ps : List (Int × Int)) (h : ps.length ≤ 12) : (dueL ps).length < 64 := by
  rw [← (gaps_perm ps).length_eq]; exact gaps_few ps h

section
variable {w : World} {F : Tab} {B : Heap} {σ : Store} {X : VPost} (U : Sup PySem.Challenge.pw_uf050028_07 w F B g07 names07) (hc : ∀ c, F.cls c = none) (hm : ∀ c n, F.meth c n = none)
include U hc hm

theorem s7_law {d : Nat} {Q : VPost} {l : List Int} (hd : 6 ≤ d) (h : ∀ σ', Q (.bool true) σ') : LCall PySem.Challenge.pw_uf050028_07 w F B d true (.top "law") [.scr l] σ Q X := by
  refine U.run 40 hc hm (by lia) (by decide) (ps := _ :: _) (b := _ :: _) (sc := _) (by with_unfolding_all rfl) rfl ?_
  simp (config := { maxSteps := 10000000 }) only [exs_nil', exs_one, exs_cons', seqK_ret, ev_int, ev_bool, ev_none, ev_str, ev_Name, ev_BinOp, ev_UnaryOp, ev_BoolOp, ev_Compare, ev_CallA, ev_CallN, ev_Slice, ev_SubN, ev_SubC, ev_SubB, ev_SubU, ev_SubF, ev_SubS, ev_SubT, ev_SubA, ev_List, ev_Tuple, ev_Dict0, ev_Comp, ex_Pass, ex_Expr, ex_RetS, ex_RetN, ex_AName, ex_ATupN, ex_ATupC, ex_ASub, ex_If, ex_For, evs_0, evs_1, evOpt_0, evOpt_1, evBool_1, evBool_and, evBool_or, tst_Not, tst_Bool, tst_Cmp, tst_Name, tst_Call, tst_Sub, tst_Const, tstAll_0a, tstAll_0o, tstAll_1a, tstAll_1o, evCmp_1, evCmp_2, evIfs_0, evIfs_1, bindRho, List.map_cons, List.map_nil, List.lookup_cons, List.lookup_nil, ofString_beq, ofString_inj, ofString_bne, upd, isLoc, String.reduceBEq, String.reduceEq, String.reduceBNe, String.reduceNe, ↓reduceIte, true_and, and_true, cxOf_gl, cxOf_call, cxOf_calm, cxOf_hush, cxOf_pull, cxOf_exc, g07, gl07, deq_int, deq_bool, itemsOf_rng, Option.map_some, fewArgs, bo_add, bo_sub, bo_mul, bo_div, bo_mod, bo_pow, uo_neg, uo_not, tr_none, tr_bool, tr_int, su_tup, su_scr, cv_fn, cv_cls, cv_blt, cv_typ, cb_lenT, cb_lenS, cb_isi, ii_intI, ii_boolI, ii_tupI, ii_intB, ii_boolB, ii_tupB, ii_intT, ii_boolT, ii_tupT, ct_rng1, co_lt, co_le, co_gt, co_ge, co_eq, co_ne, co_in, co_ni, lateM_set, plainBase, bindT_name, bindT_pair, List.length_nil, List.length_cons, Nat.reduceLT, Nat.reduceAdd, decide_true, decide_false, Bool.and_true, Bool.true_and, Bool.and_self, decide_eq_true_eq, decide_eq_false_iff_not, Bool.true_eq_false, Bool.false_eq_true, false_implies, forall_const, true_implies, beq_self_eq_true, Bool.or_true, Bool.true_or, Bool.or_false, Bool.false_or, bne_self_eq_false, set_self, compRho, Bool.not_true, Bool.not_false, Int.zero_add]
  refine s7_cell_at U hc hm (k := 0) (by lia) ?_
  simp (config := { maxSteps := 10000000 }) only [exs_nil', exs_one, exs_cons', seqK_ret, ev_int, ev_bool, ev_none, ev_str, ev_Name, ev_BinOp, ev_UnaryOp, ev_BoolOp, ev_Compare, ev_CallA, ev_CallN, ev_Slice, ev_SubN, ev_SubC, ev_SubB, ev_SubU, ev_SubF, ev_SubS, ev_SubT, ev_SubA, ev_List, ev_Tuple, ev_Dict0, ev_Comp, ex_Pass, ex_Expr, ex_RetS, ex_RetN, ex_AName, ex_ATupN, ex_ATupC, ex_ASub, ex_If, ex_For, evs_0, evs_1, evOpt_0, evOpt_1, evBool_1, evBool_and, evBool_or, tst_Not, tst_Bool, tst_Cmp, tst_Name, tst_Call, tst_Sub, tst_Const, tstAll_0a, tstAll_0o, tstAll_1a, tstAll_1o, evCmp_1, evCmp_2, evIfs_0, evIfs_1, bindRho, List.map_cons, List.map_nil, List.lookup_cons, List.lookup_nil, ofString_beq, ofString_inj, ofString_bne, upd, isLoc, String.reduceBEq, String.reduceEq, String.reduceBNe, String.reduceNe, ↓reduceIte, true_and, and_true, cxOf_gl, cxOf_call, cxOf_calm, cxOf_hush, cxOf_pull, cxOf_exc, g07, gl07, deq_int, deq_bool, itemsOf_rng, Option.map_some, fewArgs, bo_add, bo_sub, bo_mul, bo_div, bo_mod, bo_pow, uo_neg, uo_not, tr_none, tr_bool, tr_int, su_tup, su_scr, cv_fn, cv_cls, cv_blt, cv_typ, cb_lenT, cb_lenS, cb_isi, ii_intI, ii_boolI, ii_tupI, ii_intB, ii_boolB, ii_tupB, ii_intT, ii_boolT, ii_tupT, ct_rng1, co_lt, co_le, co_gt, co_ge, co_eq, co_ne, co_in, co_ni, lateM_set, plainBase, bindT_name, bindT_pair, List.length_nil, List.length_cons, Nat.reduceLT, Nat.reduceAdd, decide_true, decide_false, Bool.and_true, Bool.true_and, Bool.and_self, decide_eq_true_eq, decide_eq_false_iff_not, Bool.true_eq_false, Bool.false_eq_true, false_implies, forall_const, true_implies, beq_self_eq_true, Bool.or_true, Bool.true_or, Bool.or_false, Bool.false_or, bne_self_eq_false, set_self, compRho, Bool.not_true, Bool.not_false, Int.zero_add]
  refine ⟨by decide, ?_⟩
  rw [seqK_next]; simp (config := { maxSteps := 10000000 }) only [exs_nil', exs_one, exs_cons', seqK_ret, ev_int, ev_bool, ev_none, ev_str, ev_Name, ev_BinOp, ev_UnaryOp, ev_BoolOp, ev_Compare, ev_CallA, ev_CallN, ev_Slice, ev_SubN, ev_SubC, ev_SubB, ev_SubU, ev_SubF, ev_SubS, ev_SubT, ev_SubA, ev_List, ev_Tuple, ev_Dict0, ev_Comp, ex_Pass, ex_Expr, ex_RetS, ex_RetN, ex_AName, ex_ATupN, ex_ATupC, ex_ASub, ex_If, ex_For, evs_0, evs_1, evOpt_0, evOpt_1, evBool_1, evBool_and, evBool_or, tst_Not, tst_Bool, tst_Cmp, tst_Name, tst_Call, tst_Sub, tst_Const, tstAll_0a, tstAll_0o, tstAll_1a, tstAll_1o, evCmp_1, evCmp_2, evIfs_0, evIfs_1, bindRho, List.map_cons, List.map_nil, List.lookup_cons, List.lookup_nil, ofString_beq, ofString_inj, ofString_bne, upd, isLoc, String.reduceBEq, String.reduceEq, String.reduceBNe, String.reduceNe, ↓reduceIte, true_and, and_true, cxOf_gl, cxOf_call, cxOf_calm, cxOf_hush, cxOf_pull, cxOf_exc, g07, gl07, deq_int, deq_bool, itemsOf_rng, Option.map_some, fewArgs, bo_add, bo_sub, bo_mul, bo_div, bo_mod, bo_pow, uo_neg, uo_not, tr_none, tr_bool, tr_int, su_tup, su_scr, cv_fn, cv_cls, cv_blt, cv_typ, cb_lenT, cb_lenS, cb_isi, ii_intI, ii_boolI, ii_tupI, ii_intB, ii_boolB, ii_tupB, ii_intT, ii_boolT, ii_tupT, ct_rng1, co_lt, co_le, co_gt, co_ge, co_eq, co_ne, co_in, co_ni, lateM_set, plainBase, bindT_name, bindT_pair, List.length_nil, List.length_cons, Nat.reduceLT, Nat.reduceAdd, decide_true, decide_false, Bool.and_true, Bool.true_and, Bool.and_self, decide_eq_true_eq, decide_eq_false_iff_not, Bool.true_eq_false, Bool.false_eq_true, false_implies, forall_const, true_implies, beq_self_eq_true, Bool.or_true, Bool.true_or, Bool.or_false, Bool.false_or, bne_self_eq_false, set_self, compRho, Bool.not_true, Bool.not_false, Int.zero_add]
  rw [seqK_next]; simp (config := { maxSteps := 10000000 }) only [exs_nil', exs_one, exs_cons', seqK_ret, ev_int, ev_bool, ev_none, ev_str, ev_Name, ev_BinOp, ev_UnaryOp, ev_BoolOp, ev_Compare, ev_CallA, ev_CallN, ev_Slice, ev_SubN, ev_SubC, ev_SubB, ev_SubU, ev_SubF, ev_SubS, ev_SubT, ev_SubA, ev_List, ev_Tuple, ev_Dict0, ev_Comp, ex_Pass, ex_Expr, ex_RetS, ex_RetN, ex_AName, ex_ATupN, ex_ATupC, ex_ASub, ex_If, ex_For, evs_0, evs_1, evOpt_0, evOpt_1, evBool_1, evBool_and, evBool_or, tst_Not, tst_Bool, tst_Cmp, tst_Name, tst_Call, tst_Sub, tst_Const, tstAll_0a, tstAll_0o, tstAll_1a, tstAll_1o, evCmp_1, evCmp_2, evIfs_0, evIfs_1, bindRho, List.map_cons, List.map_nil, List.lookup_cons, List.lookup_nil, ofString_beq, ofString_inj, ofString_bne, upd, isLoc, String.reduceBEq, String.reduceEq, String.reduceBNe, String.reduceNe, ↓reduceIte, true_and, and_true, cxOf_gl, cxOf_call, cxOf_calm, cxOf_hush, cxOf_pull, cxOf_exc, g07, gl07, deq_int, deq_bool, itemsOf_rng, Option.map_some, fewArgs, bo_add, bo_sub, bo_mul, bo_div, bo_mod, bo_pow, uo_neg, uo_not, tr_none, tr_bool, tr_int, su_tup, su_scr, cv_fn, cv_cls, cv_blt, cv_typ, cb_lenT, cb_lenS, cb_isi, ii_intI, ii_boolI, ii_tupI, ii_intB, ii_boolB, ii_tupB, ii_intT, ii_boolT, ii_tupT, ct_rng1, co_lt, co_le, co_gt, co_ge, co_eq, co_ne, co_in, co_ni, lateM_set, plainBase, bindT_name, bindT_pair, List.length_nil, List.length_cons, Nat.reduceLT, Nat.reduceAdd, decide_true, decide_false, Bool.and_true, Bool.true_and, Bool.and_self, decide_eq_true_eq, decide_eq_false_iff_not, Bool.true_eq_false, Bool.false_eq_true, false_implies, forall_const, true_implies, beq_self_eq_true, Bool.or_true, Bool.true_or, Bool.or_false, Bool.false_or, bne_self_eq_false, set_self, compRho, Bool.not_true, Bool.not_false, Int.zero_add]
  refine s7_cell_at U hc hm (k := 1) (by lia) ?_
  simp (config := { maxSteps := 10000000 }) only [exs_nil', exs_one, exs_cons', seqK_ret, ev_int, ev_bool, ev_none, ev_str, ev_Name, ev_BinOp, ev_UnaryOp, ev_BoolOp, ev_Compare, ev_CallA, ev_CallN, ev_Slice, ev_SubN, ev_SubC, ev_SubB, ev_SubU, ev_SubF, ev_SubS, ev_SubT, ev_SubA, ev_List, ev_Tuple, ev_Dict0, ev_Comp, ex_Pass, ex_Expr, ex_RetS, ex_RetN, ex_AName, ex_ATupN, ex_ATupC, ex_ASub, ex_If, ex_For, evs_0, evs_1, evOpt_0, evOpt_1, evBool_1, evBool_and, evBool_or, tst_Not, tst_Bool, tst_Cmp, tst_Name, tst_Call, tst_Sub, tst_Const, tstAll_0a, tstAll_0o, tstAll_1a, tstAll_1o, evCmp_1, evCmp_2, evIfs_0, evIfs_1, bindRho, List.map_cons, List.map_nil, List.lookup_cons, List.lookup_nil, ofString_beq, ofString_inj, ofString_bne, upd, isLoc, String.reduceBEq, String.reduceEq, String.reduceBNe, String.reduceNe, ↓reduceIte, true_and, and_true, cxOf_gl, cxOf_call, cxOf_calm, cxOf_hush, cxOf_pull, cxOf_exc, g07, gl07, deq_int, deq_bool, itemsOf_rng, Option.map_some, fewArgs, bo_add, bo_sub, bo_mul, bo_div, bo_mod, bo_pow, uo_neg, uo_not, tr_none, tr_bool, tr_int, su_tup, su_scr, cv_fn, cv_cls, cv_blt, cv_typ, cb_lenT, cb_lenS, cb_isi, ii_intI, ii_boolI, ii_tupI, ii_intB, ii_boolB, ii_tupB, ii_intT, ii_boolT, ii_tupT, ct_rng1, co_lt, co_le, co_gt, co_ge, co_eq, co_ne, co_in, co_ni, lateM_set, plainBase, bindT_name, bindT_pair, List.length_nil, List.length_cons, Nat.reduceLT, Nat.reduceAdd, decide_true, decide_false, Bool.and_true, Bool.true_and, Bool.and_self, decide_eq_true_eq, decide_eq_false_iff_not, Bool.true_eq_false, Bool.false_eq_true, false_implies, forall_const, true_implies, beq_self_eq_true, Bool.or_true, Bool.true_or, Bool.or_false, Bool.false_or, bne_self_eq_false, set_self, compRho, Bool.not_true, Bool.not_false, Int.zero_add]
  refine ⟨by decide, ?_⟩
  refine join3 (fun ρ => ∃ far : Int, ρ "_law_script" = some (.scr l) ∧ ρ "_law_many" = some (.int (cellAt l 0 % 13)) ∧ ρ "_law_far" = some (.int far)) (fun z hcnd => ?_) (fun _ => ⟨_, by simp (config := { maxSteps := 10000000 }) only [exs_nil', exs_one, exs_cons', seqK_ret, ev_int, ev_bool, ev_none, ev_str, ev_Name, ev_BinOp, ev_UnaryOp, ev_BoolOp, ev_Compare, ev_CallA, ev_CallN, ev_Slice, ev_SubN, ev_SubC, ev_SubB, ev_SubU, ev_SubF, ev_SubS, ev_SubT, ev_SubA, ev_List, ev_Tuple, ev_Dict0, ev_Comp, ex_Pass, ex_Expr, ex_RetS, ex_RetN, ex_AName, ex_ATupN, ex_ATupC, ex_ASub, ex_If, ex_For, evs_0, evs_1, evOpt_0, evOpt_1, evBool_1, evBool_and, evBool_or, tst_Not, tst_Bool, tst_Cmp, tst_Name, tst_Call, tst_Sub, tst_Const, tstAll_0a, tstAll_0o, tstAll_1a, tstAll_1o, evCmp_1, evCmp_2, evIfs_0, evIfs_1, bindRho, List.map_cons, List.map_nil, List.lookup_cons, List.lookup_nil, ofString_beq, ofString_inj, ofString_bne, upd, isLoc, String.reduceBEq, String.reduceEq, String.reduceBNe, String.reduceNe, ↓reduceIte, true_and, and_true, cxOf_gl, cxOf_call, cxOf_calm, cxOf_hush, cxOf_pull, cxOf_exc, g07, gl07, deq_int, deq_bool, itemsOf_rng, Option.map_some, fewArgs, bo_add, bo_sub, bo_mul, bo_div, bo_mod, bo_pow, uo_neg, uo_not, tr_none, tr_bool, tr_int, su_tup, su_scr, cv_fn, cv_cls, cv_blt, cv_typ, cb_lenT, cb_lenS, cb_isi, ii_intI, ii_boolI, ii_tupI, ii_intB, ii_boolB, ii_tupB, ii_intT, ii_boolT, ii_tupT, ct_rng1, co_lt, co_le, co_gt, co_ge, co_eq, co_ne, co_in, co_ni, lateM_set, plainBase, bindT_name, bindT_pair, List.length_nil, List.length_cons, Nat.reduceLT, Nat.reduceAdd, decide_true, decide_false, Bool.and_true, Bool.true_and, Bool.and_self, decide_eq_true_eq, decide_eq_false_iff_not, Bool.true_eq_false, Bool.false_eq_true, false_implies, forall_const, true_implies, beq_self_eq_true, Bool.or_true, Bool.true_or, Bool.or_false, Bool.false_or, bne_self_eq_false, set_self, compRho, Bool.not_true, Bool.not_false, Int.zero_add], by simp (config := { maxSteps := 10000000 }) only [exs_nil', exs_one, exs_cons', seqK_ret, ev_int, ev_bool, ev_none, ev_str, ev_Name, ev_BinOp, ev_UnaryOp, ev_BoolOp, ev_Compare, ev_CallA, ev_CallN, ev_Slice, ev_SubN, ev_SubC, ev_SubB, ev_SubU, ev_SubF, ev_SubS, ev_SubT, ev_SubA, ev_List, ev_Tuple, ev_Dict0, ev_Comp, ex_Pass, ex_Expr, ex_RetS, ex_RetN, ex_AName, ex_ATupN, ex_ATupC, ex_ASub, ex_If, ex_For, evs_0, evs_1, evOpt_0, evOpt_1, evBool_1, evBool_and, evBool_or, tst_Not, tst_Bool, tst_Cmp, tst_Name, tst_Call, tst_Sub, tst_Const, tstAll_0a, tstAll_0o, tstAll_1a, tstAll_1o, evCmp_1, evCmp_2, evIfs_0, evIfs_1, bindRho, List.map_cons, List.map_nil, List.lookup_cons, List.lookup_nil, ofString_beq, ofString_inj, ofString_bne, upd, isLoc, String.reduceBEq, String.reduceEq, String.reduceBNe, String.reduceNe, ↓reduceIte, true_and, and_true, cxOf_gl, cxOf_call, cxOf_calm, cxOf_hush, cxOf_pull, cxOf_exc, g07, gl07, deq_int, deq_bool, itemsOf_rng, Option.map_some, fewArgs, bo_add, bo_sub, bo_mul, bo_div, bo_mod, bo_pow, uo_neg, uo_not, tr_none, tr_bool, tr_int, su_tup, su_scr, cv_fn, cv_cls, cv_blt, cv_typ, cb_lenT, cb_lenS, cb_isi, ii_intI, ii_boolI, ii_tupI, ii_intB, ii_boolB, ii_tupB, ii_intT, ii_boolT, ii_tupT, ct_rng1, co_lt, co_le, co_gt, co_ge, co_eq, co_ne, co_in, co_ni, lateM_set, plainBase, bindT_name, bindT_pair, List.length_nil, List.length_cons, Nat.reduceLT, Nat.reduceAdd, decide_true, decide_false, Bool.and_true, Bool.true_and, Bool.and_self, decide_eq_true_eq, decide_eq_false_iff_not, Bool.true_eq_false, Bool.false_eq_true, false_implies, forall_const, true_implies, beq_self_eq_true, Bool.or_true, Bool.true_or, Bool.or_false, Bool.false_or, bne_self_eq_false, set_self, compRho, Bool.not_true, Bool.not_false, Int.zero_add], by simp (config := { maxSteps := 10000000 }) only [exs_nil', exs_one, exs_cons', seqK_ret, ev_int, ev_bool, ev_none, ev_str, ev_Name, ev_BinOp, ev_UnaryOp, ev_BoolOp, ev_Compare, ev_CallA, ev_CallN, ev_Slice, ev_SubN, ev_SubC, ev_SubB, ev_SubU, ev_SubF, ev_SubS, ev_SubT, ev_SubA, ev_List, ev_Tuple, ev_Dict0, ev_Comp, ex_Pass, ex_Expr, ex_RetS, ex_RetN, ex_AName, ex_ATupN, ex_ATupC, ex_ASub, ex_If, ex_For, evs_0, evs_1, evOpt_0, evOpt_1, evBool_1, evBool_and, evBool_or, tst_Not, tst_Bool, tst_Cmp, tst_Name, tst_Call, tst_Sub, tst_Const, tstAll_0a, tstAll_0o, tstAll_1a, tstAll_1o, evCmp_1, evCmp_2, evIfs_0, evIfs_1, bindRho, List.map_cons, List.map_nil, List.lookup_cons, List.lookup_nil, ofString_beq, ofString_inj, ofString_bne, upd, isLoc, String.reduceBEq, String.reduceEq, String.reduceBNe, String.reduceNe, ↓reduceIte, true_and, and_true, cxOf_gl, cxOf_call, cxOf_calm, cxOf_hush, cxOf_pull, cxOf_exc, g07, gl07, deq_int, deq_bool, itemsOf_rng, Option.map_some, fewArgs, bo_add, bo_sub, bo_mul, bo_div, bo_mod, bo_pow, uo_neg, uo_not, tr_none, tr_bool, tr_int, su_tup, su_scr, cv_fn, cv_cls, cv_blt, cv_typ, cb_lenT, cb_lenS, cb_isi, ii_intI, ii_boolI, ii_tupI, ii_intB, ii_boolB, ii_tupB, ii_intT, ii_boolT, ii_tupT, ct_rng1, co_lt, co_le, co_gt, co_ge, co_eq, co_ne, co_in, co_ni, lateM_set, plainBase, bindT_name, bindT_pair, List.length_nil, List.length_cons, Nat.reduceLT, Nat.reduceAdd, decide_true, decide_false, Bool.and_true, Bool.true_and, Bool.and_self, decide_eq_true_eq, decide_eq_false_iff_not, Bool.true_eq_false, Bool.false_eq_true, false_implies, forall_const, true_implies, beq_self_eq_true, Bool.or_true, Bool.true_or, Bool.or_false, Bool.false_or, bne_self_eq_false, set_self, compRho, Bool.not_true, Bool.not_false, Int.zero_add]; rfl⟩) fun ρ ⟨far, r1, r2, r3⟩ => ?_
  · refine s7_cell_at U hc hm (k := 1) (by lia) ?_
    simp (config := { maxSteps := 10000000 }) only [exs_nil', exs_one, exs_cons', seqK_ret, ev_int, ev_bool, ev_none, ev_str, ev_Name, ev_BinOp, ev_UnaryOp, ev_BoolOp, ev_Compare, ev_CallA, ev_CallN, ev_Slice, ev_SubN, ev_SubC, ev_SubB, ev_SubU, ev_SubF, ev_SubS, ev_SubT, ev_SubA, ev_List, ev_Tuple, ev_Dict0, ev_Comp, ex_Pass, ex_Expr, ex_RetS, ex_RetN, ex_AName, ex_ATupN, ex_ATupC, ex_ASub, ex_If, ex_For, evs_0, evs_1, evOpt_0, evOpt_1, evBool_1, evBool_and, evBool_or, tst_Not, tst_Bool, tst_Cmp, tst_Name, tst_Call, tst_Sub, tst_Const, tstAll_0a, tstAll_0o, tstAll_1a, tstAll_1o, evCmp_1, evCmp_2, evIfs_0, evIfs_1, bindRho, List.map_cons, List.map_nil, List.lookup_cons, List.lookup_nil, ofString_beq, ofString_inj, ofString_bne, upd, isLoc, String.reduceBEq, String.reduceEq, String.reduceBNe, String.reduceNe, ↓reduceIte, true_and, and_true, cxOf_gl, cxOf_call, cxOf_calm, cxOf_hush, cxOf_pull, cxOf_exc, g07, gl07, deq_int, deq_bool, itemsOf_rng, Option.map_some, fewArgs, bo_add, bo_sub, bo_mul, bo_div, bo_mod, bo_pow, uo_neg, uo_not, tr_none, tr_bool, tr_int, su_tup, su_scr, cv_fn, cv_cls, cv_blt, cv_typ, cb_lenT, cb_lenS, cb_isi, ii_intI, ii_boolI, ii_tupI, ii_intB, ii_boolB, ii_tupB, ii_intT, ii_boolT, ii_tupT, ct_rng1, co_lt, co_le, co_gt, co_ge, co_eq, co_ne, co_in, co_ni, lateM_set, plainBase, bindT_name, bindT_pair, List.length_nil, List.length_cons, Nat.reduceLT, Nat.reduceAdd, decide_true, decide_false, Bool.and_true, Bool.true_and, Bool.and_self, decide_eq_true_eq, decide_eq_false_iff_not, Bool.true_eq_false, Bool.false_eq_true, false_implies, forall_const, true_implies, beq_self_eq_true, Bool.or_true, Bool.true_or, Bool.or_false, Bool.false_or, bne_self_eq_false, set_self, compRho, Bool.not_true, Bool.not_false, Int.zero_add]
    exact ⟨⟨by decide, by simp [short]⟩, ⟨by decide, by decide⟩, by decide, z _ ⟨_, by simp (config := { maxSteps := 10000000 }) only [exs_nil', exs_one, exs_cons', seqK_ret, ev_int, ev_bool, ev_none, ev_str, ev_Name, ev_BinOp, ev_UnaryOp, ev_BoolOp, ev_Compare, ev_CallA, ev_CallN, ev_Slice, ev_SubN, ev_SubC, ev_SubB, ev_SubU, ev_SubF, ev_SubS, ev_SubT, ev_SubA, ev_List, ev_Tuple, ev_Dict0, ev_Comp, ex_Pass, ex_Expr, ex_RetS, ex_RetN, ex_AName, ex_ATupN, ex_ATupC, ex_ASub, ex_If, ex_For, evs_0, evs_1, evOpt_0, evOpt_1, evBool_1, evBool_and, evBool_or, tst_Not, tst_Bool, tst_Cmp, tst_Name, tst_Call, tst_Sub, tst_Const, tstAll_0a, tstAll_0o, tstAll_1a, tstAll_1o, evCmp_1, evCmp_2, evIfs_0, evIfs_1, bindRho, List.map_cons, List.map_nil, List.lookup_cons, List.lookup_nil, ofString_beq, ofString_inj, ofString_bne, upd, isLoc, String.reduceBEq, String.reduceEq, String.reduceBNe, String.reduceNe, ↓reduceIte, true_and, and_true, cxOf_gl, cxOf_call, cxOf_calm, cxOf_hush, cxOf_pull, cxOf_exc, g07, gl07, deq_int, deq_bool, itemsOf_rng, Option.map_some, fewArgs, bo_add, bo_sub, bo_mul, bo_div, bo_mod, bo_pow, uo_neg, uo_not, tr_none, tr_bool, tr_int, su_tup, su_scr, cv_fn, cv_cls, cv_blt, cv_typ, cb_lenT, cb_lenS, cb_isi, ii_intI, ii_boolI, ii_tupI, ii_intB, ii_boolB, ii_tupB, ii_intT, ii_boolT, ii_tupT, ct_rng1, co_lt, co_le, co_gt, co_ge, co_eq, co_ne, co_in, co_ni, lateM_set, plainBase, bindT_name, bindT_pair, List.length_nil, List.length_cons, Nat.reduceLT, Nat.reduceAdd, decide_true, decide_false, Bool.and_true, Bool.true_and, Bool.and_self, decide_eq_true_eq, decide_eq_false_iff_not, Bool.true_eq_false, Bool.false_eq_true, false_implies, forall_const, true_implies, beq_self_eq_true, Bool.or_true, Bool.true_or, Bool.or_false, Bool.false_or, bne_self_eq_false, set_self, compRho, Bool.not_true, Bool.not_false, Int.zero_add], by simp (config := { maxSteps := 10000000 }) only [exs_nil', exs_one, exs_cons', seqK_ret, ev_int, ev_bool, ev_none, ev_str, ev_Name, ev_BinOp, ev_UnaryOp, ev_BoolOp, ev_Compare, ev_CallA, ev_CallN, ev_Slice, ev_SubN, ev_SubC, ev_SubB, ev_SubU, ev_SubF, ev_SubS, ev_SubT, ev_SubA, ev_List, ev_Tuple, ev_Dict0, ev_Comp, ex_Pass, ex_Expr, ex_RetS, ex_RetN, ex_AName, ex_ATupN, ex_ATupC, ex_ASub, ex_If, ex_For, evs_0, evs_1, evOpt_0, evOpt_1, evBool_1, evBool_and, evBool_or, tst_Not, tst_Bool, tst_Cmp, tst_Name, tst_Call, tst_Sub, tst_Const, tstAll_0a, tstAll_0o, tstAll_1a, tstAll_1o, evCmp_1, evCmp_2, evIfs_0, evIfs_1, bindRho, List.map_cons, List.map_nil, List.lookup_cons, List.lookup_nil, ofString_beq, ofString_inj, ofString_bne, upd, isLoc, String.reduceBEq, String.reduceEq, String.reduceBNe, String.reduceNe, ↓reduceIte, true_and, and_true, cxOf_gl, cxOf_call, cxOf_calm, cxOf_hush, cxOf_pull, cxOf_exc, g07, gl07, deq_int, deq_bool, itemsOf_rng, Option.map_some, fewArgs, bo_add, bo_sub, bo_mul, bo_div, bo_mod, bo_pow, uo_neg, uo_not, tr_none, tr_bool, tr_int, su_tup, su_scr, cv_fn, cv_cls, cv_blt, cv_typ, cb_lenT, cb_lenS, cb_isi, ii_intI, ii_boolI, ii_tupI, ii_intB, ii_boolB, ii_tupB, ii_intT, ii_boolT, ii_tupT, ct_rng1, co_lt, co_le, co_gt, co_ge, co_eq, co_ne, co_in, co_ni, lateM_set, plainBase, bindT_name, bindT_pair, List.length_nil, List.length_cons, Nat.reduceLT, Nat.reduceAdd, decide_true, decide_false, Bool.and_true, Bool.true_and, Bool.and_self, decide_eq_true_eq, decide_eq_false_iff_not, Bool.true_eq_false, Bool.false_eq_true, false_implies, forall_const, true_implies, beq_self_eq_true, Bool.or_true, Bool.true_or, Bool.or_false, Bool.false_or, bne_self_eq_false, set_self, compRho, Bool.not_true, Bool.not_false, Int.zero_add], by simp (config := { maxSteps := 10000000 }) only [exs_nil', exs_one, exs_cons', seqK_ret, ev_int, ev_bool, ev_none, ev_str, ev_Name, ev_BinOp, ev_UnaryOp, ev_BoolOp, ev_Compare, ev_CallA, ev_CallN, ev_Slice, ev_SubN, ev_SubC, ev_SubB, ev_SubU, ev_SubF, ev_SubS, ev_SubT, ev_SubA, ev_List, ev_Tuple, ev_Dict0, ev_Comp, ex_Pass, ex_Expr, ex_RetS, ex_RetN, ex_AName, ex_ATupN, ex_ATupC, ex_ASub, ex_If, ex_For, evs_0, evs_1, evOpt_0, evOpt_1, evBool_1, evBool_and, evBool_or, tst_Not, tst_Bool, tst_Cmp, tst_Name, tst_Call, tst_Sub, tst_Const, tstAll_0a, tstAll_0o, tstAll_1a, tstAll_1o, evCmp_1, evCmp_2, evIfs_0, evIfs_1, bindRho, List.map_cons, List.map_nil, List.lookup_cons, List.lookup_nil, ofString_beq, ofString_inj, ofString_bne, upd, isLoc, String.reduceBEq, String.reduceEq, String.reduceBNe, String.reduceNe, ↓reduceIte, true_and, and_true, cxOf_gl, cxOf_call, cxOf_calm, cxOf_hush, cxOf_pull, cxOf_exc, g07, gl07, deq_int, deq_bool, itemsOf_rng, Option.map_some, fewArgs, bo_add, bo_sub, bo_mul, bo_div, bo_mod, bo_pow, uo_neg, uo_not, tr_none, tr_bool, tr_int, su_tup, su_scr, cv_fn, cv_cls, cv_blt, cv_typ, cb_lenT, cb_lenS, cb_isi, ii_intI, ii_boolI, ii_tupI, ii_intB, ii_boolB, ii_tupB, ii_intT, ii_boolT, ii_tupT, ct_rng1, co_lt, co_le, co_gt, co_ge, co_eq, co_ne, co_in, co_ni, lateM_set, plainBase, bindT_name, bindT_pair, List.length_nil, List.length_cons, Nat.reduceLT, Nat.reduceAdd, decide_true, decide_false, Bool.and_true, Bool.true_and, Bool.and_self, decide_eq_true_eq, decide_eq_false_iff_not, Bool.true_eq_false, Bool.false_eq_true, false_implies, forall_const, true_implies, beq_self_eq_true, Bool.or_true, Bool.true_or, Bool.or_false, Bool.false_or, bne_self_eq_false, set_self, compRho, Bool.not_true, Bool.not_false, Int.zero_add]; rfl⟩⟩
  simp (config := { maxSteps := 10000000 }) only [exs_nil', exs_one, exs_cons', seqK_ret, ev_int, ev_bool, ev_none, ev_str, ev_Name, ev_BinOp, ev_UnaryOp, ev_BoolOp, ev_Compare, ev_CallA, ev_CallN, ev_Slice, ev_SubN, ev_SubC, ev_SubB, ev_SubU, ev_SubF, ev_SubS, ev_SubT, ev_SubA, ev_List, ev_Tuple, ev_Dict0, ev_Comp, ex_Pass, ex_Expr, ex_RetS, ex_RetN, ex_AName, ex_ATupN, ex_ATupC, ex_ASub, ex_If, ex_For, evs_0, evs_1, evOpt_0, evOpt_1, evBool_1, evBool_and, evBool_or, tst_Not, tst_Bool, tst_Cmp, tst_Name, tst_Call, tst_Sub, tst_Const, tstAll_0a, tstAll_0o, tstAll_1a, tstAll_1o, evCmp_1, evCmp_2, evIfs_0, evIfs_1, bindRho, List.map_cons, List.map_nil, List.lookup_cons, List.lookup_nil, ofString_beq, ofString_inj, ofString_bne, upd, isLoc, String.reduceBEq, String.reduceEq, String.reduceBNe, String.reduceNe, ↓reduceIte, true_and, and_true, cxOf_gl, cxOf_call, cxOf_calm, cxOf_hush, cxOf_pull, cxOf_exc, g07, gl07, deq_int, deq_bool, itemsOf_rng, Option.map_some, fewArgs, bo_add, bo_sub, bo_mul, bo_div, bo_mod, bo_pow, uo_neg, uo_not, tr_none, tr_bool, tr_int, su_tup, su_scr, cv_fn, cv_cls, cv_blt, cv_typ, cb_lenT, cb_lenS, cb_isi, ii_intI, ii_boolI, ii_tupI, ii_intB, ii_boolB, ii_tupB, ii_intT, ii_boolT, ii_tupT, ct_rng1, co_lt, co_le, co_gt, co_ge, co_eq, co_ne, co_in, co_ni, lateM_set, plainBase, bindT_name, bindT_pair, List.length_nil, List.length_cons, Nat.reduceLT, Nat.reduceAdd, decide_true, decide_false, Bool.and_true, Bool.true_and, Bool.and_self, decide_eq_true_eq, decide_eq_false_iff_not, Bool.true_eq_false, Bool.false_eq_true, false_implies, forall_const, true_implies, beq_self_eq_true, Bool.or_true, Bool.true_or, Bool.or_false, Bool.false_or, bne_self_eq_false, set_self, compRho, Bool.not_true, Bool.not_false, Int.zero_add]
  simp only [r1]
  refine s7_cell_at U hc hm (k := 1) (by lia) ?_
  simp (config := { maxSteps := 10000000 }) only [exs_nil', exs_one, exs_cons', seqK_ret, ev_int, ev_bool, ev_none, ev_str, ev_Name, ev_BinOp, ev_UnaryOp, ev_BoolOp, ev_Compare, ev_CallA, ev_CallN, ev_Slice, ev_SubN, ev_SubC, ev_SubB, ev_SubU, ev_SubF, ev_SubS, ev_SubT, ev_SubA, ev_List, ev_Tuple, ev_Dict0, ev_Comp, ex_Pass, ex_Expr, ex_RetS, ex_RetN, ex_AName, ex_ATupN, ex_ATupC, ex_ASub, ex_If, ex_For, evs_0, evs_1, evOpt_0, evOpt_1, evBool_1, evBool_and, evBool_or, tst_Not, tst_Bool, tst_Cmp, tst_Name, tst_Call, tst_Sub, tst_Const, tstAll_0a, tstAll_0o, tstAll_1a, tstAll_1o, evCmp_1, evCmp_2, evIfs_0, evIfs_1, bindRho, List.map_cons, List.map_nil, List.lookup_cons, List.lookup_nil, ofString_beq, ofString_inj, ofString_bne, upd, isLoc, String.reduceBEq, String.reduceEq, String.reduceBNe, String.reduceNe, ↓reduceIte, true_and, and_true, cxOf_gl, cxOf_call, cxOf_calm, cxOf_hush, cxOf_pull, cxOf_exc, g07, gl07, deq_int, deq_bool, itemsOf_rng, Option.map_some, fewArgs, bo_add, bo_sub, bo_mul, bo_div, bo_mod, bo_pow, uo_neg, uo_not, tr_none, tr_bool, tr_int, su_tup, su_scr, cv_fn, cv_cls, cv_blt, cv_typ, cb_lenT, cb_lenS, cb_isi, ii_intI, ii_boolI, ii_tupI, ii_intB, ii_boolB, ii_tupB, ii_intT, ii_boolT, ii_tupT, ct_rng1, co_lt, co_le, co_gt, co_ge, co_eq, co_ne, co_in, co_ni, lateM_set, plainBase, bindT_name, bindT_pair, List.length_nil, List.length_cons, Nat.reduceLT, Nat.reduceAdd, decide_true, decide_false, Bool.and_true, Bool.true_and, Bool.and_self, decide_eq_true_eq, decide_eq_false_iff_not, Bool.true_eq_false, Bool.false_eq_true, false_implies, forall_const, true_implies, beq_self_eq_true, Bool.or_true, Bool.true_or, Bool.or_false, Bool.false_or, bne_self_eq_false, set_self, compRho, Bool.not_true, Bool.not_false, Int.zero_add]
  refine ⟨by decide, .inr (by simp [short]), ?_⟩
  rw [seqK_next]; simp (config := { maxSteps := 10000000 }) only [exs_nil', exs_one, exs_cons', seqK_ret, ev_int, ev_bool, ev_none, ev_str, ev_Name, ev_BinOp, ev_UnaryOp, ev_BoolOp, ev_Compare, ev_CallA, ev_CallN, ev_Slice, ev_SubN, ev_SubC, ev_SubB, ev_SubU, ev_SubF, ev_SubS, ev_SubT, ev_SubA, ev_List, ev_Tuple, ev_Dict0, ev_Comp, ex_Pass, ex_Expr, ex_RetS, ex_RetN, ex_AName, ex_ATupN, ex_ATupC, ex_ASub, ex_If, ex_For, evs_0, evs_1, evOpt_0, evOpt_1, evBool_1, evBool_and, evBool_or, tst_Not, tst_Bool, tst_Cmp, tst_Name, tst_Call, tst_Sub, tst_Const, tstAll_0a, tstAll_0o, tstAll_1a, tstAll_1o, evCmp_1, evCmp_2, evIfs_0, evIfs_1, bindRho, List.map_cons, List.map_nil, List.lookup_cons, List.lookup_nil, ofString_beq, ofString_inj, ofString_bne, upd, isLoc, String.reduceBEq, String.reduceEq, String.reduceBNe, String.reduceNe, ↓reduceIte, true_and, and_true, cxOf_gl, cxOf_call, cxOf_calm, cxOf_hush, cxOf_pull, cxOf_exc, g07, gl07, deq_int, deq_bool, itemsOf_rng, Option.map_some, fewArgs, bo_add, bo_sub, bo_mul, bo_div, bo_mod, bo_pow, uo_neg, uo_not, tr_none, tr_bool, tr_int, su_tup, su_scr, cv_fn, cv_cls, cv_blt, cv_typ, cb_lenT, cb_lenS, cb_isi, ii_intI, ii_boolI, ii_tupI, ii_intB, ii_boolB, ii_tupB, ii_intT, ii_boolT, ii_tupT, ct_rng1, co_lt, co_le, co_gt, co_ge, co_eq, co_ne, co_in, co_ni, lateM_set, plainBase, bindT_name, bindT_pair, List.length_nil, List.length_cons, Nat.reduceLT, Nat.reduceAdd, decide_true, decide_false, Bool.and_true, Bool.true_and, Bool.and_self, decide_eq_true_eq, decide_eq_false_iff_not, Bool.true_eq_false, Bool.false_eq_true, false_implies, forall_const, true_implies, beq_self_eq_true, Bool.or_true, Bool.true_or, Bool.or_false, Bool.false_or, bne_self_eq_false, set_self, compRho, Bool.not_true, Bool.not_false, Int.zero_add]
  intro A hA
  rw [seqK_next]; simp (config := { maxSteps := 10000000 }) only [exs_nil', exs_one, exs_cons', seqK_ret, ev_int, ev_bool, ev_none, ev_str, ev_Name, ev_BinOp, ev_UnaryOp, ev_BoolOp, ev_Compare, ev_CallA, ev_CallN, ev_Slice, ev_SubN, ev_SubC, ev_SubB, ev_SubU, ev_SubF, ev_SubS, ev_SubT, ev_SubA, ev_List, ev_Tuple, ev_Dict0, ev_Comp, ex_Pass, ex_Expr, ex_RetS, ex_RetN, ex_AName, ex_ATupN, ex_ATupC, ex_ASub, ex_If, ex_For, evs_0, evs_1, evOpt_0, evOpt_1, evBool_1, evBool_and, evBool_or, tst_Not, tst_Bool, tst_Cmp, tst_Name, tst_Call, tst_Sub, tst_Const, tstAll_0a, tstAll_0o, tstAll_1a, tstAll_1o, evCmp_1, evCmp_2, evIfs_0, evIfs_1, bindRho, List.map_cons, List.map_nil, List.lookup_cons, List.lookup_nil, ofString_beq, ofString_inj, ofString_bne, upd, isLoc, String.reduceBEq, String.reduceEq, String.reduceBNe, String.reduceNe, ↓reduceIte, true_and, and_true, cxOf_gl, cxOf_call, cxOf_calm, cxOf_hush, cxOf_pull, cxOf_exc, g07, gl07, deq_int, deq_bool, itemsOf_rng, Option.map_some, fewArgs, bo_add, bo_sub, bo_mul, bo_div, bo_mod, bo_pow, uo_neg, uo_not, tr_none, tr_bool, tr_int, su_tup, su_scr, cv_fn, cv_cls, cv_blt, cv_typ, cb_lenT, cb_lenS, cb_isi, ii_intI, ii_boolI, ii_tupI, ii_intB, ii_boolB, ii_tupB, ii_intT, ii_boolT, ii_tupT, ct_rng1, co_lt, co_le, co_gt, co_ge, co_eq, co_ne, co_in, co_ni, lateM_set, plainBase, bindT_name, bindT_pair, List.length_nil, List.length_cons, Nat.reduceLT, Nat.reduceAdd, decide_true, decide_false, Bool.and_true, Bool.true_and, Bool.and_self, decide_eq_true_eq, decide_eq_false_iff_not, Bool.true_eq_false, Bool.false_eq_true, false_implies, forall_const, true_implies, beq_self_eq_true, Bool.or_true, Bool.true_or, Bool.or_false, Bool.false_or, bne_self_eq_false, set_self, compRho, Bool.not_true, Bool.not_false, Int.zero_add]
  simp only [r2]
  have hcap : cap = 1000000 := rfl
  have hm13 : 0 ≤ cellAt l 0 % 13 ∧ cellAt l 0 % 13 < 13 := ⟨Int.emod_nonneg _ (by decide), Int.emod_lt_of_pos _ (by decide)⟩
  refine ⟨⟨by lia, by lia⟩, ?_⟩
  have hlow : 0 ≤ cellAt l 1 % 2 * 3 ∧ cellAt l 1 % 2 * 3 ≤ 3 := by
    have h1 := Int.emod_nonneg (cellAt l 1) (by decide : (2 : Int) ≠ 0)
    have h2 := Int.emod_lt_of_pos (cellAt l 1) (by decide : (0 : Int) < 2)
    lia
  generalize hL : cellAt l 1 % 2 * 3 = low at *
  generalize hN : cellAt l 0 % 13 = many at *
  simp (config := { maxSteps := 10000000 }) only [exs_nil', exs_one, exs_cons', seqK_ret, ev_int, ev_bool, ev_none, ev_str, ev_Name, ev_BinOp, ev_UnaryOp, ev_BoolOp, ev_Compare, ev_CallA, ev_CallN, ev_Slice, ev_SubN, ev_SubC, ev_SubB, ev_SubU, ev_SubF, ev_SubS, ev_SubT, ev_SubA, ev_List, ev_Tuple, ev_Dict0, ev_Comp, ex_Pass, ex_Expr, ex_RetS, ex_RetN, ex_AName, ex_ATupN, ex_ATupC, ex_ASub, ex_If, ex_For, evs_0, evs_1, evOpt_0, evOpt_1, evBool_1, evBool_and, evBool_or, tst_Not, tst_Bool, tst_Cmp, tst_Name, tst_Call, tst_Sub, tst_Const, tstAll_0a, tstAll_0o, tstAll_1a, tstAll_1o, evCmp_1, evCmp_2, evIfs_0, evIfs_1, bindRho, List.map_cons, List.map_nil, List.lookup_cons, List.lookup_nil, ofString_beq, ofString_inj, ofString_bne, upd, isLoc, String.reduceBEq, String.reduceEq, String.reduceBNe, String.reduceNe, ↓reduceIte, true_and, and_true, cxOf_gl, cxOf_call, cxOf_calm, cxOf_hush, cxOf_pull, cxOf_exc, g07, gl07, deq_int, deq_bool, itemsOf_rng, Option.map_some, fewArgs, bo_add, bo_sub, bo_mul, bo_div, bo_mod, bo_pow, uo_neg, uo_not, tr_none, tr_bool, tr_int, su_tup, su_scr, cv_fn, cv_cls, cv_blt, cv_typ, cb_lenT, cb_lenS, cb_isi, ii_intI, ii_boolI, ii_tupI, ii_intB, ii_boolB, ii_tupB, ii_intT, ii_boolT, ii_tupT, ct_rng1, co_lt, co_le, co_gt, co_ge, co_eq, co_ne, co_in, co_ni, lateM_set, plainBase, bindT_name, bindT_pair, List.length_nil, List.length_cons, Nat.reduceLT, Nat.reduceAdd, decide_true, decide_false, Bool.and_true, Bool.true_and, Bool.and_self, decide_eq_true_eq, decide_eq_false_iff_not, Bool.true_eq_false, Bool.false_eq_true, false_implies, forall_const, true_implies, beq_self_eq_true, Bool.or_true, Bool.true_or, Bool.or_false, Bool.false_or, bne_self_eq_false, set_self, compRho, Bool.not_true, Bool.not_false, Int.zero_add]
  rw [forV_rng]
  simp (config := { maxSteps := 10000000 }) only [exs_nil', exs_one, exs_cons', seqK_ret, ev_int, ev_bool, ev_none, ev_str, ev_Name, ev_BinOp, ev_UnaryOp, ev_BoolOp, ev_Compare, ev_CallA, ev_CallN, ev_Slice, ev_SubN, ev_SubC, ev_SubB, ev_SubU, ev_SubF, ev_SubS, ev_SubT, ev_SubA, ev_List, ev_Tuple, ev_Dict0, ev_Comp, ex_Pass, ex_Expr, ex_RetS, ex_RetN, ex_AName, ex_ATupN, ex_ATupC, ex_ASub, ex_If, ex_For, evs_0, evs_1, evOpt_0, evOpt_1, evBool_1, evBool_and, evBool_or, tst_Not, tst_Bool, tst_Cmp, tst_Name, tst_Call, tst_Sub, tst_Const, tstAll_0a, tstAll_0o, tstAll_1a, tstAll_1o, evCmp_1, evCmp_2, evIfs_0, evIfs_1, bindRho, List.map_cons, List.map_nil, List.lookup_cons, List.lookup_nil, ofString_beq, ofString_inj, ofString_bne, upd, isLoc, String.reduceBEq, String.reduceEq, String.reduceBNe, String.reduceNe, ↓reduceIte, true_and, and_true, cxOf_gl, cxOf_call, cxOf_calm, cxOf_hush, cxOf_pull, cxOf_exc, g07, gl07, deq_int, deq_bool, itemsOf_rng, Option.map_some, fewArgs, bo_add, bo_sub, bo_mul, bo_div, bo_mod, bo_pow, uo_neg, uo_not, tr_none, tr_bool, tr_int, su_tup, su_scr, cv_fn, cv_cls, cv_blt, cv_typ, cb_lenT, cb_lenS, cb_isi, ii_intI, ii_boolI, ii_tupI, ii_intB, ii_boolB, ii_tupB, ii_intT, ii_boolT, ii_tupT, ct_rng1, co_lt, co_le, co_gt, co_ge, co_eq, co_ne, co_in, co_ni, lateM_set, plainBase, bindT_name, bindT_pair, List.length_nil, List.length_cons, Nat.reduceLT, Nat.reduceAdd, decide_true, decide_false, Bool.and_true, Bool.true_and, Bool.and_self, decide_eq_true_eq, decide_eq_false_iff_not, Bool.true_eq_false, Bool.false_eq_true, false_implies, forall_const, true_implies, beq_self_eq_true, Bool.or_true, Bool.true_or, Bool.or_false, Bool.false_or, bne_self_eq_false, set_self, compRho, Bool.not_true, Bool.not_false, Int.zero_add]
  refine forLoop_inv (fun i ρ' σ' => ρ' "_law_script" = some (.scr l) ∧ ρ' "_law_far" = some (.int far) ∧ ρ' "_law_low" = some (.int low) ∧ ρ' "_law_arrows" = some (.ref A) ∧ i ≤ 13 ∧ σ' = σ.set A (.list (pairsV (arrows7 l low far i))))
    ⟨by simp (config := { maxSteps := 10000000 }) only [exs_nil', exs_one, exs_cons', seqK_ret, ev_int, ev_bool, ev_none, ev_str, ev_Name, ev_BinOp, ev_UnaryOp, ev_BoolOp, ev_Compare, ev_CallA, ev_CallN, ev_Slice, ev_SubN, ev_SubC, ev_SubB, ev_SubU, ev_SubF, ev_SubS, ev_SubT, ev_SubA, ev_List, ev_Tuple, ev_Dict0, ev_Comp, ex_Pass, ex_Expr, ex_RetS, ex_RetN, ex_AName, ex_ATupN, ex_ATupC, ex_ASub, ex_If, ex_For, evs_0, evs_1, evOpt_0, evOpt_1, evBool_1, evBool_and, evBool_or, tst_Not, tst_Bool, tst_Cmp, tst_Name, tst_Call, tst_Sub, tst_Const, tstAll_0a, tstAll_0o, tstAll_1a, tstAll_1o, evCmp_1, evCmp_2, evIfs_0, evIfs_1, bindRho, List.map_cons, List.map_nil, List.lookup_cons, List.lookup_nil, ofString_beq, ofString_inj, ofString_bne, upd, isLoc, String.reduceBEq, String.reduceEq, String.reduceBNe, String.reduceNe, ↓reduceIte, true_and, and_true, cxOf_gl, cxOf_call, cxOf_calm, cxOf_hush, cxOf_pull, cxOf_exc, g07, gl07, deq_int, deq_bool, itemsOf_rng, Option.map_some, fewArgs, bo_add, bo_sub, bo_mul, bo_div, bo_mod, bo_pow, uo_neg, uo_not, tr_none, tr_bool, tr_int, su_tup, su_scr, cv_fn, cv_cls, cv_blt, cv_typ, cb_lenT, cb_lenS, cb_isi, ii_intI, ii_boolI, ii_tupI, ii_intB, ii_boolB, ii_tupB, ii_intT, ii_boolT, ii_tupT, ct_rng1, co_lt, co_le, co_gt, co_ge, co_eq, co_ne, co_in, co_ni, lateM_set, plainBase, bindT_name, bindT_pair, List.length_nil, List.length_cons, Nat.reduceLT, Nat.reduceAdd, decide_true, decide_false, Bool.and_true, Bool.true_and, Bool.and_self, decide_eq_true_eq, decide_eq_false_iff_not, Bool.true_eq_false, Bool.false_eq_true, false_implies, forall_const, true_implies, beq_self_eq_true, Bool.or_true, Bool.true_or, Bool.or_false, Bool.false_or, bne_self_eq_false, set_self, compRho, Bool.not_true, Bool.not_false, Int.zero_add]; exact r1, by simp (config := { maxSteps := 10000000 }) only [exs_nil', exs_one, exs_cons', seqK_ret, ev_int, ev_bool, ev_none, ev_str, ev_Name, ev_BinOp, ev_UnaryOp, ev_BoolOp, ev_Compare, ev_CallA, ev_CallN, ev_Slice, ev_SubN, ev_SubC, ev_SubB, ev_SubU, ev_SubF, ev_SubS, ev_SubT, ev_SubA, ev_List, ev_Tuple, ev_Dict0, ev_Comp, ex_Pass, ex_Expr, ex_RetS, ex_RetN, ex_AName, ex_ATupN, ex_ATupC, ex_ASub, ex_If, ex_For, evs_0, evs_1, evOpt_0, evOpt_1, evBool_1, evBool_and, evBool_or, tst_Not, tst_Bool, tst_Cmp, tst_Name, tst_Call, tst_Sub, tst_Const, tstAll_0a, tstAll_0o, tstAll_1a, tstAll_1o, evCmp_1, evCmp_2, evIfs_0, evIfs_1, bindRho, List.map_cons, List.map_nil, List.lookup_cons, List.lookup_nil, ofString_beq, ofString_inj, ofString_bne, upd, isLoc, String.reduceBEq, String.reduceEq, String.reduceBNe, String.reduceNe, ↓reduceIte, true_and, and_true, cxOf_gl, cxOf_call, cxOf_calm, cxOf_hush, cxOf_pull, cxOf_exc, g07, gl07, deq_int, deq_bool, itemsOf_rng, Option.map_some, fewArgs, bo_add, bo_sub, bo_mul, bo_div, bo_mod, bo_pow, uo_neg, uo_not, tr_none, tr_bool, tr_int, su_tup, su_scr, cv_fn, cv_cls, cv_blt, cv_typ, cb_lenT, cb_lenS, cb_isi, ii_intI, ii_boolI, ii_tupI, ii_intB, ii_boolB, ii_tupB, ii_intT, ii_boolT, ii_tupT, ct_rng1, co_lt, co_le, co_gt, co_ge, co_eq, co_ne, co_in, co_ni, lateM_set, plainBase, bindT_name, bindT_pair, List.length_nil, List.length_cons, Nat.reduceLT, Nat.reduceAdd, decide_true, decide_false, Bool.and_true, Bool.true_and, Bool.and_self, decide_eq_true_eq, decide_eq_false_iff_not, Bool.true_eq_false, Bool.false_eq_true, false_implies, forall_const, true_implies, beq_self_eq_true, Bool.or_true, Bool.true_or, Bool.or_false, Bool.false_or, bne_self_eq_false, set_self, compRho, Bool.not_true, Bool.not_false, Int.zero_add]; exact r3, by simp (config := { maxSteps := 10000000 }) only [exs_nil', exs_one, exs_cons', seqK_ret, ev_int, ev_bool, ev_none, ev_str, ev_Name, ev_BinOp, ev_UnaryOp, ev_BoolOp, ev_Compare, ev_CallA, ev_CallN, ev_Slice, ev_SubN, ev_SubC, ev_SubB, ev_SubU, ev_SubF, ev_SubS, ev_SubT, ev_SubA, ev_List, ev_Tuple, ev_Dict0, ev_Comp, ex_Pass, ex_Expr, ex_RetS, ex_RetN, ex_AName, ex_ATupN, ex_ATupC, ex_ASub, ex_If, ex_For, evs_0, evs_1, evOpt_0, evOpt_1, evBool_1, evBool_and, evBool_or, tst_Not, tst_Bool, tst_Cmp, tst_Name, tst_Call, tst_Sub, tst_Const, tstAll_0a, tstAll_0o, tstAll_1a, tstAll_1o, evCmp_1, evCmp_2, evIfs_0, evIfs_1, bindRho, List.map_cons, List.map_nil, List.lookup_cons, List.lookup_nil, ofString_beq, ofString_inj, ofString_bne, upd, isLoc, String.reduceBEq, String.reduceEq, String.reduceBNe, String.reduceNe, ↓reduceIte, true_and, and_true, cxOf_gl, cxOf_call, cxOf_calm, cxOf_hush, cxOf_pull, cxOf_exc, g07, gl07, deq_int, deq_bool, itemsOf_rng, Option.map_some, fewArgs, bo_add, bo_sub, bo_mul, bo_div, bo_mod, bo_pow, uo_neg, uo_not, tr_none, tr_bool, tr_int, su_tup, su_scr, cv_fn, cv_cls, cv_blt, cv_typ, cb_lenT, cb_lenS, cb_isi, ii_intI, ii_boolI, ii_tupI, ii_intB, ii_boolB, ii_tupB, ii_intT, ii_boolT, ii_tupT, ct_rng1, co_lt, co_le, co_gt, co_ge, co_eq, co_ne, co_in, co_ni, lateM_set, plainBase, bindT_name, bindT_pair, List.length_nil, List.length_cons, Nat.reduceLT, Nat.reduceAdd, decide_true, decide_false, Bool.and_true, Bool.true_and, Bool.and_self, decide_eq_true_eq, decide_eq_false_iff_not, Bool.true_eq_false, Bool.false_eq_true, false_implies, forall_const, true_implies, beq_self_eq_true, Bool.or_true, Bool.true_or, Bool.or_false, Bool.false_or, bne_self_eq_false, set_self, compRho, Bool.not_true, Bool.not_false, Int.zero_add], by simp (config := { maxSteps := 10000000 }) only [exs_nil', exs_one, exs_cons', seqK_ret, ev_int, ev_bool, ev_none, ev_str, ev_Name, ev_BinOp, ev_UnaryOp, ev_BoolOp, ev_Compare, ev_CallA, ev_CallN, ev_Slice, ev_SubN, ev_SubC, ev_SubB, ev_SubU, ev_SubF, ev_SubS, ev_SubT, ev_SubA, ev_List, ev_Tuple, ev_Dict0, ev_Comp, ex_Pass, ex_Expr, ex_RetS, ex_RetN, ex_AName, ex_ATupN, ex_ATupC, ex_ASub, ex_If, ex_For, evs_0, evs_1, evOpt_0, evOpt_1, evBool_1, evBool_and, evBool_or, tst_Not, tst_Bool, tst_Cmp, tst_Name, tst_Call, tst_Sub, tst_Const, tstAll_0a, tstAll_0o, tstAll_1a, tstAll_1o, evCmp_1, evCmp_2, evIfs_0, evIfs_1, bindRho, List.map_cons, List.map_nil, List.lookup_cons, List.lookup_nil, ofString_beq, ofString_inj, ofString_bne, upd, isLoc, String.reduceBEq, String.reduceEq, String.reduceBNe, String.reduceNe, ↓reduceIte, true_and, and_true, cxOf_gl, cxOf_call, cxOf_calm, cxOf_hush, cxOf_pull, cxOf_exc, g07, gl07, deq_int, deq_bool, itemsOf_rng, Option.map_some, fewArgs, bo_add, bo_sub, bo_mul, bo_div, bo_mod, bo_pow, uo_neg, uo_not, tr_none, tr_bool, tr_int, su_tup, su_scr, cv_fn, cv_cls, cv_blt, cv_typ, cb_lenT, cb_lenS, cb_isi, ii_intI, ii_boolI, ii_tupI, ii_intB, ii_boolB, ii_tupB, ii_intT, ii_boolT, ii_tupT, ct_rng1, co_lt, co_le, co_gt, co_ge, co_eq, co_ne, co_in, co_ni, lateM_set, plainBase, bindT_name, bindT_pair, List.length_nil, List.length_cons, Nat.reduceLT, Nat.reduceAdd, decide_true, decide_false, Bool.and_true, Bool.true_and, Bool.and_self, decide_eq_true_eq, decide_eq_false_iff_not, Bool.true_eq_false, Bool.false_eq_true, false_implies, forall_const, true_implies, beq_self_eq_true, Bool.or_true, Bool.true_or, Bool.or_false, Bool.false_or, bne_self_eq_false, set_self, compRho, Bool.not_true, Bool.not_false, Int.zero_add], by lia, rfl⟩ (fun i x ρ' σ' K hx ⟨q1, q2, q3, q4, hi, e⟩ hK _ => ?_) (fun ρ' σ' ⟨q1, q2, q3, q4, hi, e⟩ => ?_)
  · obtain ⟨rfl, hlt⟩ := range_get hx
    subst e
    simp only [forStep, lateX]
    simp (config := { maxSteps := 10000000 }) only [exs_nil', exs_one, exs_cons', seqK_ret, ev_int, ev_bool, ev_none, ev_str, ev_Name, ev_BinOp, ev_UnaryOp, ev_BoolOp, ev_Compare, ev_CallA, ev_CallN, ev_Slice, ev_SubN, ev_SubC, ev_SubB, ev_SubU, ev_SubF, ev_SubS, ev_SubT, ev_SubA, ev_List, ev_Tuple, ev_Dict0, ev_Comp, ex_Pass, ex_Expr, ex_RetS, ex_RetN, ex_AName, ex_ATupN, ex_ATupC, ex_ASub, ex_If, ex_For, evs_0, evs_1, evOpt_0, evOpt_1, evBool_1, evBool_and, evBool_or, tst_Not, tst_Bool, tst_Cmp, tst_Name, tst_Call, tst_Sub, tst_Const, tstAll_0a, tstAll_0o, tstAll_1a, tstAll_1o, evCmp_1, evCmp_2, evIfs_0, evIfs_1, bindRho, List.map_cons, List.map_nil, List.lookup_cons, List.lookup_nil, ofString_beq, ofString_inj, ofString_bne, upd, isLoc, String.reduceBEq, String.reduceEq, String.reduceBNe, String.reduceNe, ↓reduceIte, true_and, and_true, cxOf_gl, cxOf_call, cxOf_calm, cxOf_hush, cxOf_pull, cxOf_exc, g07, gl07, deq_int, deq_bool, itemsOf_rng, Option.map_some, fewArgs, bo_add, bo_sub, bo_mul, bo_div, bo_mod, bo_pow, uo_neg, uo_not, tr_none, tr_bool, tr_int, su_tup, su_scr, cv_fn, cv_cls, cv_blt, cv_typ, cb_lenT, cb_lenS, cb_isi, ii_intI, ii_boolI, ii_tupI, ii_intB, ii_boolB, ii_tupB, ii_intT, ii_boolT, ii_tupT, ct_rng1, co_lt, co_le, co_gt, co_ge, co_eq, co_ne, co_in, co_ni, lateM_set, plainBase, bindT_name, bindT_pair, List.length_nil, List.length_cons, Nat.reduceLT, Nat.reduceAdd, decide_true, decide_false, Bool.and_true, Bool.true_and, Bool.and_self, decide_eq_true_eq, decide_eq_false_iff_not, Bool.true_eq_false, Bool.false_eq_true, false_implies, forall_const, true_implies, beq_self_eq_true, Bool.or_true, Bool.true_or, Bool.or_false, Bool.false_or, bne_self_eq_false, set_self, compRho, Bool.not_true, Bool.not_false, Int.zero_add]
    simp only [q1]
    rw [show (2 + (i : Int)) = ((2 + i : Nat) : Int) by lia]
    refine s7_cell_at U hc hm (k := 2 + i) (by lia) ?_
    simp (config := { maxSteps := 10000000 }) only [exs_nil', exs_one, exs_cons', seqK_ret, ev_int, ev_bool, ev_none, ev_str, ev_Name, ev_BinOp, ev_UnaryOp, ev_BoolOp, ev_Compare, ev_CallA, ev_CallN, ev_Slice, ev_SubN, ev_SubC, ev_SubB, ev_SubU, ev_SubF, ev_SubS, ev_SubT, ev_SubA, ev_List, ev_Tuple, ev_Dict0, ev_Comp, ex_Pass, ex_Expr, ex_RetS, ex_RetN, ex_AName, ex_ATupN, ex_ATupC, ex_ASub, ex_If, ex_For, evs_0, evs_1, evOpt_0, evOpt_1, evBool_1, evBool_and, evBool_or, tst_Not, tst_Bool, tst_Cmp, tst_Name, tst_Call, tst_Sub, tst_Const, tstAll_0a, tstAll_0o, tstAll_1a, tstAll_1o, evCmp_1, evCmp_2, evIfs_0, evIfs_1, bindRho, List.map_cons, List.map_nil, List.lookup_cons, List.lookup_nil, ofString_beq, ofString_inj, ofString_bne, upd, isLoc, String.reduceBEq, String.reduceEq, String.reduceBNe, String.reduceNe, ↓reduceIte, true_and, and_true, cxOf_gl, cxOf_call, cxOf_calm, cxOf_hush, cxOf_pull, cxOf_exc, g07, gl07, deq_int, deq_bool, itemsOf_rng, Option.map_some, fewArgs, bo_add, bo_sub, bo_mul, bo_div, bo_mod, bo_pow, uo_neg, uo_not, tr_none, tr_bool, tr_int, su_tup, su_scr, cv_fn, cv_cls, cv_blt, cv_typ, cb_lenT, cb_lenS, cb_isi, ii_intI, ii_boolI, ii_tupI, ii_intB, ii_boolB, ii_tupB, ii_intT, ii_boolT, ii_tupT, ct_rng1, co_lt, co_le, co_gt, co_ge, co_eq, co_ne, co_in, co_ni, lateM_set, plainBase, bindT_name, bindT_pair, List.length_nil, List.length_cons, Nat.reduceLT, Nat.reduceAdd, decide_true, decide_false, Bool.and_true, Bool.true_and, Bool.and_self, decide_eq_true_eq, decide_eq_false_iff_not, Bool.true_eq_false, Bool.false_eq_true, false_implies, forall_const, true_implies, beq_self_eq_true, Bool.or_true, Bool.true_or, Bool.or_false, Bool.false_or, bne_self_eq_false, set_self, compRho, Bool.not_true, Bool.not_false, Int.zero_add]
    refine ⟨.inl (by simp [short]), .inr (by simp [short]), by decide, ?_⟩
    rw [seqK_next]; simp (config := { maxSteps := 10000000 }) only [exs_nil', exs_one, exs_cons', seqK_ret, ev_int, ev_bool, ev_none, ev_str, ev_Name, ev_BinOp, ev_UnaryOp, ev_BoolOp, ev_Compare, ev_CallA, ev_CallN, ev_Slice, ev_SubN, ev_SubC, ev_SubB, ev_SubU, ev_SubF, ev_SubS, ev_SubT, ev_SubA, ev_List, ev_Tuple, ev_Dict0, ev_Comp, ex_Pass, ex_Expr, ex_RetS, ex_RetN, ex_AName, ex_ATupN, ex_ATupC, ex_ASub, ex_If, ex_For, evs_0, evs_1, evOpt_0, evOpt_1, evBool_1, evBool_and, evBool_or, tst_Not, tst_Bool, tst_Cmp, tst_Name, tst_Call, tst_Sub, tst_Const, tstAll_0a, tstAll_0o, tstAll_1a, tstAll_1o, evCmp_1, evCmp_2, evIfs_0, evIfs_1, bindRho, List.map_cons, List.map_nil, List.lookup_cons, List.lookup_nil, ofString_beq, ofString_inj, ofString_bne, upd, isLoc, String.reduceBEq, String.reduceEq, String.reduceBNe, String.reduceNe, ↓reduceIte, true_and, and_true, cxOf_gl, cxOf_call, cxOf_calm, cxOf_hush, cxOf_pull, cxOf_exc, g07, gl07, deq_int, deq_bool, itemsOf_rng, Option.map_some, fewArgs, bo_add, bo_sub, bo_mul, bo_div, bo_mod, bo_pow, uo_neg, uo_not, tr_none, tr_bool, tr_int, su_tup, su_scr, cv_fn, cv_cls, cv_blt, cv_typ, cb_lenT, cb_lenS, cb_isi, ii_intI, ii_boolI, ii_tupI, ii_intB, ii_boolB, ii_tupB, ii_intT, ii_boolT, ii_tupT, ct_rng1, co_lt, co_le, co_gt, co_ge, co_eq, co_ne, co_in, co_ni, lateM_set, plainBase, bindT_name, bindT_pair, List.length_nil, List.length_cons, Nat.reduceLT, Nat.reduceAdd, decide_true, decide_false, Bool.and_true, Bool.true_and, Bool.and_self, decide_eq_true_eq, decide_eq_false_iff_not, Bool.true_eq_false, Bool.false_eq_true, false_implies, forall_const, true_implies, beq_self_eq_true, Bool.or_true, Bool.true_or, Bool.or_false, Bool.false_or, bne_self_eq_false, set_self, compRho, Bool.not_true, Bool.not_false, Int.zero_add]
    simp only [q2, q3, q4]
    simp (config := { maxSteps := 10000000 }) only [exs_nil', exs_one, exs_cons', seqK_ret, ev_int, ev_bool, ev_none, ev_str, ev_Name, ev_BinOp, ev_UnaryOp, ev_BoolOp, ev_Compare, ev_CallA, ev_CallN, ev_Slice, ev_SubN, ev_SubC, ev_SubB, ev_SubU, ev_SubF, ev_SubS, ev_SubT, ev_SubA, ev_List, ev_Tuple, ev_Dict0, ev_Comp, ex_Pass, ex_Expr, ex_RetS, ex_RetN, ex_AName, ex_ATupN, ex_ATupC, ex_ASub, ex_If, ex_For, evs_0, evs_1, evOpt_0, evOpt_1, evBool_1, evBool_and, evBool_or, tst_Not, tst_Bool, tst_Cmp, tst_Name, tst_Call, tst_Sub, tst_Const, tstAll_0a, tstAll_0o, tstAll_1a, tstAll_1o, evCmp_1, evCmp_2, evIfs_0, evIfs_1, bindRho, List.map_cons, List.map_nil, List.lookup_cons, List.lookup_nil, ofString_beq, ofString_inj, ofString_bne, upd, isLoc, String.reduceBEq, String.reduceEq, String.reduceBNe, String.reduceNe, ↓reduceIte, true_and, and_true, cxOf_gl, cxOf_call, cxOf_calm, cxOf_hush, cxOf_pull, cxOf_exc, g07, gl07, deq_int, deq_bool, itemsOf_rng, Option.map_some, fewArgs, bo_add, bo_sub, bo_mul, bo_div, bo_mod, bo_pow, uo_neg, uo_not, tr_none, tr_bool, tr_int, su_tup, su_scr, cv_fn, cv_cls, cv_blt, cv_typ, cb_lenT, cb_lenS, cb_isi, ii_intI, ii_boolI, ii_tupI, ii_intB, ii_boolB, ii_tupB, ii_intT, ii_boolT, ii_tupT, ct_rng1, co_lt, co_le, co_gt, co_ge, co_eq, co_ne, co_in, co_ni, lateM_set, plainBase, bindT_name, bindT_pair, List.length_nil, List.length_cons, Nat.reduceLT, Nat.reduceAdd, decide_true, decide_false, Bool.and_true, Bool.true_and, Bool.and_self, decide_eq_true_eq, decide_eq_false_iff_not, Bool.true_eq_false, Bool.false_eq_true, false_implies, forall_const, true_implies, beq_self_eq_true, Bool.or_true, Bool.true_or, Bool.or_false, Bool.false_or, bne_self_eq_false, set_self, compRho, Bool.not_true, Bool.not_false, Int.zero_add]
    simp only [q2, q3, q4]
    try simp (config := { maxSteps := 10000000 }) only [exs_nil', exs_one, exs_cons', seqK_ret, ev_int, ev_bool, ev_none, ev_str, ev_Name, ev_BinOp, ev_UnaryOp, ev_BoolOp, ev_Compare, ev_CallA, ev_CallN, ev_Slice, ev_SubN, ev_SubC, ev_SubB, ev_SubU, ev_SubF, ev_SubS, ev_SubT, ev_SubA, ev_List, ev_Tuple, ev_Dict0, ev_Comp, ex_Pass, ex_Expr, ex_RetS, ex_RetN, ex_AName, ex_ATupN, ex_ATupC, ex_ASub, ex_If, ex_For, evs_0, evs_1, evOpt_0, evOpt_1, evBool_1, evBool_and, evBool_or, tst_Not, tst_Bool, tst_Cmp, tst_Name, tst_Call, tst_Sub, tst_Const, tstAll_0a, tstAll_0o, tstAll_1a, tstAll_1o, evCmp_1, evCmp_2, evIfs_0, evIfs_1, bindRho, List.map_cons, List.map_nil, List.lookup_cons, List.lookup_nil, ofString_beq, ofString_inj, ofString_bne, upd, isLoc, String.reduceBEq, String.reduceEq, String.reduceBNe, String.reduceNe, ↓reduceIte, true_and, and_true, cxOf_gl, cxOf_call, cxOf_calm, cxOf_hush, cxOf_pull, cxOf_exc, g07, gl07, deq_int, deq_bool, itemsOf_rng, Option.map_some, fewArgs, bo_add, bo_sub, bo_mul, bo_div, bo_mod, bo_pow, uo_neg, uo_not, tr_none, tr_bool, tr_int, su_tup, su_scr, cv_fn, cv_cls, cv_blt, cv_typ, cb_lenT, cb_lenS, cb_isi, ii_intI, ii_boolI, ii_tupI, ii_intB, ii_boolB, ii_tupB, ii_intT, ii_boolT, ii_tupT, ct_rng1, co_lt, co_le, co_gt, co_ge, co_eq, co_ne, co_in, co_ni, lateM_set, plainBase, bindT_name, bindT_pair, List.length_nil, List.length_cons, Nat.reduceLT, Nat.reduceAdd, decide_true, decide_false, Bool.and_true, Bool.true_and, Bool.and_self, decide_eq_true_eq, decide_eq_false_iff_not, Bool.true_eq_false, Bool.false_eq_true, false_implies, forall_const, true_implies, beq_self_eq_true, Bool.or_true, Bool.true_or, Bool.or_false, Bool.false_or, bne_self_eq_false, set_self, compRho, Bool.not_true, Bool.not_false, Int.zero_add]
    generalize hcell : (cellAt l (2 + i) + 13 * (i : Int)) * 48271 % 10007 = cell
    have h7 := Int.emod_nonneg cell (by decide : (7 : Int) ≠ 0)
    have h7' := Int.emod_lt_of_pos cell (by decide : (0 : Int) < 7)
    have h8 := Int.emod_nonneg (cell / 7) (by decide : (7 : Int) ≠ 0)
    have h8' := Int.emod_lt_of_pos (cell / 7) (by decide : (0 : Int) < 7)
    refine ⟨by decide, .inl (by unfold short; lia), ⟨by decide, by simp [short]⟩, by decide, .inl (by unfold short; lia), ?_⟩
    rw [listMeth_append (set_self _ _ _)]
    refine ⟨by rw [pairsV_length]; simp [arrows7]; lia, hK _ _ trivial ⟨?_, ?_, ?_, ?_, by lia, ?_⟩⟩
    case refine_5 => rw [set_set, pairsV_snoc]; unfold arrows7; rw [range_take]; simp only [arrow7, hcell]
    all_goals (simp (config := { maxSteps := 10000000 }) only [exs_nil', exs_one, exs_cons', seqK_ret, ev_int, ev_bool, ev_none, ev_str, ev_Name, ev_BinOp, ev_UnaryOp, ev_BoolOp, ev_Compare, ev_CallA, ev_CallN, ev_Slice, ev_SubN, ev_SubC, ev_SubB, ev_SubU, ev_SubF, ev_SubS, ev_SubT, ev_SubA, ev_List, ev_Tuple, ev_Dict0, ev_Comp, ex_Pass, ex_Expr, ex_RetS, ex_RetN, ex_AName, ex_ATupN, ex_ATupC, ex_ASub, ex_If, ex_For, evs_0, evs_1, evOpt_0, evOpt_1, evBool_1, evBool_and, evBool_or, tst_Not, tst_Bool, tst_Cmp, tst_Name, tst_Call, tst_Sub, tst_Const, tstAll_0a, tstAll_0o, tstAll_1a, tstAll_1o, evCmp_1, evCmp_2, evIfs_0, evIfs_1, bindRho, List.map_cons, List.map_nil, List.lookup_cons, List.lookup_nil, ofString_beq, ofString_inj, ofString_bne, upd, isLoc, String.reduceBEq, String.reduceEq, String.reduceBNe, String.reduceNe, ↓reduceIte, true_and, and_true, cxOf_gl, cxOf_call, cxOf_calm, cxOf_hush, cxOf_pull, cxOf_exc, g07, gl07, deq_int, deq_bool, itemsOf_rng, Option.map_some, fewArgs, bo_add, bo_sub, bo_mul, bo_div, bo_mod, bo_pow, uo_neg, uo_not, tr_none, tr_bool, tr_int, su_tup, su_scr, cv_fn, cv_cls, cv_blt, cv_typ, cb_lenT, cb_lenS, cb_isi, ii_intI, ii_boolI, ii_tupI, ii_intB, ii_boolB, ii_tupB, ii_intT, ii_boolT, ii_tupT, ct_rng1, co_lt, co_le, co_gt, co_ge, co_eq, co_ne, co_in, co_ni, lateM_set, plainBase, bindT_name, bindT_pair, List.length_nil, List.length_cons, Nat.reduceLT, Nat.reduceAdd, decide_true, decide_false, Bool.and_true, Bool.true_and, Bool.and_self, decide_eq_true_eq, decide_eq_false_iff_not, Bool.true_eq_false, Bool.false_eq_true, false_implies, forall_const, true_implies, beq_self_eq_true, Bool.or_true, Bool.true_or, Bool.or_false, Bool.false_or, bne_self_eq_false, set_self, compRho, Bool.not_true, Bool.not_false, Int.zero_add]; assumption)
  · rw [range_len] at e hi
    have hps : (arrows7 l low far (many - 0).toNat).length ≤ 12 := by simp [arrows7]; lia
    generalize arrows7 l low far (many - 0).toNat = ps at *
    subst e
    have hmem : ∀ qs : List (Int × Int), qs.length ≤ 30 → (sortV (tripsV (dueL qs))).length ≤ 1000 ∧ ∀ x ∈ sortV (tripsV (dueL qs)), plainT 1 x = true := by
      intro qs hq
      have hp := sortV_perm (tripsV (dueL qs))
      have hl1 := dueOuts_len qs qs []
      have hl2 : qs.length * qs.length ≤ 30 * 30 := Nat.mul_le_mul hq hq
      refine ⟨by rw [hp.length_eq, tripsV_length]; unfold dueL; simp only [List.length_nil, Nat.zero_add] at hl1; lia, fun x hx => ?_⟩
      obtain ⟨⟨a, b, c⟩, _, rfl⟩ := List.mem_map.mp (hp.mem_iff.mp hx)
      rfl
    rw [seqK_next]; simp (config := { maxSteps := 10000000 }) only [exs_nil', exs_one, exs_cons', seqK_ret, ev_int, ev_bool, ev_none, ev_str, ev_Name, ev_BinOp, ev_UnaryOp, ev_BoolOp, ev_Compare, ev_CallA, ev_CallN, ev_Slice, ev_SubN, ev_SubC, ev_SubB, ev_SubU, ev_SubF, ev_SubS, ev_SubT, ev_SubA, ev_List, ev_Tuple, ev_Dict0, ev_Comp, ex_Pass, ex_Expr, ex_RetS, ex_RetN, ex_AName, ex_ATupN, ex_ATupC, ex_ASub, ex_If, ex_For, evs_0, evs_1, evOpt_0, evOpt_1, evBool_1, evBool_and, evBool_or, tst_Not, tst_Bool, tst_Cmp, tst_Name, tst_Call, tst_Sub, tst_Const, tstAll_0a, tstAll_0o, tstAll_1a, tstAll_1o, evCmp_1, evCmp_2, evIfs_0, evIfs_1, bindRho, List.map_cons, List.map_nil, List.lookup_cons, List.lookup_nil, ofString_beq, ofString_inj, ofString_bne, upd, isLoc, String.reduceBEq, String.reduceEq, String.reduceBNe, String.reduceNe, ↓reduceIte, true_and, and_true, cxOf_gl, cxOf_call, cxOf_calm, cxOf_hush, cxOf_pull, cxOf_exc, g07, gl07, deq_int, deq_bool, itemsOf_rng, Option.map_some, fewArgs, bo_add, bo_sub, bo_mul, bo_div, bo_mod, bo_pow, uo_neg, uo_not, tr_none, tr_bool, tr_int, su_tup, su_scr, cv_fn, cv_cls, cv_blt, cv_typ, cb_lenT, cb_lenS, cb_isi, ii_intI, ii_boolI, ii_tupI, ii_intB, ii_boolB, ii_tupB, ii_intT, ii_boolT, ii_tupT, ct_rng1, co_lt, co_le, co_gt, co_ge, co_eq, co_ne, co_in, co_ni, lateM_set, plainBase, bindT_name, bindT_pair, List.length_nil, List.length_cons, Nat.reduceLT, Nat.reduceAdd, decide_true, decide_false, Bool.and_true, Bool.true_and, Bool.and_self, decide_eq_true_eq, decide_eq_false_iff_not, Bool.true_eq_false, Bool.false_eq_true, false_implies, forall_const, true_implies, beq_self_eq_true, Bool.or_true, Bool.true_or, Bool.or_false, Bool.false_or, bne_self_eq_false, set_self, compRho, Bool.not_true, Bool.not_false, Int.zero_add]
    simp only [q4]
    rw [ct_list (set_self _ _ _)]
    intro H hH
    have hHA : H ≠ A := by rintro rfl; rw [set_self] at hH; cases hH
    rw [seqK_next]; simp (config := { maxSteps := 10000000 }) only [exs_nil', exs_one, exs_cons', seqK_ret, ev_int, ev_bool, ev_none, ev_str, ev_Name, ev_BinOp, ev_UnaryOp, ev_BoolOp, ev_Compare, ev_CallA, ev_CallN, ev_Slice, ev_SubN, ev_SubC, ev_SubB, ev_SubU, ev_SubF, ev_SubS, ev_SubT, ev_SubA, ev_List, ev_Tuple, ev_Dict0, ev_Comp, ex_Pass, ex_Expr, ex_RetS, ex_RetN, ex_AName, ex_ATupN, ex_ATupC, ex_ASub, ex_If, ex_For, evs_0, evs_1, evOpt_0, evOpt_1, evBool_1, evBool_and, evBool_or, tst_Not, tst_Bool, tst_Cmp, tst_Name, tst_Call, tst_Sub, tst_Const, tstAll_0a, tstAll_0o, tstAll_1a, tstAll_1o, evCmp_1, evCmp_2, evIfs_0, evIfs_1, bindRho, List.map_cons, List.map_nil, List.lookup_cons, List.lookup_nil, ofString_beq, ofString_inj, ofString_bne, upd, isLoc, String.reduceBEq, String.reduceEq, String.reduceBNe, String.reduceNe, ↓reduceIte, true_and, and_true, cxOf_gl, cxOf_call, cxOf_calm, cxOf_hush, cxOf_pull, cxOf_exc, g07, gl07, deq_int, deq_bool, itemsOf_rng, Option.map_some, fewArgs, bo_add, bo_sub, bo_mul, bo_div, bo_mod, bo_pow, uo_neg, uo_not, tr_none, tr_bool, tr_int, su_tup, su_scr, cv_fn, cv_cls, cv_blt, cv_typ, cb_lenT, cb_lenS, cb_isi, ii_intI, ii_boolI, ii_tupI, ii_intB, ii_boolB, ii_tupB, ii_intT, ii_boolT, ii_tupT, ct_rng1, co_lt, co_le, co_gt, co_ge, co_eq, co_ne, co_in, co_ni, lateM_set, plainBase, bindT_name, bindT_pair, List.length_nil, List.length_cons, Nat.reduceLT, Nat.reduceAdd, decide_true, decide_false, Bool.and_true, Bool.true_and, Bool.and_self, decide_eq_true_eq, decide_eq_false_iff_not, Bool.true_eq_false, Bool.false_eq_true, false_implies, forall_const, true_implies, beq_self_eq_true, Bool.or_true, Bool.true_or, Bool.or_false, Bool.false_or, bne_self_eq_false, set_self, compRho, Bool.not_true, Bool.not_false, Int.zero_add]
    simp only [q4]
    have a2 : ((σ.set A (.list (pairsV ps))).set H (.list (pairsV ps))) A = some (.list (pairsV ps)) := by rw [set_ne _ _ (Ne.symm hHA), set_self]
    have h2 : ((σ.set A (.list (pairsV ps))).set H (.list (pairsV ps))) H = some (.list (pairsV ps)) := set_self _ _ _
    generalize (σ.set A (.list (pairsV ps))).set H (.list (pairsV ps)) = σ₂ at *
    refine s7_due U hc hm (ps := ps) (by lia) a2 (by lia) (due_few ps (by lia)) fun D σ₃ hD x₃ d₃ => ?_
    rw [seqK_next]; simp (config := { maxSteps := 10000000 }) only [exs_nil', exs_one, exs_cons', seqK_ret, ev_int, ev_bool, ev_none, ev_str, ev_Name, ev_BinOp, ev_UnaryOp, ev_BoolOp, ev_Compare, ev_CallA, ev_CallN, ev_Slice, ev_SubN, ev_SubC, ev_SubB, ev_SubU, ev_SubF, ev_SubS, ev_SubT, ev_SubA, ev_List, ev_Tuple, ev_Dict0, ev_Comp, ex_Pass, ex_Expr, ex_RetS, ex_RetN, ex_AName, ex_ATupN, ex_ATupC, ex_ASub, ex_If, ex_For, evs_0, evs_1, evOpt_0, evOpt_1, evBool_1, evBool_and, evBool_or, tst_Not, tst_Bool, tst_Cmp, tst_Name, tst_Call, tst_Sub, tst_Const, tstAll_0a, tstAll_0o, tstAll_1a, tstAll_1o, evCmp_1, evCmp_2, evIfs_0, evIfs_1, bindRho, List.map_cons, List.map_nil, List.lookup_cons, List.lookup_nil, ofString_beq, ofString_inj, ofString_bne, upd, isLoc, String.reduceBEq, String.reduceEq, String.reduceBNe, String.reduceNe, ↓reduceIte, true_and, and_true, cxOf_gl, cxOf_call, cxOf_calm, cxOf_hush, cxOf_pull, cxOf_exc, g07, gl07, deq_int, deq_bool, itemsOf_rng, Option.map_some, fewArgs, bo_add, bo_sub, bo_mul, bo_div, bo_mod, bo_pow, uo_neg, uo_not, tr_none, tr_bool, tr_int, su_tup, su_scr, cv_fn, cv_cls, cv_blt, cv_typ, cb_lenT, cb_lenS, cb_isi, ii_intI, ii_boolI, ii_tupI, ii_intB, ii_boolB, ii_tupB, ii_intT, ii_boolT, ii_tupT, ct_rng1, co_lt, co_le, co_gt, co_ge, co_eq, co_ne, co_in, co_ni, lateM_set, plainBase, bindT_name, bindT_pair, List.length_nil, List.length_cons, Nat.reduceLT, Nat.reduceAdd, decide_true, decide_false, Bool.and_true, Bool.true_and, Bool.and_self, decide_eq_true_eq, decide_eq_false_iff_not, Bool.true_eq_false, Bool.false_eq_true, false_implies, forall_const, true_implies, beq_self_eq_true, Bool.or_true, Bool.true_or, Bool.or_false, Bool.false_or, bne_self_eq_false, set_self, compRho, Bool.not_true, Bool.not_false, Int.zero_add]
    refine s7_gaps U hc hm (ps := ps) (by lia) (x₃ _ _ h2) (by lia) (gaps_few ps (by lia)) fun T σ₄ hT x₄ t₄ => ?_
    rw [gaps_due] at t₄
    have d₄ := x₄ _ _ d₃
    have a₄ := x₄ _ _ (x₃ _ _ a2)
    have h₄ := x₄ _ _ (x₃ _ _ h2)
    have hDT : D ≠ T := by rintro rfl; rw [d₃] at hT; cases hT
    have hDH : D ≠ H := by rintro rfl; rw [h2] at hD; cases hD
    have hDA : D ≠ A := by rintro rfl; rw [a2] at hD; cases hD
    have hTH : T ≠ H := by rintro rfl; rw [x₃ _ _ h2] at hT; cases hT
    have hTA : T ≠ A := by rintro rfl; rw [x₃ _ _ a2] at hT; cases hT
    clear hD hT x₃ x₄ d₃ a2 h2
    generalize hS : sortV (tripsV (dueL ps)) = S at *
    have hSm : S.length ≤ 1000 ∧ ∀ x ∈ S, plainT 1 x = true := hS ▸ hmem ps (by lia)
    rw [seqK_next]; simp (config := { maxSteps := 10000000 }) only [exs_nil', exs_one, exs_cons', seqK_ret, ev_int, ev_bool, ev_none, ev_str, ev_Name, ev_BinOp, ev_UnaryOp, ev_BoolOp, ev_Compare, ev_CallA, ev_CallN, ev_Slice, ev_SubN, ev_SubC, ev_SubB, ev_SubU, ev_SubF, ev_SubS, ev_SubT, ev_SubA, ev_List, ev_Tuple, ev_Dict0, ev_Comp, ex_Pass, ex_Expr, ex_RetS, ex_RetN, ex_AName, ex_ATupN, ex_ATupC, ex_ASub, ex_If, ex_For, evs_0, evs_1, evOpt_0, evOpt_1, evBool_1, evBool_and, evBool_or, tst_Not, tst_Bool, tst_Cmp, tst_Name, tst_Call, tst_Sub, tst_Const, tstAll_0a, tstAll_0o, tstAll_1a, tstAll_1o, evCmp_1, evCmp_2, evIfs_0, evIfs_1, bindRho, List.map_cons, List.map_nil, List.lookup_cons, List.lookup_nil, ofString_beq, ofString_inj, ofString_bne, upd, isLoc, String.reduceBEq, String.reduceEq, String.reduceBNe, String.reduceNe, ↓reduceIte, true_and, and_true, cxOf_gl, cxOf_call, cxOf_calm, cxOf_hush, cxOf_pull, cxOf_exc, g07, gl07, deq_int, deq_bool, itemsOf_rng, Option.map_some, fewArgs, bo_add, bo_sub, bo_mul, bo_div, bo_mod, bo_pow, uo_neg, uo_not, tr_none, tr_bool, tr_int, su_tup, su_scr, cv_fn, cv_cls, cv_blt, cv_typ, cb_lenT, cb_lenS, cb_isi, ii_intI, ii_boolI, ii_tupI, ii_intB, ii_boolB, ii_tupB, ii_intT, ii_boolT, ii_tupT, ct_rng1, co_lt, co_le, co_gt, co_ge, co_eq, co_ne, co_in, co_ni, lateM_set, plainBase, bindT_name, bindT_pair, List.length_nil, List.length_cons, Nat.reduceLT, Nat.reduceAdd, decide_true, decide_false, Bool.and_true, Bool.true_and, Bool.and_self, decide_eq_true_eq, decide_eq_false_iff_not, Bool.true_eq_false, Bool.false_eq_true, false_implies, forall_const, true_implies, beq_self_eq_true, Bool.or_true, Bool.true_or, Bool.or_false, Bool.false_or, bne_self_eq_false, set_self, compRho, Bool.not_true, Bool.not_false, Int.zero_add]
    refine s7_listed U hc hm (by lia) t₄ d₄ hSm.1 hSm.2 fun σ₅ x₅ => ?_
    simp (config := { maxSteps := 10000000 }) only [exs_nil', exs_one, exs_cons', seqK_ret, ev_int, ev_bool, ev_none, ev_str, ev_Name, ev_BinOp, ev_UnaryOp, ev_BoolOp, ev_Compare, ev_CallA, ev_CallN, ev_Slice, ev_SubN, ev_SubC, ev_SubB, ev_SubU, ev_SubF, ev_SubS, ev_SubT, ev_SubA, ev_List, ev_Tuple, ev_Dict0, ev_Comp, ex_Pass, ex_Expr, ex_RetS, ex_RetN, ex_AName, ex_ATupN, ex_ATupC, ex_ASub, ex_If, ex_For, evs_0, evs_1, evOpt_0, evOpt_1, evBool_1, evBool_and, evBool_or, tst_Not, tst_Bool, tst_Cmp, tst_Name, tst_Call, tst_Sub, tst_Const, tstAll_0a, tstAll_0o, tstAll_1a, tstAll_1o, evCmp_1, evCmp_2, evIfs_0, evIfs_1, bindRho, List.map_cons, List.map_nil, List.lookup_cons, List.lookup_nil, ofString_beq, ofString_inj, ofString_bne, upd, isLoc, String.reduceBEq, String.reduceEq, String.reduceBNe, String.reduceNe, ↓reduceIte, true_and, and_true, cxOf_gl, cxOf_call, cxOf_calm, cxOf_hush, cxOf_pull, cxOf_exc, g07, gl07, deq_int, deq_bool, itemsOf_rng, Option.map_some, fewArgs, bo_add, bo_sub, bo_mul, bo_div, bo_mod, bo_pow, uo_neg, uo_not, tr_none, tr_bool, tr_int, su_tup, su_scr, cv_fn, cv_cls, cv_blt, cv_typ, cb_lenT, cb_lenS, cb_isi, ii_intI, ii_boolI, ii_tupI, ii_intB, ii_boolB, ii_tupB, ii_intT, ii_boolT, ii_tupT, ct_rng1, co_lt, co_le, co_gt, co_ge, co_eq, co_ne, co_in, co_ni, lateM_set, plainBase, bindT_name, bindT_pair, List.length_nil, List.length_cons, Nat.reduceLT, Nat.reduceAdd, decide_true, decide_false, Bool.and_true, Bool.true_and, Bool.and_self, decide_eq_true_eq, decide_eq_false_iff_not, Bool.true_eq_false, Bool.false_eq_true, false_implies, forall_const, true_implies, beq_self_eq_true, Bool.or_true, Bool.true_or, Bool.or_false, Bool.false_or, bne_self_eq_false, set_self, compRho, Bool.not_true, Bool.not_false, Int.zero_add]
    simp only [q4]
    have t₅ := x₅ _ _ t₄
    have d₅ := x₅ _ _ d₄
    have a₅ := x₅ _ _ a₄
    have h₅ := x₅ _ _ h₄
    rw [deq_list h₅ a₅ (flat_pairs _) (flat_pairs _), eq_pairs]
    simp (config := { maxSteps := 10000000 }) only [exs_nil', exs_one, exs_cons', seqK_ret, ev_int, ev_bool, ev_none, ev_str, ev_Name, ev_BinOp, ev_UnaryOp, ev_BoolOp, ev_Compare, ev_CallA, ev_CallN, ev_Slice, ev_SubN, ev_SubC, ev_SubB, ev_SubU, ev_SubF, ev_SubS, ev_SubT, ev_SubA, ev_List, ev_Tuple, ev_Dict0, ev_Comp, ex_Pass, ex_Expr, ex_RetS, ex_RetN, ex_AName, ex_ATupN, ex_ATupC, ex_ASub, ex_If, ex_For, evs_0, evs_1, evOpt_0, evOpt_1, evBool_1, evBool_and, evBool_or, tst_Not, tst_Bool, tst_Cmp, tst_Name, tst_Call, tst_Sub, tst_Const, tstAll_0a, tstAll_0o, tstAll_1a, tstAll_1o, evCmp_1, evCmp_2, evIfs_0, evIfs_1, bindRho, List.map_cons, List.map_nil, List.lookup_cons, List.lookup_nil, ofString_beq, ofString_inj, ofString_bne, upd, isLoc, String.reduceBEq, String.reduceEq, String.reduceBNe, String.reduceNe, ↓reduceIte, true_and, and_true, cxOf_gl, cxOf_call, cxOf_calm, cxOf_hush, cxOf_pull, cxOf_exc, g07, gl07, deq_int, deq_bool, itemsOf_rng, Option.map_some, fewArgs, bo_add, bo_sub, bo_mul, bo_div, bo_mod, bo_pow, uo_neg, uo_not, tr_none, tr_bool, tr_int, su_tup, su_scr, cv_fn, cv_cls, cv_blt, cv_typ, cb_lenT, cb_lenS, cb_isi, ii_intI, ii_boolI, ii_tupI, ii_intB, ii_boolB, ii_tupB, ii_intT, ii_boolT, ii_tupT, ct_rng1, co_lt, co_le, co_gt, co_ge, co_eq, co_ne, co_in, co_ni, lateM_set, plainBase, bindT_name, bindT_pair, List.length_nil, List.length_cons, Nat.reduceLT, Nat.reduceAdd, decide_true, decide_false, Bool.and_true, Bool.true_and, Bool.and_self, decide_eq_true_eq, decide_eq_false_iff_not, Bool.true_eq_false, Bool.false_eq_true, false_implies, forall_const, true_implies, beq_self_eq_true, Bool.or_true, Bool.true_or, Bool.or_false, Bool.false_or, bne_self_eq_false, set_self, compRho, Bool.not_true, Bool.not_false, Int.zero_add]
    clear x₅ t₄ d₄ a₄ h₄
    rw [seqK_next]; simp (config := { maxSteps := 10000000 }) only [exs_nil', exs_one, exs_cons', seqK_ret, ev_int, ev_bool, ev_none, ev_str, ev_Name, ev_BinOp, ev_UnaryOp, ev_BoolOp, ev_Compare, ev_CallA, ev_CallN, ev_Slice, ev_SubN, ev_SubC, ev_SubB, ev_SubU, ev_SubF, ev_SubS, ev_SubT, ev_SubA, ev_List, ev_Tuple, ev_Dict0, ev_Comp, ex_Pass, ex_Expr, ex_RetS, ex_RetN, ex_AName, ex_ATupN, ex_ATupC, ex_ASub, ex_If, ex_For, evs_0, evs_1, evOpt_0, evOpt_1, evBool_1, evBool_and, evBool_or, tst_Not, tst_Bool, tst_Cmp, tst_Name, tst_Call, tst_Sub, tst_Const, tstAll_0a, tstAll_0o, tstAll_1a, tstAll_1o, evCmp_1, evCmp_2, evIfs_0, evIfs_1, bindRho, List.map_cons, List.map_nil, List.lookup_cons, List.lookup_nil, ofString_beq, ofString_inj, ofString_bne, upd, isLoc, String.reduceBEq, String.reduceEq, String.reduceBNe, String.reduceNe, ↓reduceIte, true_and, and_true, cxOf_gl, cxOf_call, cxOf_calm, cxOf_hush, cxOf_pull, cxOf_exc, g07, gl07, deq_int, deq_bool, itemsOf_rng, Option.map_some, fewArgs, bo_add, bo_sub, bo_mul, bo_div, bo_mod, bo_pow, uo_neg, uo_not, tr_none, tr_bool, tr_int, su_tup, su_scr, cv_fn, cv_cls, cv_blt, cv_typ, cb_lenT, cb_lenS, cb_isi, ii_intI, ii_boolI, ii_tupI, ii_intB, ii_boolB, ii_tupB, ii_intT, ii_boolT, ii_tupT, ct_rng1, co_lt, co_le, co_gt, co_ge, co_eq, co_ne, co_in, co_ni, lateM_set, plainBase, bindT_name, bindT_pair, List.length_nil, List.length_cons, Nat.reduceLT, Nat.reduceAdd, decide_true, decide_false, Bool.and_true, Bool.true_and, Bool.and_self, decide_eq_true_eq, decide_eq_false_iff_not, Bool.true_eq_false, Bool.false_eq_true, false_implies, forall_const, true_implies, beq_self_eq_true, Bool.or_true, Bool.true_or, Bool.or_false, Bool.false_or, bne_self_eq_false, set_self, compRho, Bool.not_true, Bool.not_false, Int.zero_add]
    rw [ct_list t₅]
    intro E hE
    have hET : E ≠ T := by rintro rfl; rw [t₅] at hE; cases hE
    have hED : E ≠ D := by rintro rfl; rw [d₅] at hE; cases hE
    have hEA : E ≠ A := by rintro rfl; rw [a₅] at hE; cases hE
    have hEH : E ≠ H := by rintro rfl; rw [h₅] at hE; cases hE
    have t₆ : (σ₅.set E (.list S)) T = some (.list S) := by rw [set_ne _ _ (Ne.symm hET)]; exact t₅
    have d₆ : (σ₅.set E (.list S)) D = some (.list S) := by rw [set_ne _ _ (Ne.symm hED)]; exact d₅
    have a₆ : (σ₅.set E (.list S)) A = some (.list (pairsV ps)) := by rw [set_ne _ _ (Ne.symm hEA)]; exact a₅
    have h₆ : (σ₅.set E (.list S)) H = some (.list (pairsV ps)) := by rw [set_ne _ _ (Ne.symm hEH)]; exact h₅
    have e₆ : (σ₅.set E (.list S)) E = some (.list S) := set_self _ _ _
    generalize σ₅.set E (.list S) = σ₆ at *
    clear t₅ d₅ a₅ h₅ hE
    rw [seqK_next]; simp (config := { maxSteps := 10000000 }) only [exs_nil', exs_one, exs_cons', seqK_ret, ev_int, ev_bool, ev_none, ev_str, ev_Name, ev_BinOp, ev_UnaryOp, ev_BoolOp, ev_Compare, ev_CallA, ev_CallN, ev_Slice, ev_SubN, ev_SubC, ev_SubB, ev_SubU, ev_SubF, ev_SubS, ev_SubT, ev_SubA, ev_List, ev_Tuple, ev_Dict0, ev_Comp, ex_Pass, ex_Expr, ex_RetS, ex_RetN, ex_AName, ex_ATupN, ex_ATupC, ex_ASub, ex_If, ex_For, evs_0, evs_1, evOpt_0, evOpt_1, evBool_1, evBool_and, evBool_or, tst_Not, tst_Bool, tst_Cmp, tst_Name, tst_Call, tst_Sub, tst_Const, tstAll_0a, tstAll_0o, tstAll_1a, tstAll_1o, evCmp_1, evCmp_2, evIfs_0, evIfs_1, bindRho, List.map_cons, List.map_nil, List.lookup_cons, List.lookup_nil, ofString_beq, ofString_inj, ofString_bne, upd, isLoc, String.reduceBEq, String.reduceEq, String.reduceBNe, String.reduceNe, ↓reduceIte, true_and, and_true, cxOf_gl, cxOf_call, cxOf_calm, cxOf_hush, cxOf_pull, cxOf_exc, g07, gl07, deq_int, deq_bool, itemsOf_rng, Option.map_some, fewArgs, bo_add, bo_sub, bo_mul, bo_div, bo_mod, bo_pow, uo_neg, uo_not, tr_none, tr_bool, tr_int, su_tup, su_scr, cv_fn, cv_cls, cv_blt, cv_typ, cb_lenT, cb_lenS, cb_isi, ii_intI, ii_boolI, ii_tupI, ii_intB, ii_boolB, ii_tupB, ii_intT, ii_boolT, ii_tupT, ct_rng1, co_lt, co_le, co_gt, co_ge, co_eq, co_ne, co_in, co_ni, lateM_set, plainBase, bindT_name, bindT_pair, List.length_nil, List.length_cons, Nat.reduceLT, Nat.reduceAdd, decide_true, decide_false, Bool.and_true, Bool.true_and, Bool.and_self, decide_eq_true_eq, decide_eq_false_iff_not, Bool.true_eq_false, Bool.false_eq_true, false_implies, forall_const, true_implies, beq_self_eq_true, Bool.or_true, Bool.true_or, Bool.or_false, Bool.false_or, bne_self_eq_false, set_self, compRho, Bool.not_true, Bool.not_false, Int.zero_add]
    simp only [q4]
    try simp (config := { maxSteps := 10000000 }) only [exs_nil', exs_one, exs_cons', seqK_ret, ev_int, ev_bool, ev_none, ev_str, ev_Name, ev_BinOp, ev_UnaryOp, ev_BoolOp, ev_Compare, ev_CallA, ev_CallN, ev_Slice, ev_SubN, ev_SubC, ev_SubB, ev_SubU, ev_SubF, ev_SubS, ev_SubT, ev_SubA, ev_List, ev_Tuple, ev_Dict0, ev_Comp, ex_Pass, ex_Expr, ex_RetS, ex_RetN, ex_AName, ex_ATupN, ex_ATupC, ex_ASub, ex_If, ex_For, evs_0, evs_1, evOpt_0, evOpt_1, evBool_1, evBool_and, evBool_or, tst_Not, tst_Bool, tst_Cmp, tst_Name, tst_Call, tst_Sub, tst_Const, tstAll_0a, tstAll_0o, tstAll_1a, tstAll_1o, evCmp_1, evCmp_2, evIfs_0, evIfs_1, bindRho, List.map_cons, List.map_nil, List.lookup_cons, List.lookup_nil, ofString_beq, ofString_inj, ofString_bne, upd, isLoc, String.reduceBEq, String.reduceEq, String.reduceBNe, String.reduceNe, ↓reduceIte, true_and, and_true, cxOf_gl, cxOf_call, cxOf_calm, cxOf_hush, cxOf_pull, cxOf_exc, g07, gl07, deq_int, deq_bool, itemsOf_rng, Option.map_some, fewArgs, bo_add, bo_sub, bo_mul, bo_div, bo_mod, bo_pow, uo_neg, uo_not, tr_none, tr_bool, tr_int, su_tup, su_scr, cv_fn, cv_cls, cv_blt, cv_typ, cb_lenT, cb_lenS, cb_isi, ii_intI, ii_boolI, ii_tupI, ii_intB, ii_boolB, ii_tupB, ii_intT, ii_boolT, ii_tupT, ct_rng1, co_lt, co_le, co_gt, co_ge, co_eq, co_ne, co_in, co_ni, lateM_set, plainBase, bindT_name, bindT_pair, List.length_nil, List.length_cons, Nat.reduceLT, Nat.reduceAdd, decide_true, decide_false, Bool.and_true, Bool.true_and, Bool.and_self, decide_eq_true_eq, decide_eq_false_iff_not, Bool.true_eq_false, Bool.false_eq_true, false_implies, forall_const, true_implies, beq_self_eq_true, Bool.or_true, Bool.true_or, Bool.or_false, Bool.false_or, bne_self_eq_false, set_self, compRho, Bool.not_true, Bool.not_false, Int.zero_add]
    simp only [a₆, sliceV, true_and]
    intro V hV W hW
    obtain ⟨qs, hqs, hql⟩ := every2_pairs ps
    rw [hqs] at hW ⊢
    have hWV : W ≠ V := by rintro rfl; rw [set_self] at hW; cases hW
    have hW' : σ₆ W = none := by rw [set_ne _ _ hWV] at hW; exact hW
    have x₇ : Ext σ₆ ((σ₆.set V (.list (pairsV qs))).set W (.list [.tup [.int 8, .int 9], .tup [.int 9, .int 8]])) := ((Ext.refl _).upd hV).upd hW'
    have v₇ : ((σ₆.set V (.list (pairsV qs))).set W (.list [.tup [.int 8, .int 9], .tup [.int 9, .int 8]])) V = some (.list (pairsV qs)) := by rw [set_ne _ _ (Ne.symm hWV), set_self]
    have w₇ : ((σ₆.set V (.list (pairsV qs))).set W (.list [.tup [.int 8, .int 9], .tup [.int 9, .int 8]])) W = some (.list (pairsV [(8, 9), (9, 8)])) := set_self _ _ _
    generalize (σ₆.set V (.list (pairsV qs))).set W (.list [.tup [.int 8, .int 9], .tup [.int 9, .int 8]]) = σ₇ at *
    rw [bo_cat v₇ w₇]
    refine ⟨by rw [pairsV_length, pairsV_length]; simp; lia, fun O hO => ?_⟩
    have hcat : pairsV qs ++ pairsV [(8, 9), (9, 8)] = pairsV (qs ++ [(8, 9), (9, 8)]) := by simp [pairsV]
    rw [hcat]
    have x₈ : Ext σ₆ (σ₇.set O (.list (pairsV (qs ++ [(8, 9), (9, 8)])))) := x₇.set hO
    have o₈ : (σ₇.set O (.list (pairsV (qs ++ [(8, 9), (9, 8)])))) O = some (.list (pairsV (qs ++ [(8, 9), (9, 8)]))) := set_self _ _ _
    generalize σ₇.set O (.list (pairsV (qs ++ [(8, 9), (9, 8)]))) = σ₈ at *
    clear hO v₇ w₇ hW hWV hW' hV x₇
    have hol : (qs ++ [(8, 9), (9, 8)]).length ≤ 12 := by simp; lia
    generalize qs ++ [(8, 9), (9, 8)] = os at *
    rw [seqK_next]; simp (config := { maxSteps := 10000000 }) only [exs_nil', exs_one, exs_cons', seqK_ret, ev_int, ev_bool, ev_none, ev_str, ev_Name, ev_BinOp, ev_UnaryOp, ev_BoolOp, ev_Compare, ev_CallA, ev_CallN, ev_Slice, ev_SubN, ev_SubC, ev_SubB, ev_SubU, ev_SubF, ev_SubS, ev_SubT, ev_SubA, ev_List, ev_Tuple, ev_Dict0, ev_Comp, ex_Pass, ex_Expr, ex_RetS, ex_RetN, ex_AName, ex_ATupN, ex_ATupC, ex_ASub, ex_If, ex_For, evs_0, evs_1, evOpt_0, evOpt_1, evBool_1, evBool_and, evBool_or, tst_Not, tst_Bool, tst_Cmp, tst_Name, tst_Call, tst_Sub, tst_Const, tstAll_0a, tstAll_0o, tstAll_1a, tstAll_1o, evCmp_1, evCmp_2, evIfs_0, evIfs_1, bindRho, List.map_cons, List.map_nil, List.lookup_cons, List.lookup_nil, ofString_beq, ofString_inj, ofString_bne, upd, isLoc, String.reduceBEq, String.reduceEq, String.reduceBNe, String.reduceNe, ↓reduceIte, true_and, and_true, cxOf_gl, cxOf_call, cxOf_calm, cxOf_hush, cxOf_pull, cxOf_exc, g07, gl07, deq_int, deq_bool, itemsOf_rng, Option.map_some, fewArgs, bo_add, bo_sub, bo_mul, bo_div, bo_mod, bo_pow, uo_neg, uo_not, tr_none, tr_bool, tr_int, su_tup, su_scr, cv_fn, cv_cls, cv_blt, cv_typ, cb_lenT, cb_lenS, cb_isi, ii_intI, ii_boolI, ii_tupI, ii_intB, ii_boolB, ii_tupB, ii_intT, ii_boolT, ii_tupT, ct_rng1, co_lt, co_le, co_gt, co_ge, co_eq, co_ne, co_in, co_ni, lateM_set, plainBase, bindT_name, bindT_pair, List.length_nil, List.length_cons, Nat.reduceLT, Nat.reduceAdd, decide_true, decide_false, Bool.and_true, Bool.true_and, Bool.and_self, decide_eq_true_eq, decide_eq_false_iff_not, Bool.true_eq_false, Bool.false_eq_true, false_implies, forall_const, true_implies, beq_self_eq_true, Bool.or_true, Bool.true_or, Bool.or_false, Bool.false_or, bne_self_eq_false, set_self, compRho, Bool.not_true, Bool.not_false, Int.zero_add]
    rw [ct_list o₈]
    intro P hP
    have hPO : P ≠ O := by rintro rfl; rw [o₈] at hP; cases hP
    have x₉ : Ext σ₆ (σ₈.set P (.list (pairsV os))) := x₈.set hP
    have o₉ : (σ₈.set P (.list (pairsV os))) O = some (.list (pairsV os)) := by rw [set_ne _ _ (Ne.symm hPO)]; exact o₈
    have p₉ : (σ₈.set P (.list (pairsV os))) P = some (.list (pairsV os)) := set_self _ _ _
    generalize σ₈.set P (.list (pairsV os)) = σ₉ at *
    refine s7_gaps U hc hm (ps := os) (by lia) p₉ (by lia) (gaps_few os (by lia)) fun T' σ₁₀ _ x₁₀ t₁₀ => ?_
    rw [gaps_due] at t₁₀
    try simp (config := { maxSteps := 10000000 }) only [exs_nil', exs_one, exs_cons', seqK_ret, ev_int, ev_bool, ev_none, ev_str, ev_Name, ev_BinOp, ev_UnaryOp, ev_BoolOp, ev_Compare, ev_CallA, ev_CallN, ev_Slice, ev_SubN, ev_SubC, ev_SubB, ev_SubU, ev_SubF, ev_SubS, ev_SubT, ev_SubA, ev_List, ev_Tuple, ev_Dict0, ev_Comp, ex_Pass, ex_Expr, ex_RetS, ex_RetN, ex_AName, ex_ATupN, ex_ATupC, ex_ASub, ex_If, ex_For, evs_0, evs_1, evOpt_0, evOpt_1, evBool_1, evBool_and, evBool_or, tst_Not, tst_Bool, tst_Cmp, tst_Name, tst_Call, tst_Sub, tst_Const, tstAll_0a, tstAll_0o, tstAll_1a, tstAll_1o, evCmp_1, evCmp_2, evIfs_0, evIfs_1, bindRho, List.map_cons, List.map_nil, List.lookup_cons, List.lookup_nil, ofString_beq, ofString_inj, ofString_bne, upd, isLoc, String.reduceBEq, String.reduceEq, String.reduceBNe, String.reduceNe, ↓reduceIte, true_and, and_true, cxOf_gl, cxOf_call, cxOf_calm, cxOf_hush, cxOf_pull, cxOf_exc, g07, gl07, deq_int, deq_bool, itemsOf_rng, Option.map_some, fewArgs, bo_add, bo_sub, bo_mul, bo_div, bo_mod, bo_pow, uo_neg, uo_not, tr_none, tr_bool, tr_int, su_tup, su_scr, cv_fn, cv_cls, cv_blt, cv_typ, cb_lenT, cb_lenS, cb_isi, ii_intI, ii_boolI, ii_tupI, ii_intB, ii_boolB, ii_tupB, ii_intT, ii_boolT, ii_tupT, ct_rng1, co_lt, co_le, co_gt, co_ge, co_eq, co_ne, co_in, co_ni, lateM_set, plainBase, bindT_name, bindT_pair, List.length_nil, List.length_cons, Nat.reduceLT, Nat.reduceAdd, decide_true, decide_false, Bool.and_true, Bool.true_and, Bool.and_self, decide_eq_true_eq, decide_eq_false_iff_not, Bool.true_eq_false, Bool.false_eq_true, false_implies, forall_const, true_implies, beq_self_eq_true, Bool.or_true, Bool.true_or, Bool.or_false, Bool.false_or, bne_self_eq_false, set_self, compRho, Bool.not_true, Bool.not_false, Int.zero_add]
    refine s7_due U hc hm (ps := os) (by lia) (x₁₀ _ _ o₉) (by lia) (due_few os (by lia)) fun D' σ₁₁ _ x₁₁ d₁₁ => ?_
    try simp (config := { maxSteps := 10000000 }) only [exs_nil', exs_one, exs_cons', seqK_ret, ev_int, ev_bool, ev_none, ev_str, ev_Name, ev_BinOp, ev_UnaryOp, ev_BoolOp, ev_Compare, ev_CallA, ev_CallN, ev_Slice, ev_SubN, ev_SubC, ev_SubB, ev_SubU, ev_SubF, ev_SubS, ev_SubT, ev_SubA, ev_List, ev_Tuple, ev_Dict0, ev_Comp, ex_Pass, ex_Expr, ex_RetS, ex_RetN, ex_AName, ex_ATupN, ex_ATupC, ex_ASub, ex_If, ex_For, evs_0, evs_1, evOpt_0, evOpt_1, evBool_1, evBool_and, evBool_or, tst_Not, tst_Bool, tst_Cmp, tst_Name, tst_Call, tst_Sub, tst_Const, tstAll_0a, tstAll_0o, tstAll_1a, tstAll_1o, evCmp_1, evCmp_2, evIfs_0, evIfs_1, bindRho, List.map_cons, List.map_nil, List.lookup_cons, List.lookup_nil, ofString_beq, ofString_inj, ofString_bne, upd, isLoc, String.reduceBEq, String.reduceEq, String.reduceBNe, String.reduceNe, ↓reduceIte, true_and, and_true, cxOf_gl, cxOf_call, cxOf_calm, cxOf_hush, cxOf_pull, cxOf_exc, g07, gl07, deq_int, deq_bool, itemsOf_rng, Option.map_some, fewArgs, bo_add, bo_sub, bo_mul, bo_div, bo_mod, bo_pow, uo_neg, uo_not, tr_none, tr_bool, tr_int, su_tup, su_scr, cv_fn, cv_cls, cv_blt, cv_typ, cb_lenT, cb_lenS, cb_isi, ii_intI, ii_boolI, ii_tupI, ii_intB, ii_boolB, ii_tupB, ii_intT, ii_boolT, ii_tupT, ct_rng1, co_lt, co_le, co_gt, co_ge, co_eq, co_ne, co_in, co_ni, lateM_set, plainBase, bindT_name, bindT_pair, List.length_nil, List.length_cons, Nat.reduceLT, Nat.reduceAdd, decide_true, decide_false, Bool.and_true, Bool.true_and, Bool.and_self, decide_eq_true_eq, decide_eq_false_iff_not, Bool.true_eq_false, Bool.false_eq_true, false_implies, forall_const, true_implies, beq_self_eq_true, Bool.or_true, Bool.true_or, Bool.or_false, Bool.false_or, bne_self_eq_false, set_self, compRho, Bool.not_true, Bool.not_false, Int.zero_add]
    refine s7_listed U hc hm (by lia) (x₁₁ _ _ t₁₀) d₁₁ (hmem os (by lia)).1 (hmem os (by lia)).2 fun σ₁₂ x₁₂ => ?_
    simp (config := { maxSteps := 10000000 }) only [exs_nil', exs_one, exs_cons', seqK_ret, ev_int, ev_bool, ev_none, ev_str, ev_Name, ev_BinOp, ev_UnaryOp, ev_BoolOp, ev_Compare, ev_CallA, ev_CallN, ev_Slice, ev_SubN, ev_SubC, ev_SubB, ev_SubU, ev_SubF, ev_SubS, ev_SubT, ev_SubA, ev_List, ev_Tuple, ev_Dict0, ev_Comp, ex_Pass, ex_Expr, ex_RetS, ex_RetN, ex_AName, ex_ATupN, ex_ATupC, ex_ASub, ex_If, ex_For, evs_0, evs_1, evOpt_0, evOpt_1, evBool_1, evBool_and, evBool_or, tst_Not, tst_Bool, tst_Cmp, tst_Name, tst_Call, tst_Sub, tst_Const, tstAll_0a, tstAll_0o, tstAll_1a, tstAll_1o, evCmp_1, evCmp_2, evIfs_0, evIfs_1, bindRho, List.map_cons, List.map_nil, List.lookup_cons, List.lookup_nil, ofString_beq, ofString_inj, ofString_bne, upd, isLoc, String.reduceBEq, String.reduceEq, String.reduceBNe, String.reduceNe, ↓reduceIte, true_and, and_true, cxOf_gl, cxOf_call, cxOf_calm, cxOf_hush, cxOf_pull, cxOf_exc, g07, gl07, deq_int, deq_bool, itemsOf_rng, Option.map_some, fewArgs, bo_add, bo_sub, bo_mul, bo_div, bo_mod, bo_pow, uo_neg, uo_not, tr_none, tr_bool, tr_int, su_tup, su_scr, cv_fn, cv_cls, cv_blt, cv_typ, cb_lenT, cb_lenS, cb_isi, ii_intI, ii_boolI, ii_tupI, ii_intB, ii_boolB, ii_tupB, ii_intT, ii_boolT, ii_tupT, ct_rng1, co_lt, co_le, co_gt, co_ge, co_eq, co_ne, co_in, co_ni, lateM_set, plainBase, bindT_name, bindT_pair, List.length_nil, List.length_cons, Nat.reduceLT, Nat.reduceAdd, decide_true, decide_false, Bool.and_true, Bool.true_and, Bool.and_self, decide_eq_true_eq, decide_eq_false_iff_not, Bool.true_eq_false, Bool.false_eq_true, false_implies, forall_const, true_implies, beq_self_eq_true, Bool.or_true, Bool.true_or, Bool.or_false, Bool.false_or, bne_self_eq_false, set_self, compRho, Bool.not_true, Bool.not_false, Int.zero_add]
    have X := ((x₉.trans x₁₀).trans x₁₁).trans x₁₂
    have t₁₂ := X _ _ t₆
    have d₁₂ := X _ _ d₆
    have a₁₂ := X _ _ a₆
    have h₁₂ := X _ _ h₆
    have e₁₂ := X _ _ e₆
    clear X x₁₂ x₁₁ x₁₀ x₉ x₈ t₆ d₆ a₆ h₆ e₆ t₁₀ d₁₁ o₈ o₉ p₉ hP
    have hSt : S = tripsV (sortT (dueL ps)) := hS ▸ sortT_eq _
    rw [deq_list t₁₂ e₁₂ (hSt ▸ flat_trips _) (hSt ▸ flat_trips _), show eqList (veq 3) S S = true from hSt ▸ eq_trips _]
    simp (config := { maxSteps := 10000000 }) only [exs_nil', exs_one, exs_cons', seqK_ret, ev_int, ev_bool, ev_none, ev_str, ev_Name, ev_BinOp, ev_UnaryOp, ev_BoolOp, ev_Compare, ev_CallA, ev_CallN, ev_Slice, ev_SubN, ev_SubC, ev_SubB, ev_SubU, ev_SubF, ev_SubS, ev_SubT, ev_SubA, ev_List, ev_Tuple, ev_Dict0, ev_Comp, ex_Pass, ex_Expr, ex_RetS, ex_RetN, ex_AName, ex_ATupN, ex_ATupC, ex_ASub, ex_If, ex_For, evs_0, evs_1, evOpt_0, evOpt_1, evBool_1, evBool_and, evBool_or, tst_Not, tst_Bool, tst_Cmp, tst_Name, tst_Call, tst_Sub, tst_Const, tstAll_0a, tstAll_0o, tstAll_1a, tstAll_1o, evCmp_1, evCmp_2, evIfs_0, evIfs_1, bindRho, List.map_cons, List.map_nil, List.lookup_cons, List.lookup_nil, ofString_beq, ofString_inj, ofString_bne, upd, isLoc, String.reduceBEq, String.reduceEq, String.reduceBNe, String.reduceNe, ↓reduceIte, true_and, and_true, cxOf_gl, cxOf_call, cxOf_calm, cxOf_hush, cxOf_pull, cxOf_exc, g07, gl07, deq_int, deq_bool, itemsOf_rng, Option.map_some, fewArgs, bo_add, bo_sub, bo_mul, bo_div, bo_mod, bo_pow, uo_neg, uo_not, tr_none, tr_bool, tr_int, su_tup, su_scr, cv_fn, cv_cls, cv_blt, cv_typ, cb_lenT, cb_lenS, cb_isi, ii_intI, ii_boolI, ii_tupI, ii_intB, ii_boolB, ii_tupB, ii_intT, ii_boolT, ii_tupT, ct_rng1, co_lt, co_le, co_gt, co_ge, co_eq, co_ne, co_in, co_ni, lateM_set, plainBase, bindT_name, bindT_pair, List.length_nil, List.length_cons, Nat.reduceLT, Nat.reduceAdd, decide_true, decide_false, Bool.and_true, Bool.true_and, Bool.and_self, decide_eq_true_eq, decide_eq_false_iff_not, Bool.true_eq_false, Bool.false_eq_true, false_implies, forall_const, true_implies, beq_self_eq_true, Bool.or_true, Bool.true_or, Bool.or_false, Bool.false_or, bne_self_eq_false, set_self, compRho, Bool.not_true, Bool.not_false, Int.zero_add]
    rw [seqK_next]; simp (config := { maxSteps := 10000000 }) only [exs_nil', exs_one, exs_cons', seqK_ret, ev_int, ev_bool, ev_none, ev_str, ev_Name, ev_BinOp, ev_UnaryOp, ev_BoolOp, ev_Compare, ev_CallA, ev_CallN, ev_Slice, ev_SubN, ev_SubC, ev_SubB, ev_SubU, ev_SubF, ev_SubS, ev_SubT, ev_SubA, ev_List, ev_Tuple, ev_Dict0, ev_Comp, ex_Pass, ex_Expr, ex_RetS, ex_RetN, ex_AName, ex_ATupN, ex_ATupC, ex_ASub, ex_If, ex_For, evs_0, evs_1, evOpt_0, evOpt_1, evBool_1, evBool_and, evBool_or, tst_Not, tst_Bool, tst_Cmp, tst_Name, tst_Call, tst_Sub, tst_Const, tstAll_0a, tstAll_0o, tstAll_1a, tstAll_1o, evCmp_1, evCmp_2, evIfs_0, evIfs_1, bindRho, List.map_cons, List.map_nil, List.lookup_cons, List.lookup_nil, ofString_beq, ofString_inj, ofString_bne, upd, isLoc, String.reduceBEq, String.reduceEq, String.reduceBNe, String.reduceNe, ↓reduceIte, true_and, and_true, cxOf_gl, cxOf_call, cxOf_calm, cxOf_hush, cxOf_pull, cxOf_exc, g07, gl07, deq_int, deq_bool, itemsOf_rng, Option.map_some, fewArgs, bo_add, bo_sub, bo_mul, bo_div, bo_mod, bo_pow, uo_neg, uo_not, tr_none, tr_bool, tr_int, su_tup, su_scr, cv_fn, cv_cls, cv_blt, cv_typ, cb_lenT, cb_lenS, cb_isi, ii_intI, ii_boolI, ii_tupI, ii_intB, ii_boolB, ii_tupB, ii_intT, ii_boolT, ii_tupT, ct_rng1, co_lt, co_le, co_gt, co_ge, co_eq, co_ne, co_in, co_ni, lateM_set, plainBase, bindT_name, bindT_pair, List.length_nil, List.length_cons, Nat.reduceLT, Nat.reduceAdd, decide_true, decide_false, Bool.and_true, Bool.true_and, Bool.and_self, decide_eq_true_eq, decide_eq_false_iff_not, Bool.true_eq_false, Bool.false_eq_true, false_implies, forall_const, true_implies, beq_self_eq_true, Bool.or_true, Bool.true_or, Bool.or_false, Bool.false_or, bne_self_eq_false, set_self, compRho, Bool.not_true, Bool.not_false, Int.zero_add]
    rw [lateM_list t₁₂ (by decide)]
    simp (config := { maxSteps := 10000000 }) only [exs_nil', exs_one, exs_cons', seqK_ret, ev_int, ev_bool, ev_none, ev_str, ev_Name, ev_BinOp, ev_UnaryOp, ev_BoolOp, ev_Compare, ev_CallA, ev_CallN, ev_Slice, ev_SubN, ev_SubC, ev_SubB, ev_SubU, ev_SubF, ev_SubS, ev_SubT, ev_SubA, ev_List, ev_Tuple, ev_Dict0, ev_Comp, ex_Pass, ex_Expr, ex_RetS, ex_RetN, ex_AName, ex_ATupN, ex_ATupC, ex_ASub, ex_If, ex_For, evs_0, evs_1, evOpt_0, evOpt_1, evBool_1, evBool_and, evBool_or, tst_Not, tst_Bool, tst_Cmp, tst_Name, tst_Call, tst_Sub, tst_Const, tstAll_0a, tstAll_0o, tstAll_1a, tstAll_1o, evCmp_1, evCmp_2, evIfs_0, evIfs_1, bindRho, List.map_cons, List.map_nil, List.lookup_cons, List.lookup_nil, ofString_beq, ofString_inj, ofString_bne, upd, isLoc, String.reduceBEq, String.reduceEq, String.reduceBNe, String.reduceNe, ↓reduceIte, true_and, and_true, cxOf_gl, cxOf_call, cxOf_calm, cxOf_hush, cxOf_pull, cxOf_exc, g07, gl07, deq_int, deq_bool, itemsOf_rng, Option.map_some, fewArgs, bo_add, bo_sub, bo_mul, bo_div, bo_mod, bo_pow, uo_neg, uo_not, tr_none, tr_bool, tr_int, su_tup, su_scr, cv_fn, cv_cls, cv_blt, cv_typ, cb_lenT, cb_lenS, cb_isi, ii_intI, ii_boolI, ii_tupI, ii_intB, ii_boolB, ii_tupB, ii_intT, ii_boolT, ii_tupT, ct_rng1, co_lt, co_le, co_gt, co_ge, co_eq, co_ne, co_in, co_ni, lateM_set, plainBase, bindT_name, bindT_pair, List.length_nil, List.length_cons, Nat.reduceLT, Nat.reduceAdd, decide_true, decide_false, Bool.and_true, Bool.true_and, Bool.and_self, decide_eq_true_eq, decide_eq_false_iff_not, Bool.true_eq_false, Bool.false_eq_true, false_implies, forall_const, true_implies, beq_self_eq_true, Bool.or_true, Bool.true_or, Bool.or_false, Bool.false_or, bne_self_eq_false, set_self, compRho, Bool.not_true, Bool.not_false, Int.zero_add]
    rw [listMeth_append t₁₂]
    refine ⟨by lia, ?_⟩
    have d₁₃ : (σ₁₂.set T (.list (S ++ [.tup [.int 0, .int 0, .int 0]]))) D = some (.list S) := by rw [set_ne _ _ hDT]; exact d₁₂
    have a₁₃ : (σ₁₂.set T (.list (S ++ [.tup [.int 0, .int 0, .int 0]]))) A = some (.list (pairsV ps)) := by rw [set_ne _ _ (Ne.symm hTA)]; exact a₁₂
    have h₁₃ : (σ₁₂.set T (.list (S ++ [.tup [.int 0, .int 0, .int 0]]))) H = some (.list (pairsV ps)) := by rw [set_ne _ _ (Ne.symm hTH)]; exact h₁₂
    generalize σ₁₂.set T (.list (S ++ [.tup [.int 0, .int 0, .int 0]])) = σ₁₃ at *
    rw [seqK_next]; simp (config := { maxSteps := 10000000 }) only [exs_nil', exs_one, exs_cons', seqK_ret, ev_int, ev_bool, ev_none, ev_str, ev_Name, ev_BinOp, ev_UnaryOp, ev_BoolOp, ev_Compare, ev_CallA, ev_CallN, ev_Slice, ev_SubN, ev_SubC, ev_SubB, ev_SubU, ev_SubF, ev_SubS, ev_SubT, ev_SubA, ev_List, ev_Tuple, ev_Dict0, ev_Comp, ex_Pass, ex_Expr, ex_RetS, ex_RetN, ex_AName, ex_ATupN, ex_ATupC, ex_ASub, ex_If, ex_For, evs_0, evs_1, evOpt_0, evOpt_1, evBool_1, evBool_and, evBool_or, tst_Not, tst_Bool, tst_Cmp, tst_Name, tst_Call, tst_Sub, tst_Const, tstAll_0a, tstAll_0o, tstAll_1a, tstAll_1o, evCmp_1, evCmp_2, evIfs_0, evIfs_1, bindRho, List.map_cons, List.map_nil, List.lookup_cons, List.lookup_nil, ofString_beq, ofString_inj, ofString_bne, upd, isLoc, String.reduceBEq, String.reduceEq, String.reduceBNe, String.reduceNe, ↓reduceIte, true_and, and_true, cxOf_gl, cxOf_call, cxOf_calm, cxOf_hush, cxOf_pull, cxOf_exc, g07, gl07, deq_int, deq_bool, itemsOf_rng, Option.map_some, fewArgs, bo_add, bo_sub, bo_mul, bo_div, bo_mod, bo_pow, uo_neg, uo_not, tr_none, tr_bool, tr_int, su_tup, su_scr, cv_fn, cv_cls, cv_blt, cv_typ, cb_lenT, cb_lenS, cb_isi, ii_intI, ii_boolI, ii_tupI, ii_intB, ii_boolB, ii_tupB, ii_intT, ii_boolT, ii_tupT, ct_rng1, co_lt, co_le, co_gt, co_ge, co_eq, co_ne, co_in, co_ni, lateM_set, plainBase, bindT_name, bindT_pair, List.length_nil, List.length_cons, Nat.reduceLT, Nat.reduceAdd, decide_true, decide_false, Bool.and_true, Bool.true_and, Bool.and_self, decide_eq_true_eq, decide_eq_false_iff_not, Bool.true_eq_false, Bool.false_eq_true, false_implies, forall_const, true_implies, beq_self_eq_true, Bool.or_true, Bool.true_or, Bool.or_false, Bool.false_or, bne_self_eq_false, set_self, compRho, Bool.not_true, Bool.not_false, Int.zero_add]
    refine s7_gaps U hc hm (ps := ps) (by lia) h₁₃ (by lia) (gaps_few ps (by lia)) fun T'' σ₁₄ _ x₁₄ t₁₄ => ?_
    rw [gaps_due, hS] at t₁₄
    try simp (config := { maxSteps := 10000000 }) only [exs_nil', exs_one, exs_cons', seqK_ret, ev_int, ev_bool, ev_none, ev_str, ev_Name, ev_BinOp, ev_UnaryOp, ev_BoolOp, ev_Compare, ev_CallA, ev_CallN, ev_Slice, ev_SubN, ev_SubC, ev_SubB, ev_SubU, ev_SubF, ev_SubS, ev_SubT, ev_SubA, ev_List, ev_Tuple, ev_Dict0, ev_Comp, ex_Pass, ex_Expr, ex_RetS, ex_RetN, ex_AName, ex_ATupN, ex_ATupC, ex_ASub, ex_If, ex_For, evs_0, evs_1, evOpt_0, evOpt_1, evBool_1, evBool_and, evBool_or, tst_Not, tst_Bool, tst_Cmp, tst_Name, tst_Call, tst_Sub, tst_Const, tstAll_0a, tstAll_0o, tstAll_1a, tstAll_1o, evCmp_1, evCmp_2, evIfs_0, evIfs_1, bindRho, List.map_cons, List.map_nil, List.lookup_cons, List.lookup_nil, ofString_beq, ofString_inj, ofString_bne, upd, isLoc, String.reduceBEq, String.reduceEq, String.reduceBNe, String.reduceNe, ↓reduceIte, true_and, and_true, cxOf_gl, cxOf_call, cxOf_calm, cxOf_hush, cxOf_pull, cxOf_exc, g07, gl07, deq_int, deq_bool, itemsOf_rng, Option.map_some, fewArgs, bo_add, bo_sub, bo_mul, bo_div, bo_mod, bo_pow, uo_neg, uo_not, tr_none, tr_bool, tr_int, su_tup, su_scr, cv_fn, cv_cls, cv_blt, cv_typ, cb_lenT, cb_lenS, cb_isi, ii_intI, ii_boolI, ii_tupI, ii_intB, ii_boolB, ii_tupB, ii_intT, ii_boolT, ii_tupT, ct_rng1, co_lt, co_le, co_gt, co_ge, co_eq, co_ne, co_in, co_ni, lateM_set, plainBase, bindT_name, bindT_pair, List.length_nil, List.length_cons, Nat.reduceLT, Nat.reduceAdd, decide_true, decide_false, Bool.and_true, Bool.true_and, Bool.and_self, decide_eq_true_eq, decide_eq_false_iff_not, Bool.true_eq_false, Bool.false_eq_true, false_implies, forall_const, true_implies, beq_self_eq_true, Bool.or_true, Bool.true_or, Bool.or_false, Bool.false_or, bne_self_eq_false, set_self, compRho, Bool.not_true, Bool.not_false, Int.zero_add]
    refine s7_listed U hc hm (by lia) t₁₄ (x₁₄ _ _ d₁₃) hSm.1 hSm.2 fun σ₁₅ x₁₅ => ?_
    simp (config := { maxSteps := 10000000 }) only [exs_nil', exs_one, exs_cons', seqK_ret, ev_int, ev_bool, ev_none, ev_str, ev_Name, ev_BinOp, ev_UnaryOp, ev_BoolOp, ev_Compare, ev_CallA, ev_CallN, ev_Slice, ev_SubN, ev_SubC, ev_SubB, ev_SubU, ev_SubF, ev_SubS, ev_SubT, ev_SubA, ev_List, ev_Tuple, ev_Dict0, ev_Comp, ex_Pass, ex_Expr, ex_RetS, ex_RetN, ex_AName, ex_ATupN, ex_ATupC, ex_ASub, ex_If, ex_For, evs_0, evs_1, evOpt_0, evOpt_1, evBool_1, evBool_and, evBool_or, tst_Not, tst_Bool, tst_Cmp, tst_Name, tst_Call, tst_Sub, tst_Const, tstAll_0a, tstAll_0o, tstAll_1a, tstAll_1o, evCmp_1, evCmp_2, evIfs_0, evIfs_1, bindRho, List.map_cons, List.map_nil, List.lookup_cons, List.lookup_nil, ofString_beq, ofString_inj, ofString_bne, upd, isLoc, String.reduceBEq, String.reduceEq, String.reduceBNe, String.reduceNe, ↓reduceIte, true_and, and_true, cxOf_gl, cxOf_call, cxOf_calm, cxOf_hush, cxOf_pull, cxOf_exc, g07, gl07, deq_int, deq_bool, itemsOf_rng, Option.map_some, fewArgs, bo_add, bo_sub, bo_mul, bo_div, bo_mod, bo_pow, uo_neg, uo_not, tr_none, tr_bool, tr_int, su_tup, su_scr, cv_fn, cv_cls, cv_blt, cv_typ, cb_lenT, cb_lenS, cb_isi, ii_intI, ii_boolI, ii_tupI, ii_intB, ii_boolB, ii_tupB, ii_intT, ii_boolT, ii_tupT, ct_rng1, co_lt, co_le, co_gt, co_ge, co_eq, co_ne, co_in, co_ni, lateM_set, plainBase, bindT_name, bindT_pair, List.length_nil, List.length_cons, Nat.reduceLT, Nat.reduceAdd, decide_true, decide_false, Bool.and_true, Bool.true_and, Bool.and_self, decide_eq_true_eq, decide_eq_false_iff_not, Bool.true_eq_false, Bool.false_eq_true, false_implies, forall_const, true_implies, beq_self_eq_true, Bool.or_true, Bool.true_or, Bool.or_false, Bool.false_or, bne_self_eq_false, set_self, compRho, Bool.not_true, Bool.not_false, Int.zero_add]
    simp only [q4]
    rw [deq_list (x₁₅ _ _ (x₁₄ _ _ h₁₃)) (x₁₅ _ _ (x₁₄ _ _ a₁₃)) (flat_pairs _) (flat_pairs _), eq_pairs]
    exact h _
end
end Mine

set_option linter.unusedVariables false
set_option maxRecDepth 100000
set_option maxHeartbeats 8000000
set_option Elab.async false
namespace Mine
open PySem PySem.W PyProof.Rows

theorem law_post (L : OpenLaw) (args : List WData) : L.row.toRowW.claim.post args (.bool true) args = true := by
  with_unfolding_all rfl
/-- the end of a law's walk -/
theorem head_law (L : OpenLaw) {w : World} {s₁ : Shared} {cl : Str → Option Addr} {mean : ExcName → Option Value} {args : List WData} {F : Tab} {d : Nat} {f : Fn} {fa sa : Addr} {l : List Int}
    (hcall : LCall L.prog w F s₁.heap d true f [.scr l] (fun _ => none) (fun v _ => v = .bool true) fun _ _ => False) (hd : d ≤ 600) (hF : F.addr f = some fa) (hs : F.scr = some (sa, l))
    (hL : ∃ items, s₁.heap.IsList sa items ∧ IntsAre items.toList l ∧ l.length ≤ cap) (hg : s₁.gens = #[]) :
    wpAny (model L.prog w) callerA (call (.ref fa) [.ref sa]) (fun v s' => GoodWG L.row.toRowW.claim cl mean args s₁ (.ok (.ret v)) s') (fun e s' => GoodWG L.row.toRowW.claim cl mean args s₁ (.error e) s') s₁ := by
  have hI : Inv L.prog w F s₁.heap (fun _ => none) s₁.heap := ⟨fun _ _ e => e, fun _ _ e => (by cases e), fun a l' e => by rw [hs] at e; cases e; exact hL⟩
  refine wpAny_mono (hcall callerA s₁ [.ref sa] fa ?_ (fun _ => rfl) hF hI (.cons (.scr hs) .nil)) (fun v s' ⟨a, σ', hv, J, g, e⟩ => ?_) fun e s' ⟨_, _, _, _, _, q⟩ => q.elim
  · refine ⟨?_, ?_⟩
    · show 301 + d < recursionLimit
      have : recursionLimit = 1000 := by decide
      lia
    · show 4 + 3 * d + 70 < cLine
      have : cLine = 9900 := by decide
      lia
  · subst e
    cases hv
    obtain ⟨h', tk, rfl⟩ := g.same
    refine GoodW.toG ⟨.inl ⟨_, .bool true, [], rfl, fun _ => rfl, .bool true, law_post L args, fun _ => ⟨.nil, fun _ h => by simp at h⟩⟩, J.keep, rfl, hg⟩

def tab07 (mg : Str → Option Value) (names : List Str) (sa : Addr) (l : List Int) : Tab :=
  { fn := fun n => if n ∈ names then (match mg n with | some (.ref a) => some a | _ => none) else none
    cls := fun _ => none
    meth := fun _ _ => none
    scr := some (sa, l) }

theorem rec_of {p q : Program} {n : Str} (h : ((recsOf q).find? fun d => d.name == n).any (fun d => simpleArgs d.params && scopeOk d.scope (d.params.args.map (·.arg))) = true)
    (h3 : ((recsOf q).find? fun d => d.name == n).map (fun d => (d.params.args.map (·.arg), d.body, d.scope)) = some (fnOf p n)) :
    ∃ d ∈ recsOf q, d.name = n ∧ simpleArgs d.params = true ∧ scopeOk d.scope (d.params.args.map (·.arg)) = true ∧ fnOf p n = (d.params.args.map (·.arg), d.body, d.scope) := by
  cases e : (recsOf q).find? fun d => d.name == n with
  | none => rw [e] at h; cases h
  | some d =>
    rw [e] at h h3
    have h' := Bool.and_eq_true_iff.mp h
    exact ⟨d, List.mem_of_find?_eq_some e, by simpa using List.find?_some e, h'.1, h'.2, (Option.some.inj h3).symm⟩
theorem sup07 {q : Program} {loose : List Str} {mean : ExcName → Option Value} {mg mb : Str → Option Value} {w : World} {B : Heap} {sa : Addr} {l : List Int} (T : Top q loose mean mg mb B) (hs : importsNone q = true)
    (hrec : ∀ n ∈ names07, ∃ d ∈ recsOf q, d.name = n ∧ simpleArgs d.params = true ∧ scopeOk d.scope (d.params.args.map (·.arg)) = true ∧ fnOf PySem.Challenge.pw_uf050028_07 n = (d.params.args.map (·.arg), d.body, d.scope))
    (hfree : ∀ x ∈ ([("len", .builtin "len"), ("isinstance", .builtin "isinstance"), ("sorted", .builtin "sorted"), ("range", .type "range"), ("list", .type "list"), ("tuple", .type "tuple"), ("int", .type "int"), ("bool", .type "bool")] : List (Str × Value)), mg x.1 = none ∧ bootBuiltins x.1 = some x.2) :
    Sup PySem.Challenge.pw_uf050028_07 w (tab07 mg names07 sa l) B g07 names07 := by
  have fn : ∀ n ∈ names07, ∃ a, mg n = some (.ref a) ∧ (tab07 mg names07 sa l).fn n = some a ∧ FnAt B a mainGlobals builtinsNs (fnOf PySem.Challenge.pw_uf050028_07 n).1 (fnOf PySem.Challenge.pw_uf050028_07 n).2.1 (fnOf PySem.Challenge.pw_uf050028_07 n).2.2 := by
    intro n hn
    obtain ⟨d, h1, h2, h3, h4, h5⟩ := hrec n hn
    obtain ⟨a, e1, e2⟩ := fnAt_top T h1 h3 h4
    subst h2
    refine ⟨a, e1, ?_, ?_⟩
    · show (if d.name ∈ names07 then _ else _) = _
      rw [if_pos hn, e1]
    · rw [h5]; exact e2
  refine ⟨fun n hn => let ⟨a, _, h2, h3⟩ := fn n hn; ⟨a, h2, h3⟩, fun n a h => ?_, ⟨mg, mb, T.g, T.b, fun x v hx => ?_⟩, ?_, T.nolimit⟩
  · unfold tab07 at h
    simp only at h
    split at h
    · assumption
    · cases h
  · have bl : ∀ y : Str × Value, y ∈ ([("len", .builtin "len"), ("isinstance", .builtin "isinstance"), ("sorted", .builtin "sorted"), ("range", .type "range"), ("list", .type "list"), ("tuple", .type "tuple"), ("int", .type "int"), ("bool", .type "bool")] : List (Str × Value)) → y.1 ≠ "__name__" → mg y.1 = none ∧ mb y.1 = some y.2 := fun y hy hne => ⟨(hfree y hy).1, by rw [T.builtins _ hne]; exact (hfree y hy).2⟩
    have fl : ∀ n ∈ names07, ∃ val, mg n = some val ∧ VRel (tab07 mg names07 sa l) B val (.fn n) := fun n hn => let ⟨a, h1, h2, _⟩ := fn n hn; ⟨_, h1, .fn h2⟩
    have key : ∀ y ∈ gl07, (∃ val, mg y.1 = some val ∧ VRel (tab07 mg names07 sa l) B val y.2) ∨ (mg y.1 = none ∧ ∃ val, mb y.1 = some val ∧ VRel (tab07 mg names07 sa l) B val y.2) := by
      intro y hy
      simp only [gl07, List.mem_cons, List.not_mem_nil, or_false] at hy
      rcases hy with rfl | rfl | rfl | rfl | rfl | rfl | rfl | rfl | rfl | rfl | rfl | rfl | rfl | rfl
      · exact .inl (fl _ (by decide))
      · exact .inl (fl _ (by decide))
      · exact .inl (fl _ (by decide))
      · exact .inl (fl _ (by decide))
      · exact .inl (fl _ (by decide))
      · exact .inl (fl _ (by decide))
      · have := bl (("len" : Str), .builtin "len") (by simp) (by decide); exact .inr ⟨this.1, _, this.2, .blt _⟩
      · have := bl (("isinstance" : Str), .builtin "isinstance") (by simp) (by decide); exact .inr ⟨this.1, _, this.2, .blt _⟩
      · have := bl (("sorted" : Str), .builtin "sorted") (by simp) (by decide); exact .inr ⟨this.1, _, this.2, .blt _⟩
      · have := bl (("range" : Str), .type "range") (by simp) (by decide); exact .inr ⟨this.1, _, this.2, .typ _⟩
      · have := bl (("list" : Str), .type "list") (by simp) (by decide); exact .inr ⟨this.1, _, this.2, .typ _⟩
      · have := bl (("tuple" : Str), .type "tuple") (by simp) (by decide); exact .inr ⟨this.1, _, this.2, .typ _⟩
      · have := bl (("int" : Str), .type "int") (by simp) (by decide); exact .inr ⟨this.1, _, this.2, .typ _⟩
      · have := bl (("bool" : Str), .type "bool") (by simp) (by decide); exact .inr ⟨this.1, _, this.2, .typ _⟩
    exact key (x, v) (mem_of_lookup hx)
  · obtain ⟨mm, ⟨o, _, _, e, _⟩, _⟩ := (T.seer hs).mods
    exact ⟨o, e⟩
end Mine

open PySem PySem.W PyProof.Rows
open_top hd for PySem.Challenge.rw_uf050028_07
theorem PySem.Challenge.cw_uf050028_07_holds : PySem.Challenge.rw_uf050028_07.Holds :=
  hd (by
  k_fill
  intro w s₀ s₁ mg mb G Y fa o pm cd doc dV kV ho hdat hcd hD hmg hg args vals as hpre hlay hrd hwl hlo
  refine Ground.open G ?_
  intro T B D TE TW
  wrow_args hpre hlay hrd hwl hlo
  rename_i l hs hlay0 hL1 hr1 hl2 x4 x3 sa vs x0 hL ra ww r0 hI hr hc1 hc2
  have U : Mine.Sup PySem.Challenge.pw_uf050028_07 w (Mine.tab07 mg Mine.names07 sa l) s₁.heap Mine.g07 Mine.names07 := Mine.sup07 T (by decide +kernel) ?_ ?_
  · refine Mine.head_law PySem.Challenge.rw_uf050028_07 (Mine.s7_law U (fun _ => rfl) (fun _ _ => rfl) (d := 6) (Nat.le_refl _) fun _ => rfl) (by decide) (F := Mine.tab07 mg Mine.names07 sa l) ?_ rfl ⟨vs.toArray, hL, hI, ?_⟩ hg
    · have hmg' : mg "law" = some (.ref fa) := hmg
      simp only [Mine.Tab.addr, Mine.tab07]
      rw [if_pos (by decide), hmg']
    · have : Mine.cap = 1000000 := rfl
      lia
  · intro n hn
    simp only [Mine.names07, List.mem_cons, List.not_mem_nil, or_false] at hn
    rcases hn with rfl | rfl | rfl | rfl | rfl | rfl <;> exact Mine.rec_of (by decide +kernel) (by with_unfolding_all rfl)
  · intro x hx
    simp only [List.mem_cons, List.not_mem_nil, or_false] at hx
    rcases hx with rfl | rfl | rfl | rfl | rfl | rfl | rfl | rfl <;> refine ⟨T.free _ ?_ ?_ ?_ ?_ ?_, ?_⟩
    all_goals decide +kernel)
