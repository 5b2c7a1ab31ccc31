import PyProof.Rows.All
import Wide.All
import OpenK.AllK
import Open.Row
import KE.KItem
import KE.KDictLaws
import KE.KDictList
import PyProof.StationsW
import PyProof.Rows.TupIter
import OpenK.KWalk
import OpenK.KOwn
import PyProof.NsDelKeeps
import OpenK.KCls
import OpenK.KMake
import KE.KIsAll
import PyProof.ExcArgs
import PyProof.TableCode
import Open.Pieces
import Wide.FinOn
import KE.KTryMore
import PyProof.ExcBaseAll.ValueError
import PySem.Challenge.RW_uf050028_02
set_option Elab.async false
/-! small proofs of linear facts: a sum of what is known that cannot be -/
namespace Mine
inductive Tm where
  | x (i : Nat)
  | k (n : Int)
  | a (s t : Tm)
  | d (s t : Tm)
  | m (n : Int) (t : Tm)
  | q (t : Tm) (n : Int)
  | g (t : Tm)
noncomputable def Tm.ev (c : List Int) : Tm → Int
  | .x i => c.getD i 0
  | .k n => n
  | .a s t => s.ev c + t.ev c
  | .d s t => s.ev c - t.ev c
  | .m n t => n * t.ev c
  | .q t n => t.ev c * n
  | .g t => -t.ev c
noncomputable def padd : List Int → List Int → List Int
  | [], q => q
  | p, [] => p
  | a :: p, b :: q => (a + b) :: padd p q
noncomputable def psc (n : Int) (p : List Int) : List Int := p.map (n * ·)
noncomputable def unit : Nat → List Int
  | 0 => [1]
  | n + 1 => 0 :: unit n
noncomputable def Tm.nf : Tm → List Int
  | .x i => 0 :: unit i
  | .k n => [n]
  | .a s t => padd s.nf t.nf
  | .d s t => padd s.nf (psc (-1) t.nf)
  | .m n t => psc n t.nf
  | .q t n => psc n t.nf
  | .g t => psc (-1) t.nf
noncomputable def dot : List Int → List Int → Int
  | a :: p, b :: q => a * b + dot p q
  | _, _ => 0
theorem dot_add : ∀ p q c, dot (padd p q) c = dot p c + dot q c
  | [], q, c => by simp [padd, dot]
  | a :: p, [], c => by simp [padd, dot]
  | a :: p, b :: q, [] => by simp [padd, dot]
  | a :: p, b :: q, e :: c => by simp only [padd, dot, dot_add p q c, Int.add_mul]; omega
theorem dot_sc (n : Int) : ∀ p c, dot (psc n p) c = n * dot p c
  | [], c => by simp [psc, dot]
  | a :: p, [] => by simp [psc, dot]
  | a :: p, e :: c => by
    have := dot_sc n p c
    simp only [psc, List.map_cons, dot] at this ⊢
    rw [this, Int.mul_add, Int.mul_assoc]
theorem dot_unit : ∀ i c, dot (unit i) c = c.getD i 0
  | 0, [] => rfl
  | 0, e :: c => by simp [unit, dot]
  | n + 1, [] => rfl
  | n + 1, e :: c => by simp [unit, dot, dot_unit n c]
theorem Tm.nf_ev (c : List Int) : ∀ t : Tm, dot t.nf (1 :: c) = t.ev c
  | .x i => by simp [Tm.nf, Tm.ev, dot, dot_unit]
  | .k n => by simp [Tm.nf, Tm.ev, dot]
  | .a s t => by simp only [Tm.nf, Tm.ev, dot_add, nf_ev c s, nf_ev c t]
  | .d s t => by simp only [Tm.nf, Tm.ev, dot_add, dot_sc, nf_ev c s, nf_ev c t]; omega
  | .m n t => by simp only [Tm.nf, Tm.ev, dot_sc, nf_ev c t]
  | .q t n => by simp only [Tm.nf, Tm.ev, dot_sc, nf_ev c t, Int.mul_comm]
  | .g t => by simp only [Tm.nf, Tm.ev, dot_sc, nf_ev c t]; omega
noncomputable def Imp (c : List Int) : List (Nat × Tm × Tm) → Prop
  | [] => False
  | (_, l, r) :: cs => l.ev c ≤ r.ev c → Imp c cs
noncomputable def comb : List (Nat × Tm × Tm) → List Int
  | [] => []
  | (n, l, r) :: cs => padd (psc n (padd l.nf (psc (-1) r.nf))) (comb cs)
noncomputable def bad : List Int → Bool
  | [] => false
  | p :: q => decide (0 < p) && q.all (· == 0)
theorem dot_zero : ∀ q c, q.all (· == (0 : Int)) = true → dot q c = 0
  | [], _, _ => rfl
  | a :: q, [], _ => rfl
  | a :: q, e :: c, h => by
    simp only [List.all_cons, Bool.and_eq_true, beq_iff_eq] at h
    simp [dot, h.1, dot_zero q c h.2]
theorem fk_aux (c : List Int) : ∀ (cs : List (Nat × Tm × Tm)) (z : Int), z ≤ 0 → (∀ v, v = z + dot (comb cs) (1 :: c) → 0 < v) → Imp c cs
  | [], z, hz, h => by have := h z (by simp [comb, dot]); exact absurd this (Int.not_lt.mpr hz)
  | (n, l, r) :: cs, z, hz, h => fun hl => by
    refine fk_aux c cs (z + n * (l.ev c - r.ev c)) ?_ fun v hv => h v ?_
    · have : (n : Int) * (l.ev c - r.ev c) ≤ 0 := Int.mul_nonpos_of_nonneg_of_nonpos (Int.natCast_nonneg n) (by omega)
      omega
    · rw [hv]; simp only [comb, dot_add, dot_sc, Tm.nf_ev]
      have : l.ev c - r.ev c = l.ev c + -1 * r.ev c := by omega
      rw [this]; omega
theorem fk (c : List Int) (cs : List (Nat × Tm × Tm)) (h : bad (comb cs) = true) : Imp c cs := by
  refine fk_aux c cs 0 (Int.le_refl 0) fun v hv => ?_
  cases hc : comb cs with
  | nil => rw [hc] at h; cases h
  | cons p q =>
    rw [hc] at h hv
    simp only [bad, Bool.and_eq_true, decide_eq_true_eq] at h
    rw [hv]
    simp [dot, dot_zero q c h.2, h.1]
end Mine

namespace Mine
open PySem

inductive Val where
  | none
  | bool (b : Bool)
  | int (i : Int)
  | str (s : Str)
  | tup (vs : List Val)
  | rng (lo hi : Int)
  | scr (l : List Int)
  | ref (a : Addr)
  | fn (n : Str)
  | cls (n : Str)
  | blt (id : String)
  | typ (n : String)

inductive AObj where
  | list (xs : List Val)
  | dictP (es : List ((Int × Int) × Val))
  | inst (c : Str) (dx : Addr)
  | attrs (fs : List (Str × Val))
  | exc (c : Str) (up : List Str)

abbrev Rho := Str → Option Val
noncomputable def upd (ρ : Rho) (x : Str) (v : Val) : Rho := fun y => if y = x then some v else ρ y
abbrev Store := Addr → Option AObj
noncomputable def Store.set (σ : Store) (a : Addr) (o : AObj) : Store := fun b => if b = a then some o else σ b

inductive Fl where
  | next
  | ret (v : Val)

/-! the shapes of values, each with its inversion -/
noncomputable def isSm {α : Type} (x : Option α) (K : α → Prop) : Prop := match x with
  | some v => K v
  | Option.none => False
theorem isSm_is {α : Type} {x : Option α} {K : α → Prop} (h : isSm x K) : ∃ v, x = some v ∧ K v := by
  cases x with
  | none => exact False.elim h
  | some v => exact ⟨v, rfl, h⟩
theorem isSm_of {α : Type} {x : Option α} {v : α} {K : α → Prop} (e : x = some v) (h : K v) : isSm x K := by rw [e]; exact h
theorem isSm_eq {α : Type} {x : Option α} {v : α} {K : α → Prop} (e : x = some v) : isSm x K = K v := by rw [e]; rfl
noncomputable def Val.int? (v : Val) : Option Int := match v with
  | .int i => some i
  | _ => Option.none
noncomputable def Val.ref? (v : Val) : Option Addr := match v with
  | .ref i => some i
  | _ => Option.none
noncomputable def Val.bool? (v : Val) : Option Bool := match v with
  | .bool i => some i
  | _ => Option.none
theorem no_some {α : Type} {x : α} {p : Prop} (h : (Option.none : Option α) = some x) : p := nomatch h
theorem Val.int_is {v : Val} {i : Int} (h : v.int? = some i) : v = .int i := by
  cases v with
  | int j => exact congrArg Val.int (Option.some.inj h)
  | _ => exact no_some h
theorem Val.ref_is {v : Val} {i : Addr} (h : v.ref? = some i) : v = .ref i := by
  cases v with
  | ref j => exact congrArg Val.ref (Option.some.inj h)
  | _ => exact no_some h
theorem Val.bool_is {v : Val} {i : Bool} (h : v.bool? = some i) : v = .bool i := by
  cases v with
  | bool j => exact congrArg Val.bool (Option.some.inj h)
  | _ => exact no_some h
noncomputable def AObj.list? (v : AObj) : Option (List Val) := match v with
  | .list i => some i
  | _ => Option.none
noncomputable def AObj.dict? (v : AObj) : Option (List ((Int × Int) × Val)) := match v with
  | .dictP i => some i
  | _ => Option.none
theorem AObj.list_is {v : AObj} {i : List Val} (h : v.list? = some i) : v = .list i := by
  cases v with
  | list j => exact congrArg AObj.list (Option.some.inj h)
  | _ => exact no_some h
theorem AObj.dict_is {v : AObj} {i : List ((Int × Int) × Val)} (h : v.dict? = some i) : v = .dictP i := by
  cases v with
  | dictP j => exact congrArg AObj.dictP (Option.some.inj h)
  | _ => exact no_some h
noncomputable def listIn (σ : Store) (p : Addr) : Option (List Val) := (σ p).bind AObj.list?
noncomputable def dictIn (σ : Store) (p : Addr) : Option (List ((Int × Int) × Val)) := (σ p).bind AObj.dict?
theorem listIn_is {σ : Store} {p : Addr} {xs : List Val} (h : listIn σ p = some xs) : σ p = some (.list xs) := by
  obtain ⟨o, h1, h2⟩ := Option.bind_eq_some_iff.mp h
  rw [h1, AObj.list_is h2]
theorem dictIn_is {σ : Store} {p : Addr} {xs : List ((Int × Int) × Val)} (h : dictIn σ p = some xs) : σ p = some (.dictP xs) := by
  obtain ⟨o, h1, h2⟩ := Option.bind_eq_some_iff.mp h
  rw [h1, AObj.dict_is h2]
theorem listIn_eq {σ : Store} {p : Addr} {xs : List Val} (h : σ p = some (.list xs)) : listIn σ p = some xs := by unfold listIn; rw [h]; rfl
theorem dictIn_eq {σ : Store} {p : Addr} {xs : List ((Int × Int) × Val)} (h : σ p = some (.dictP xs)) : dictIn σ p = some xs := by unfold dictIn; rw [h]; rfl

noncomputable def cap : Nat := 1000000

noncomputable def ofInts (l : List Int) : List Val := l.map Val.int
noncomputable def pairV (p : Int × Int) : Val := .tup [.int p.1, .int p.2]
noncomputable def lookP (k : Int × Int) : List ((Int × Int) × Val) → Option Val
  | [] => Option.none
  | (j, v) :: r => if j = k then some v else lookP k r
noncomputable def putP (k : Int × Int) (v : Val) : List ((Int × Int) × Val) → List ((Int × Int) × Val)
  | [] => [(k, v)]
  | (j, u) :: r => if j = k then (j, v) :: r else (j, u) :: putP k v r
noncomputable def lookS (k : Str) : List (Str × Val) → Option Val
  | [] => Option.none
  | (j, v) :: r => if j = k then some v else lookS k r
noncomputable def putS (k : Str) (v : Val) : List (Str × Val) → List (Str × Val)
  | [] => [(k, v)]
  | (j, u) :: r => if j = k then (j, v) :: r else (j, u) :: putS k v r

noncomputable def rangeL (lo hi : Int) : List Int := (List.range (hi - lo).toNat).map fun (k : Nat) => lo + (k : Int)

noncomputable def itemsOf (σ : Store) : Val → Option (List Val)
  | .ref a => match σ a with
    | some (.list xs) => some xs
    | _ => Option.none
  | .rng lo hi => some (ofInts (rangeL lo hi))
  | _ => Option.none
noncomputable def still (σ : Store) (v : Val) (σ' : Store) : Prop :=
  match v with
  | .ref a => σ' a = σ a
  | _ => True

abbrev VPost := Val → Store → Prop
abbrev BPost := Bool → Store → Prop

noncomputable def truth (v : Val) (σ : Store) (Q : BPost) : Prop :=
  (v = .none ∧ Q false σ) ∨ (∃ b, v = .bool b ∧ Q b σ) ∨ (∃ i, v = .int i ∧ Q (i != 0) σ) ∨ (∃ p xs, (v = .ref p ∧ σ p = some (.list xs)) ∧ Q (!xs.isEmpty) σ)

noncomputable def short (x : Int) : Prop := x.natAbs < 18446744073709551616

noncomputable def intOp (f : Int → Int → Prop) (a b : Val) : Prop := isSm a.int? fun x => isSm b.int? fun y => f x y
theorem intOp_is {f : Int → Int → Prop} {a b : Val} (h : intOp f a b) : ∃ x y, a = .int x ∧ b = .int y ∧ f x y := by
  obtain ⟨x, h1, h⟩ := isSm_is h
  obtain ⟨y, h2, h⟩ := isSm_is h
  exact ⟨x, y, Val.int_is h1, Val.int_is h2, h⟩
noncomputable def listsAt (σ : Store) (p q : Addr) (K : List Val → List Val → Prop) : Prop := isSm (listIn σ p) fun xs => isSm (listIn σ q) fun ys => K xs ys
theorem listsAt_is {σ : Store} {p q : Addr} {K : List Val → List Val → Prop} (h : listsAt σ p q K) : ∃ xs ys, σ p = some (.list xs) ∧ σ q = some (.list ys) ∧ K xs ys := by
  obtain ⟨x, h1, h⟩ := isSm_is h
  obtain ⟨y, h2, h⟩ := isSm_is h
  exact ⟨x, y, listIn_is h1, listIn_is h2, h⟩
noncomputable def binop (op : Operator) (a b : Val) (σ : Store) (Q : VPost) : Prop :=
  match op with
  | .Add => intOp (fun x y => Q (.int (x + y)) σ) a b ∨ ∃ p q xs ys, (a = .ref p ∧ b = .ref q ∧ σ p = some (.list xs) ∧ σ q = some (.list ys)) ∧ xs.length + ys.length ≤ cap ∧ ∀ c, σ c = Option.none → Q (.ref c) (σ.set c (.list (xs ++ ys)))
  | .Sub => intOp (fun x y => Q (.int (x - y)) σ) a b
  | .Mult => intOp (fun x y => (short x ∨ short y) ∧ Q (.int (x * y)) σ) a b ∨ ∃ p n x, (a = .ref p ∧ b = .int n ∧ σ p = some (.list [x])) ∧ (0 ≤ n ∧ n ≤ cap) ∧ ∀ c, σ c = Option.none → Q (.ref c) (σ.set c (.list (List.replicate n.toNat x)))
  | .FloorDiv => intOp (fun x y => (0 < y ∧ short y) ∧ Q (.int (x / y)) σ) a b
  | .Mod => intOp (fun x y => 0 < y ∧ Q (.int (x % y)) σ) a b
  | .Pow => intOp (fun x y => (x = 10 ∧ 0 ≤ y ∧ y ≤ 30) ∧ Q (.int (10 ^ y.toNat)) σ) a b
  | _ => False

noncomputable def unop (op : UnaryOp) (a : Val) (σ : Store) (Q : VPost) : Prop :=
  match op, a with
  | .USub, .int x => Q (.int (-x)) σ
  | .Not, v => truth v σ fun b σ' => Q (.bool !b) σ'
  | _, _ => False

noncomputable def plainV : Val → Bool
  | .none => true
  | .bool _ => true
  | .int _ => true
  | .tup _ => true
  | .ref _ => true
  | _ => false
noncomputable def cmpI (f : Int → Int → Bool) (a b : Val) : Option Bool := a.int?.bind fun x => b.int?.map (f x)
theorem cmpI_is {f : Int → Int → Bool} {a b : Val} {r : Bool} (h : cmpI f a b = some r) : ∃ x y, a = .int x ∧ b = .int y ∧ r = f x y := by
  obtain ⟨x, h1, h⟩ := Option.bind_eq_some_iff.mp h
  obtain ⟨y, h2, h⟩ := Option.map_eq_some_iff.mp h
  exact ⟨x, y, Val.int_is h1, Val.int_is h2, h.symm⟩
noncomputable def pairsV (ps : List (Int × Int)) : List Val := ps.map pairV
noncomputable def cmpop (op : CmpOp) (a b : Val) (σ : Store) (K : BPost) : Prop :=
  match op with
  | .Lt => intOp (fun x y => K (decide (x < y)) σ) a b
  | .LtE => intOp (fun x y => K (decide (x ≤ y)) σ) a b
  | .Gt => intOp (fun x y => K (decide (x > y)) σ) a b
  | .GtE => intOp (fun x y => K (decide (x ≥ y)) σ) a b
  | .Eq => intOp (fun x y => K (x == y) σ) a b ∨ ∃ p q ps, (a = .ref p ∧ b = .ref q ∧ σ p = some (.list (pairsV ps)) ∧ σ q = some (.list (pairsV ps))) ∧ K true σ
  | .NotEq => intOp (fun x y => K (!(x == y)) σ) a b
  | .In => ∃ d es k l, (b = .ref d ∧ a = .tup [.int k, .int l] ∧ σ d = some (.dictP es)) ∧ K (lookP (k, l) es).isSome σ
  | _ => False

noncomputable def normIdx (i : Int) (n : Nat) : Option Nat :=
  if 0 ≤ i then (if i < n then some i.toNat else Option.none)
  else if 0 ≤ i + n then some (i + n).toNat else Option.none

noncomputable def subscr (a i : Val) (σ : Store) (Q : VPost) : Prop :=
  (∃ vs k j v, (a = .tup vs ∧ i = .int k) ∧ normIdx k vs.length = some j ∧ vs[j]? = some v ∧ Q v σ) ∨
  (∃ l k j v, (a = .scr l ∧ i = .int k) ∧ normIdx k l.length = some j ∧ l[j]? = some v ∧ Q (.int v) σ) ∨
  (∃ p xs k j v, (a = .ref p ∧ i = .int k ∧ σ p = some (.list xs)) ∧ normIdx k xs.length = some j ∧ xs[j]? = some v ∧ Q v σ) ∨
  (∃ p es k l v, (a = .ref p ∧ i = .tup [.int k, .int l] ∧ σ p = some (.dictP es)) ∧ lookP (k, l) es = some v ∧ Q v σ)

noncomputable def setitem (a i v : Val) (σ : Store) (Q : Store → Prop) : Prop :=
  (∃ p xs k, (a = .ref p ∧ i = .int k ∧ σ p = some (.list xs)) ∧ (0 ≤ k ∧ k < xs.length) ∧ Q (σ.set p (.list (xs.set k.toNat v)))) ∨
  (∃ p es k l, (a = .ref p ∧ i = .tup [.int k, .int l] ∧ σ p = some (.dictP es)) ∧ es.length < cap ∧ Q (σ.set p (.dictP (putP (k, l) v es))))

noncomputable def getattr (a : Val) (n : Str) (σ : Store) (Q : VPost) : Prop :=
  match a with
  | .ref p => match σ p with
    | some (.inst _ dx) => match σ dx with
      | some (.attrs fs) => match lookS n fs with
        | some v => Q v σ
        | Option.none => False
      | _ => False
    | _ => False
  | _ => False

noncomputable def okAtt (n : Str) : Bool := n == "many" || n == "rows"
noncomputable def setattr (a : Val) (n : Str) (v : Val) (σ : Store) (Q : Store → Prop) : Prop :=
  match a with
  | .ref p => match σ p with
    | some (.inst _ dx) => match σ dx with
      | some (.attrs fs) => (okAtt n = true ∧ plainV v = true ∧ (putS n v fs).length ≤ 8) ∧ Q (σ.set dx (.attrs (putS n v fs)))
      | _ => False
    | _ => False
  | _ => False

noncomputable def everySecond : List Val → List Val
  | [] => []
  | [x] => [x]
  | x :: _ :: r => x :: everySecond r

noncomputable def isInst (σ : Store) (v c : Val) (Q : Bool → Prop) : Prop :=
  (∃ i, v = .int i ∧ ((c = .typ "int" ∧ Q true) ∨ (c = .typ "bool" ∧ Q false) ∨ (c = .typ "tuple" ∧ Q false))) ∨
  (∃ b, v = .bool b ∧ ((c = .typ "int" ∧ Q true) ∨ (c = .typ "bool" ∧ Q true) ∨ (c = .typ "tuple" ∧ Q false))) ∨
  (∃ ys, v = .tup ys ∧ ((c = .typ "int" ∧ Q false) ∨ (c = .typ "bool" ∧ Q false) ∨ (c = .typ "tuple" ∧ Q true))) ∨
  (∃ p xs, (v = .ref p ∧ σ p = some (.list xs)) ∧ c = .typ "list" ∧ Q true) ∨
  (∃ p k up, (v = .ref p ∧ σ p = some (.exc k up)) ∧ ((∃ d, c = .cls d ∧ Q (up.contains d)) ∨ (c = .typ "ValueError" ∧ Q true)))

/-! small looks, each with its inversion -/
noncomputable def one (vs : List Val) (K : Val → Prop) : Prop := match vs with
  | [] => False
  | v :: r => (match r with
    | [] => K v
    | _ :: _ => False)
theorem one_is {vs : List Val} {K : Val → Prop} (h : one vs K) : ∃ v, vs = [v] ∧ K v := by
  cases vs with
  | nil => exact False.elim h
  | cons v r => cases r with
    | nil => exact ⟨v, rfl, h⟩
    | cons _ _ => exact False.elim h
noncomputable def two (vs : List Val) (K : Val → Val → Prop) : Prop := match vs with
  | [] => False
  | v :: r => one r (K v)
theorem two_is {vs : List Val} {K : Val → Val → Prop} (h : two vs K) : ∃ v u, vs = [v, u] ∧ K v u := by
  cases vs with
  | nil => exact False.elim h
  | cons v r => obtain ⟨u, rfl, h⟩ := one_is h; exact ⟨v, u, rfl, h⟩
noncomputable def asInt (v : Val) (K : Int → Prop) : Prop := isSm v.int? K
theorem asInt_is {v : Val} {K : Int → Prop} (h : asInt v K) : ∃ i, v = .int i ∧ K i := by
  obtain ⟨x, h1, h⟩ := isSm_is h
  exact ⟨x, Val.int_is h1, h⟩
noncomputable def asRef (v : Val) (K : Addr → Prop) : Prop := isSm v.ref? K
theorem asRef_is {v : Val} {K : Addr → Prop} (h : asRef v K) : ∃ p, v = .ref p ∧ K p := by
  obtain ⟨x, h1, h⟩ := isSm_is h
  exact ⟨x, Val.ref_is h1, h⟩
noncomputable def asBool (v : Val) (K : Bool → Prop) : Prop := isSm v.bool? K
theorem asBool_is {v : Val} {K : Bool → Prop} (h : asBool v K) : ∃ b, v = .bool b ∧ K b := by
  obtain ⟨x, h1, h⟩ := isSm_is h
  exact ⟨x, Val.bool_is h1, h⟩
noncomputable def atList (σ : Store) (p : Addr) (K : List Val → Prop) : Prop := isSm (listIn σ p) K
theorem atList_is {σ : Store} {p : Addr} {K : List Val → Prop} (h : atList σ p K) : ∃ xs, σ p = some (.list xs) ∧ K xs := by
  obtain ⟨x, h1, h⟩ := isSm_is h
  exact ⟨x, listIn_is h1, h⟩
theorem atList_eq {σ : Store} {p : Addr} {xs : List Val} {K : List Val → Prop} (h : σ p = some (.list xs)) : atList σ p K = K xs := isSm_eq (listIn_eq h)
noncomputable def atDict (σ : Store) (p : Addr) (K : List ((Int × Int) × Val) → Prop) : Prop := isSm (dictIn σ p) K
theorem atDict_is {σ : Store} {p : Addr} {K : List ((Int × Int) × Val) → Prop} (h : atDict σ p K) : ∃ es, σ p = some (.dictP es) ∧ K es := by
  obtain ⟨x, h1, h⟩ := isSm_is h
  exact ⟨x, dictIn_is h1, h⟩
theorem atDict_eq {σ : Store} {p : Addr} {es : List ((Int × Int) × Val)} {K : List ((Int × Int) × Val) → Prop} (h : σ p = some (.dictP es)) : atDict σ p K = K es := isSm_eq (dictIn_eq h)
noncomputable def lenV (v : Val) (σ : Store) (Q : VPost) : Prop := match v with
  | .ref p => atList σ p fun xs => Q (.int xs.length) σ
  | .tup ys => Q (.int ys.length) σ
  | .scr l => Q (.int l.length) σ
  | _ => False
noncomputable def callBlt (calm : Bool) (id : String) (vs : List Val) (σ : Store) (Q : VPost) : Prop :=
  if id = "len" then one vs fun v => lenV v σ Q
  else if id = "isinstance" then two vs fun v c => isInst σ v c fun b => Q (.bool b) σ
  else if id = "min" then two vs fun v u => asInt v fun x => asInt u fun y => calm = true ∧ Q (.int (min x y)) σ
  else if id = "max" then two vs fun v u => asInt v fun x => asInt u fun y => calm = true ∧ Q (.int (max x y)) σ
  else False

noncomputable def listOfV (calm : Bool) (p : Addr) (σ : Store) (Q : VPost) : Prop := match σ p with
  | some (.list xs) => ∀ c, σ c = Option.none → Q (.ref c) (σ.set c (.list xs))
  | some (.dictP es) => calm = true ∧ ∀ c, σ c = Option.none → Q (.ref c) (σ.set c (.list (es.map fun e => pairV e.1)))
  | _ => False
noncomputable def callTyp (calm : Bool) (T : String) (vs : List Val) (σ : Store) (Q : VPost) : Prop :=
  if T = "range" then (match vs with
    | [] => False
    | v :: r => asInt v fun m => (match r with
      | [] => (-(cap : Int) ≤ m ∧ m ≤ cap) ∧ Q (.rng 0 m) σ
      | u :: r => (match r with
        | [] => asInt u fun n => (0 ≤ m ∧ m ≤ cap ∧ -(cap : Int) ≤ n ∧ n ≤ cap) ∧ Q (.rng m n) σ
        | _ :: _ => False)))
  else if T = "list" then one vs fun v => asRef v fun p => listOfV calm p σ Q
  else if T = "tuple" then one vs fun v => asRef v fun p => atList σ p fun xs => Q (.tup xs) σ
  else if T = "int" then one vs fun v => asBool v fun b => Q (.int (if b then 1 else 0)) σ
  else False

noncomputable def insertAt (xs : List Val) (i : Nat) (v : Val) : List Val := xs.take i ++ v :: xs.drop i

noncomputable def listMeth (p : Addr) (n : Str) (vs : List Val) (σ : Store) (Q : VPost) : Prop :=
  match σ p with
  | some (.list xs) =>
    if n = "append" then (match vs with
      | [v] => xs.length < cap ∧ Q .none (σ.set p (.list (xs ++ [v])))
      | _ => False)
    else if n = "insert" then (match vs with
      | [.int i, v] => (xs.length < cap ∧ 0 ≤ i ∧ i ≤ xs.length) ∧ Q .none (σ.set p (.list (insertAt xs i.toNat v)))
      | _ => False)
    else if n = "clear" then (match vs with
      | [] => Q .none (σ.set p (.list []))
      | _ => False)
    else if n = "count" then ∃ bs : List Bool, xs = bs.map .bool ∧ vs = [.bool true] ∧ Q (.int (bs.countP id : Nat)) σ
    else False
  | _ => False
inductive MK where
  | list (p : Addr)
  | inst (c : Str) (p : Addr)
noncomputable def plainInst (σ : Store) (c : Str) (dx p : Addr) (n : Str) : Option MK := match σ dx with
  | some (.attrs fs) => if lookS n fs = Option.none then some (.inst c p) else Option.none
  | _ => Option.none
noncomputable def methKind (o : Val) (n : Str) (σ : Store) : Option MK :=
  match o with
  | .ref p => (match σ p with
    | some (.list _) => some (.list p)
    | some (.inst c dx) => plainInst σ c dx p n
    | _ => Option.none)
  | _ => Option.none
theorem methKind_sees {o : Val} {n : Str} {σ : Store} {k : MK} (h : methKind o n σ = some k) :
    ∃ p, o = .ref p ∧ ((∃ xs, σ p = some (.list xs) ∧ k = .list p) ∨ (∃ c dx fs, σ p = some (.inst c dx) ∧ σ dx = some (.attrs fs) ∧ lookS n fs = Option.none ∧ k = .inst c p)) := by
  cases o with
  | ref p =>
    refine ⟨p, rfl, ?_⟩
    unfold methKind at h
    cases hp : σ p with
    | none => simp only [hp] at h; cases h
    | some ob =>
      simp only [hp] at h
      cases ob with
      | list xs => exact .inl ⟨xs, rfl, (Option.some.inj h).symm⟩
      | inst c dx =>
        have h : plainInst σ c dx p n = some k := h
        unfold plainInst at h
        cases hd : σ dx with
        | none => rw [hd] at h; cases h
        | some od =>
          rw [hd] at h
          cases od with
          | attrs fs =>
            have h : (if lookS n fs = Option.none then some (MK.inst c p) else Option.none) = some k := h
            by_cases hn : lookS n fs = Option.none
            · rw [if_pos hn] at h; exact .inr ⟨c, dx, fs, rfl, hd, hn, (Option.some.inj h).symm⟩
            · rw [if_neg hn] at h; cases h
          | _ => cases h
      | _ => cases h
  | _ => cases h

inductive Fn where
  | top (n : Str)
  | meth (c n : Str)
structure Cx where
  gl : Str → Option Val
  call : Fn → List Val → Store → VPost → Prop
  calm : Bool
  mth : Str → Str → Bool
  /-- a call that raises -/
  rcall : Fn → List Val → Store → (Str → Store → Prop) → Prop
  exc : Str → Store → Prop
  /-- the frames around are known -/
  loud : Bool
  /-- no frame is around -/
  top : Bool
  isx : Str → Bool
  up : Str → List Str
  qcall : Fn → List Val → Store → VPost → Prop
  hcall : Addr → Fn → List Val → Store → VPost → Prop
  /-- what is handled -/
  hd : Option Addr

noncomputable def Cx.hush (C : Cx) : Cx := { C with call := C.qcall, loud := false, top := false }
noncomputable def Cx.hand (C : Cx) (e : Addr) : Cx := { C with call := C.hcall e, qcall := C.hcall e, calm := false, loud := false, top := false, hd := some e }

noncomputable def Cx.pairOk (C : Cx) (σ : Store) : Prop := C.calm = true ∨ ∃ e c up, C.hd = some e ∧ σ e = some (.exc c up)
noncomputable def newInst (C : Cx) (c : Str) (vs : List Val) (σ : Store) (Q : VPost) : Prop :=
  C.isx c = false ∧ ∀ p dx, σ p = Option.none → σ dx = Option.none → p ≠ dx →
    C.call (.meth c "__init__") (.ref p :: vs) ((σ.set dx (.attrs [])).set p (.inst c dx)) (fun r σ' => r = .none ∧ Q (.ref p) σ')

noncomputable def callV (C : Cx) (f : Val) (vs : List Val) (σ : Store) (Q : VPost) : Prop :=
  match f with
  | .fn n => C.call (.top n) vs σ Q
  | .cls c => newInst C c vs σ Q
  | .blt id => callBlt C.calm id vs σ Q
  | .typ T => callTyp C.calm T vs σ Q
  | _ => False

noncomputable def methV (C : Cx) (k : MK) (n : Str) (vs : List Val) (σ : Store) (Q : VPost) : Prop :=
  match k with
  | .list p => listMeth p n vs σ Q
  | .inst c p => C.call (.meth c n) (.ref p :: vs) σ Q

noncomputable def methOk (C : Cx) : MK → Str → Bool
  | .list _, n => n == "append" || n == "insert" || n == "clear" || n == "count"
  | .inst c _, n => C.mth c n
noncomputable def fewArgs : List Expr → Bool
  | [] => true
  | .Starred _ _ :: _ => false
  | _ :: r => fewArgs r && decide (r.length < 20)
noncomputable def plainBase (o : Expr) : Bool := match o with
  | .Name _ _ => true
  | .Call f _ _ _ => (match f with
    | .Attribute _ _ _ => true
    | _ => false)
  | _ => false

noncomputable def isLoc (sc : Scope) (x : Str) : Bool := match sc.names.lookup x with
  | some .local | some .cell => true
  | _ => false

noncomputable def nameOf (t : Expr) : Option Str := match t with
  | .Name x _ => some x
  | _ => Option.none
theorem nameOf_is {t : Expr} {x : Str} (h : nameOf t = some x) : ∃ p, t = .Name x p := by
  cases t with
  | Name y p => exact ⟨p, congrArg (Expr.Name · p) (Option.some.inj h)⟩
  | _ => exact no_some h
noncomputable def partsOf2 (t : Expr) : Option (Expr × Expr) := match t with
  | .Tuple tl _ _ => (match tl with
    | [] => Option.none
    | a :: r => (match r with
      | [] => Option.none
      | b :: r => (match r with
        | [] => some (a, b)
        | _ :: _ => Option.none)))
  | _ => Option.none
theorem partsOf2_is {t a b : Expr} (h : partsOf2 t = some (a, b)) : ∃ k p, t = .Tuple [a, b] k p := by
  cases t with
  | Tuple tl k p =>
    cases tl with
    | nil => exact no_some h
    | cons a r => cases r with
      | nil => exact no_some h
      | cons b r => cases r with
        | nil => cases h; exact ⟨k, p, rfl⟩
        | cons _ _ => exact no_some h
  | _ => exact no_some h
noncomputable def pairIn (v : Val) : Option (Val × Val) := match v with
  | .tup vs => (match vs with
    | [] => Option.none
    | u :: r => (match r with
      | [] => Option.none
      | w :: r => (match r with
        | [] => some (u, w)
        | _ :: _ => Option.none)))
  | _ => Option.none
theorem pairIn_is {v u w : Val} (h : pairIn v = some (u, w)) : v = .tup [u, w] := by
  cases v with
  | tup vs =>
    cases vs with
    | nil => exact no_some h
    | cons u r => cases r with
      | nil => exact no_some h
      | cons w r => cases r with
        | nil => cases h; rfl
        | cons _ _ => exact no_some h
  | _ => exact no_some h
noncomputable def bindT (calm : Bool) (sc : Scope) (t : Expr) (v : Val) (ρ : Rho) : Option Rho :=
  match nameOf t with
  | some x => if isLoc sc x then some (upd ρ x v) else Option.none
  | Option.none => (partsOf2 t).bind fun ab => (nameOf ab.1).bind fun x => (nameOf ab.2).bind fun y => (pairIn v).bind fun uw =>
      if calm && isLoc sc x && isLoc sc y && x != y then some (upd (upd ρ x uw.1) y uw.2) else Option.none
theorem bindT_is {calm : Bool} {sc : Scope} {t : Expr} {v : Val} {ρ ρ' : Rho} (h : bindT calm sc t v ρ = some ρ') :
    (∃ x p, t = .Name x p ∧ isLoc sc x = true ∧ ρ' = upd ρ x v) ∨
    (∃ x p y q k r u w, t = .Tuple [.Name x p, .Name y q] k r ∧ v = .tup [u, w] ∧ (calm && isLoc sc x && isLoc sc y && x != y) = true ∧ ρ' = upd (upd ρ x u) y w) := by
  unfold bindT at h
  cases hn : nameOf t with
  | some x =>
    rw [hn] at h
    obtain ⟨p, rfl⟩ := nameOf_is hn
    have h : (if isLoc sc x then some (upd ρ x v) else Option.none) = some ρ' := h
    by_cases hl : isLoc sc x = true
    · rw [if_pos hl] at h; exact .inl ⟨x, p, rfl, hl, (Option.some.inj h).symm⟩
    · rw [if_neg hl] at h; cases h
  | none =>
    rw [hn] at h
    obtain ⟨⟨a, b⟩, h1, g1⟩ := Option.bind_eq_some_iff.mp h
    obtain ⟨x, h2, g2⟩ := Option.bind_eq_some_iff.mp g1
    obtain ⟨y, h3, g3⟩ := Option.bind_eq_some_iff.mp g2
    obtain ⟨⟨u, w⟩, h4, g4⟩ := Option.bind_eq_some_iff.mp g3
    clear h g1 g2 g3
    dsimp only at h2 h3
    obtain ⟨p, rfl⟩ := nameOf_is h2
    obtain ⟨q, rfl⟩ := nameOf_is h3
    obtain ⟨k, r, rfl⟩ := partsOf2_is h1
    have h : (if calm && isLoc sc x && isLoc sc y && x != y then some (upd (upd ρ x u) y w) else Option.none) = some ρ' := g4
    by_cases hl : (calm && isLoc sc x && isLoc sc y && x != y) = true
    · rw [if_pos hl] at h; exact .inr ⟨x, p, y, q, k, r, u, w, rfl, pairIn_is h4, hl, (Option.some.inj h).symm⟩
    · rw [if_neg hl] at h; cases h

noncomputable def Sub (ρ₀ ρ : Rho) : Prop := ∀ x v, ρ₀ x = some v → ρ x = some v
theorem Sub.refl (ρ : Rho) : Sub ρ ρ := fun _ _ h => h
noncomputable def forLoop (step : Val → Rho → Store → (Fl → Rho → Store → Prop) → Prop) (calm : Bool) (ok : Store → Prop) : List Val → Rho → Store → (Fl → Rho → Store → Prop) → Prop
  | [], ρ, σ, Q => calm = true ∧ ∃ ρ₀, Sub ρ₀ ρ ∧ Q .next ρ₀ σ
  | x :: xs, ρ, σ, Q => ∃ ρ₀, Sub ρ₀ ρ ∧ step x ρ₀ σ fun fl ρ' σ' => match fl with
    | .next => ok σ' ∧ forLoop step calm ok xs ρ' σ' Q
    | .ret v => Q (.ret v) ρ' σ'

noncomputable def compLoop (step : Val → Store → (Option Val → Store → Prop) → Prop) (ok : Store → Prop) : List Val → List Val → Store → (List Val → Store → Prop) → Prop
  | [], acc, σ, K => K acc σ
  | x :: xs, acc, σ, K => step x σ fun r σ' => ok σ' ∧ compLoop step ok xs (match r with | some y => acc ++ [y] | Option.none => acc) σ' K

noncomputable def compRho (csc : Scope) (ρ : Rho) : Rho := fun y => match csc.names.lookup y with
  | some .free => ρ y
  | _ => Option.none

noncomputable def compOk (sc csc : Scope) : Bool := csc.kind == .function && (csc.names.lookup ("__debug__" : Str)).isNone && (csc.names.lookup ("__classdict__" : Str)).isNone && csc.names.all (fun x => x.2 != .cell && (x.2 != .local || csc.names.lookup x.1 == some .local) && (x.2 != .free || sc.names.lookup x.1 == some .cell))

noncomputable def sliceV (xs : List Val) (l u s : Option Int) (σ : Store) (Q : VPost) : Prop :=
  match l, u, s with
  | Option.none, some j, Option.none => (-1 ≤ j ∧ j ≤ xs.length) ∧ ∀ c, σ c = Option.none → Q (.ref c) (σ.set c (.list (if 0 ≤ j then xs.take j.toNat else xs.take (xs.length - 1))))
  | some i, Option.none, Option.none => (0 ≤ i ∧ i ≤ xs.length) ∧ ∀ c, σ c = Option.none → Q (.ref c) (σ.set c (.list (xs.drop i.toNat)))
  | Option.none, Option.none, some k => k = 2 ∧ ∀ c, σ c = Option.none → Q (.ref c) (σ.set c (.list (everySecond xs)))
  | _, _, _ => False

noncomputable def forStep (run : Rho → Store → (Fl → Rho → Store → Prop) → Prop) (ok : Store → Prop) (sc : Scope) (t : Expr) (x : Val) (ρ : Rho) (σ : Store) (K : Fl → Rho → Store → Prop) : Prop :=
  ∃ b ρ', (b = true → ok σ) ∧ bindT b sc t x ρ = some ρ' ∧ run ρ' σ K
noncomputable def compStep (tests : Rho → Store → BPost → Prop) (elt : Rho → Store → VPost → Prop) (calm : Bool) (sc : Scope) (t : Expr) (ρ : Rho) (x : Val) (σ : Store) (k : Option Val → Store → Prop) : Prop :=
  match bindT calm sc t x ρ with
  | some ρ' => tests ρ' σ fun b σ₁ => (b = true → elt ρ' σ₁ fun y σ₂ => k (some y) σ₂) ∧ (b = false → k Option.none σ₁)
  | Option.none => False

mutual
noncomputable def ev : Cx → Nat → Scope → Expr → Rho → Store → VPost → Prop
  | _, 0, _, _, _, _, _ => False
  | C, n + 1, sc, e, ρ, σ, Q => match e with
    | .Constant c _ _ => match c with
      | .int i => Q (.int i) σ
      | .bool b => Q (.bool b) σ
      | .none => Q .none σ
      | .str s => Q (.str s) σ
      | _ => False
    | .Name x _ => match sc.names.lookup x with
      | some .globalImplicit => match C.gl x with
        | some v => Q v σ
        | Option.none => False
      | some .local | some .cell | some .free => match ρ x with
        | some v => Q v σ
        | Option.none => False
      | _ => False
    | .BinOp l op r _ => ev C n sc l ρ σ fun a σ₁ => ev C n sc r ρ σ₁ fun b σ₂ => binop op a b σ₂ Q
    | .UnaryOp op x _ => ev C n sc x ρ σ fun a σ₁ => unop op a σ₁ Q
    | .BoolOp op vs _ => evBool C n sc op vs ρ σ Q
    | .Compare l ops rs _ => ev C n sc l ρ σ fun a σ₁ => evCmp C n sc a ops rs ρ σ₁ fun b σ₂ => Q (.bool b) σ₂
    | .Call (.Attribute o m ap) args [] cp => (plainBase o = true ∧ fewArgs args = true ∧ (ap.endLine == cp.line) = true) ∧ ev C n sc o ρ σ fun ov σ₁ => match methKind ov m σ₁ with
        | some k => methOk C k m = true ∧ evs C n sc args ρ σ₁ fun vs σ₂ => methV C k m vs σ₂ Q
        | Option.none => False
    | .Call (.Name f p) args [] _ => fewArgs args = true ∧ ev C n sc (.Name f p) ρ σ fun fv σ₁ => evs C n sc args ρ σ₁ fun vs σ₂ => callV C fv vs σ₂ Q
    | .Attribute o a _ => plainBase o = true ∧ ev C n sc o ρ σ fun ov σ₁ => getattr ov a σ₁ Q
    | .Subscript o (.Slice l u s _) _ => ev C n sc o ρ σ fun ov σ₁ => evOpt C n sc l ρ σ₁ fun lv σ₂ => evOpt C n sc u ρ σ₂ fun uv σ₃ => evOpt C n sc s ρ σ₃ fun sv σ₄ =>
        match ov with
        | .ref p => match σ₄ p with
          | some (.list xs) => sliceV xs lv uv sv σ₄ Q
          | _ => False
        | _ => False
    | .Subscript o i _ => ev C n sc o ρ σ fun ov σ₁ => ev C n sc i ρ σ₁ fun iv σ₂ => subscr ov iv σ₂ Q
    | .List es _ => fewArgs es = true ∧ evs C n sc es ρ σ fun vs σ₁ => ∀ c, σ₁ c = Option.none → Q (.ref c) (σ₁.set c (.list vs))
    | .Tuple es _ _ => fewArgs es = true ∧ evs C n sc es ρ σ fun vs σ₁ => Q (.tup vs) σ₁
    | .Dict [] [] _ => ∀ c, σ c = Option.none → Q (.ref c) (σ.set c (.dictP []))
    | .ListComp elt [⟨target, iter, ifs, 0⟩] csc _ => (C.calm = true ∧ compOk sc csc = true) ∧ ev C n sc iter ρ σ fun v σ₁ => match itemsOf σ₁ v with
        | some items => compLoop (compStep (evIfs C.hush n csc ifs) (ev C.hush n csc elt) C.calm csc target (compRho csc ρ)) (still σ₁ v) items [] σ₁ fun acc σ₂ => ∀ c, σ₂ c = Option.none → Q (.ref c) (σ₂.set c (.list acc))
        | Option.none => False
    | _ => False
noncomputable def evOpt : Cx → Nat → Scope → Option Expr → Rho → Store → (Option Int → Store → Prop) → Prop
  | _, _, _, Option.none, _, σ, Q => Q Option.none σ
  | _, 0, _, some _, _, _, _ => False
  | C, n + 1, sc, some e, ρ, σ, Q => ev C n sc e ρ σ fun v σ₁ => match v with
    | .int i => Q (some i) σ₁
    | _ => False
noncomputable def evs : Cx → Nat → Scope → List Expr → Rho → Store → (List Val → Store → Prop) → Prop
  | _, _, _, [], _, σ, Q => Q [] σ
  | _, 0, _, _ :: _, _, _, _ => False
  | C, n + 1, sc, e :: r, ρ, σ, Q => ev C n sc e ρ σ fun v σ₁ => evs C n sc r ρ σ₁ fun vs σ₂ => Q (v :: vs) σ₂
noncomputable def evBool : Cx → Nat → Scope → BoolOp → List Expr → Rho → Store → VPost → Prop
  | _, 0, _, _, _, _, _, _ => False
  | C, n + 1, sc, op, es, ρ, σ, Q => match es with
    | [] => False
    | [e] => ev C n sc e ρ σ Q
    | e :: r => ev C n sc e ρ σ fun v σ₁ => truth v σ₁ fun b σ₂ => match op with
      | .And => (b = false → Q v σ₂) ∧ (b = true → evBool C n sc op r ρ σ₂ Q)
      | .Or => (b = true → Q v σ₂) ∧ (b = false → evBool C n sc op r ρ σ₂ Q)
noncomputable def evCmp : Cx → Nat → Scope → Val → List CmpOp → List Expr → Rho → Store → BPost → Prop
  | _, 0, _, _, _, _, _, _, _ => False
  | C, n + 1, sc, a, ops, rs, ρ, σ, Q => match ops, rs with
    | [op], [r] => ev C n sc r ρ σ fun b σ₁ => cmpop op a b σ₁ Q
    | op :: op' :: ops, r :: r' :: rs => ev C n sc r ρ σ fun b σ₁ => cmpop op a b σ₁ fun c σ₂ => (c = true → evCmp C n sc b (op' :: ops) (r' :: rs) ρ σ₂ Q) ∧ (c = false → Q false σ₂)
    | _, _ => False
noncomputable def tst : Cx → Nat → Scope → Expr → Rho → Store → BPost → Prop
  | _, 0, _, _, _, _, _ => False
  | C, n + 1, sc, e, ρ, σ, Q => match e with
    | .UnaryOp .Not x _ => tst C n sc x ρ σ fun b σ₁ => Q (!b) σ₁
    | .BoolOp op vs _ => tstAll C n sc op vs ρ σ Q
    | .Compare l ops rs _ => ev C n sc l ρ σ fun a σ₁ => evCmp C n sc a ops rs ρ σ₁ Q
    | e => ev C n sc e ρ σ fun v σ₁ => truth v σ₁ Q
noncomputable def tstAll : Cx → Nat → Scope → BoolOp → List Expr → Rho → Store → BPost → Prop
  | _, 0, _, _, _, _, _, _ => False
  | C, n + 1, sc, op, es, ρ, σ, Q => match es with
    | [] => match op with
      | .And => Q true σ
      | .Or => Q false σ
    | e :: r => tst C n sc e ρ σ fun b σ₁ => match op with
      | .And => (b = false → Q false σ₁) ∧ (b = true → tstAll C n sc op r ρ σ₁ Q)
      | .Or => (b = true → Q true σ₁) ∧ (b = false → tstAll C n sc op r ρ σ₁ Q)
noncomputable def evIfs : Cx → Nat → Scope → List Expr → Rho → Store → BPost → Prop
  | _, 0, _, _, _, _, _ => False
  | C, n + 1, sc, es, ρ, σ, Q => match es with
    | [] => Q true σ
    | [c] => tst C n sc c ρ σ Q
    | _ => False
end

noncomputable def rcallV (C : Cx) (f : Val) (vs : List Val) (σ : Store) (X : Str → Store → Prop) : Prop := match f with
  | .fn n => C.rcall (.top n) vs σ X
  | .cls c => C.isx c = false ∧ ∀ p dx, σ p = Option.none → σ dx = Option.none → p ≠ dx → C.rcall (.meth c "__init__") (.ref p :: vs) ((σ.set dx (.attrs [])).set p (.inst c dx)) X
  | _ => False
noncomputable def evR (C : Cx) (n : Nat) (sc : Scope) (f : Expr) (args : List Expr) (cp : Pos) (ρ : Rho) (σ : Store) (X : Str → Store → Prop) : Prop := match f with
  | .Name g p => (C.loud = true ∧ fewArgs args = true) ∧ ev C n sc (.Name g p) ρ σ fun fv σ₁ => evs C n sc args ρ σ₁ fun vs σ₂ => rcallV C fv vs σ₂ X
  | .Attribute o m ap => (C.loud = true ∧ plainBase o = true ∧ fewArgs args = true ∧ (ap.endLine == cp.line) = true) ∧ ev C n sc o ρ σ fun ov σ₁ => ∃ c p, (methKind ov m σ₁ = some (.inst c p) ∧ C.mth c m = true) ∧ evs C n sc args ρ σ₁ fun vs σ₂ => C.rcall (.meth c m) (.ref p :: vs) σ₂ X
  | _ => False
noncomputable def Rho.but (ρ : Rho) (n : Str) : Rho := fun y => if y = n then Option.none else ρ y
noncomputable def isGl (sc : Scope) (x : Str) : Bool := match sc.names.lookup x with
  | some .globalImplicit => true
  | _ => false
noncomputable def isLo (sc : Scope) (x : Str) : Bool := match sc.names.lookup x with
  | some .local => true
  | _ => false

mutual
noncomputable def ex : Cx → Nat → Scope → Stmt → Rho → Store → (Fl → Rho → Store → Prop) → Prop
  | _, 0, _, _, _, _, _ => False
  | C, n + 1, sc, st, ρ, σ, Q => match st with
    | .Pass _ => Q .next ρ σ
    | .Expr (.Call f as ks p) _ => ev C n sc (.Call f as ks p) ρ σ (fun _ σ₁ => Q .next ρ σ₁) ∨ (ks = [] ∧ evR C n sc f as p ρ σ C.exc)
    | .Raise e c _ => ∃ x np cp t k q v, (e = some (.Call (.Name x np) [.Constant (.str t) k q] [] cp) ∧ c = Option.none ∧ C.calm = true ∧ C.loud = true ∧ isGl sc x = true ∧ C.gl x = some (.cls v)) ∧ C.isx v = true ∧ C.exc v σ
    | .Try b hs o f _ => ∃ g as p q x xp nm b₀ r hp, (b = [.Expr (.Call g as [] p) q] ∧ hs = [.ExceptHandler (some (.Name x xp)) (some nm) (b₀ :: r) hp] ∧ o = [] ∧ f = [] ∧ C.calm = true ∧ C.top = true ∧ isLo sc nm = true ∧ isGl sc x = true) ∧
        (ev C n sc (.Call g as [] p) ρ σ (fun _ σ₁ => Q .next ρ σ₁) ∨
        ∃ d, C.gl x = some (.cls d) ∧ evR C n sc g as p ρ σ fun c σ₁ => (C.up c).contains d = true ∧ ∀ a, σ₁ a = Option.none → exs (C.hand a) n sc (b₀ :: r) (upd ρ nm (.ref a)) (σ₁.set a (.exc c (C.up c))) fun fl ρ' σ' => Q fl (ρ'.but nm) σ')
    | .Return (some e) _ => ev C n sc e ρ σ fun v σ₁ => Q (.ret v) ρ σ₁
    | .Return Option.none _ => Q (.ret .none) ρ σ
    | .Assign ts e _ => match ts with
      | [t] => match t with
        | .Name x _ => isLoc sc x = true ∧ ev C n sc e ρ σ fun v σ₁ => Q .next (upd ρ x v) σ₁
        | .Tuple tl k p => match tl with
          | [a, b] => match a with
            | .Name x px => match b with
              | .Name y py => match e with
                | .Name z pz => ev C n sc (.Name z pz) ρ σ fun v σ₁ => match bindT C.calm sc (.Tuple [.Name x px, .Name y py] k p) v ρ with
                  | some ρ' => Q .next ρ' σ₁
                  | Option.none => False
                | .Call f as ks pc => ev C n sc (.Call f as ks pc) ρ σ fun v σ₁ => match bindT C.calm sc (.Tuple [.Name x px, .Name y py] k p) v ρ with
                  | some ρ' => Q .next ρ' σ₁
                  | Option.none => False
                | _ => False
              | _ => False
            | _ => False
          | _ => False
        | .Subscript o i _ => ev C n sc e ρ σ fun v σ₁ => ev C n sc o ρ σ₁ fun ov σ₂ => ev C n sc i ρ σ₂ fun iv σ₃ => setitem ov iv v σ₃ fun σ₄ => Q .next ρ σ₄
        | .Attribute o a _ => ev C n sc e ρ σ fun v σ₁ => ev C n sc o ρ σ₁ fun ov σ₂ => setattr ov a v σ₂ fun σ₃ => Q .next ρ σ₃
        | _ => False
      | _ => False
    | .If t b o _ => tst C n sc t ρ σ fun c σ₁ => (c = true → exs C n sc b ρ σ₁ Q) ∧ (c = false → exs C n sc o ρ σ₁ Q)
    | .For t it b [] _ => ev C n sc it ρ σ fun v σ₁ => match itemsOf σ₁ v with
        | some items => forLoop (forStep (exs C n sc b) C.pairOk sc t) C.calm (still σ₁ v) items ρ σ₁ Q
        | Option.none => False
    | _ => False
noncomputable def exs : Cx → Nat → Scope → List Stmt → Rho → Store → (Fl → Rho → Store → Prop) → Prop
  | _, _, _, [], ρ, σ, Q => Q .next ρ σ
  | _, 0, _, _ :: _, _, _, _ => False
  | C, n + 1, sc, st :: r, ρ, σ, Q => ex C n sc st ρ σ fun fl ρ₁ σ₁ => match fl with
    | .next => exs C n sc r ρ₁ σ₁ Q
    | .ret v => Q (.ret v) ρ₁ σ₁
end
noncomputable def fnOf (p : Program) (f : Str) : List Str × List Stmt × Scope :=
  match p.main.body.find? (fun st => match st with | .FunctionDef n .. => n == f | _ => false) with
  | some (.FunctionDef _ a b _ _ _ sc _ _ _) => (a.args.map (·.arg), b, sc)
  | _ => ([], [], default)
noncomputable def methIn (b : List Stmt) (f : Str) : List Str × List Stmt × Scope :=
  match b.find? (fun st => match st with | .FunctionDef n .. => n == f | _ => false) with
  | some (.FunctionDef _ a b _ _ _ sc _ _ _) => (a.args.map (·.arg), b, sc)
  | _ => ([], [], default)
noncomputable def clsBody (p : Program) (c : Str) : List Stmt :=
  match p.main.body.find? (fun st => match st with | .ClassDef n .. => n == c | _ => false) with
  | some (.ClassDef _ _ _ b _ _ _ _ _ _ _) => b
  | _ => []
noncomputable def bodyOf (p : Program) (f : Fn) : List Str × List Stmt × Scope := match f with
  | .top n => fnOf p n
  | .meth c n => methIn (clsBody p c) n
noncomputable def bindRho : List Str → List Val → Rho → Rho
  | p :: ps, v :: vs, ρ => bindRho ps vs (upd ρ p v)
  | _, _, ρ => ρ
structure Lang where
  call : Nat → Option Addr → Fn → List Val → Store → VPost → Prop
  rcall : Nat → Fn → List Val → Store → (Str → Store → Prop) → Prop
  tcall : Nat → Fn → List Val → Store → VPost → Prop
  mth : Str → Str → Bool
  isx : Str → Bool
  up : Str → List Str
  has : Fn → Bool
noncomputable def Lang.cx (G : Lang) (gl : Str → Option Val) (d : Nat) (m : Option Addr) (loud top : Bool) (X : Str → Store → Prop) : Cx :=
  { gl := gl, call := G.call d m, calm := m.isNone, mth := G.mth, rcall := G.rcall d, exc := X, loud := loud, top := top, isx := G.isx, up := G.up, qcall := G.call d m, hcall := fun e => G.call d (some e), hd := m }
noncomputable def endQ (Q : VPost) (fl : Fl) (_ : Rho) (σ : Store) : Prop := match fl with
  | .next => Q .none σ
  | .ret v => Q v σ
structure Runs (prog : Program) (G : Lang) (gl : Str → Option Val) : Prop where
  run : ∀ (fuel : Nat) {d : Nat} {m : Option Addr} {f : Fn} {vs : List Val} {σ : Store} {Q : VPost} {ps : List Str} {b : List Stmt} {sc : Scope}, 1 ≤ d → G.has f = true → bodyOf prog f = (ps, b, sc) → vs.length = ps.length →
    exs (G.cx gl (d - 1) m false false fun _ _ => False) fuel sc b (bindRho ps vs fun _ => Option.none) σ (endQ Q) → G.call d m f vs σ Q
  raises : ∀ (fuel : Nat) {d : Nat} {f : Fn} {vs : List Val} {σ : Store} {X : Str → Store → Prop} {ps : List Str} {b : List Stmt} {sc : Scope}, 1 ≤ d → G.has f = true → bodyOf prog f = (ps, b, sc) → vs.length = ps.length →
    exs (G.cx gl (d - 1) Option.none true false X) fuel sc b (bindRho ps vs fun _ => Option.none) σ (fun _ _ _ => False) → G.rcall d f vs σ X
  tops : ∀ (fuel : Nat) {d : Nat} {f : Fn} {vs : List Val} {σ : Store} {Q : VPost} {ps : List Str} {b : List Stmt} {sc : Scope}, 1 ≤ d → G.has f = true → bodyOf prog f = (ps, b, sc) → vs.length = ps.length →
    exs (G.cx gl (d - 1) Option.none true true fun _ _ => False) fuel sc b (bindRho ps vs fun _ => Option.none) σ (endQ Q) → G.tcall d f vs σ Q
end Mine

set_option linter.unusedVariables false
namespace Mine
open PySem

noncomputable def lateX (C : Cx) (n : Nat) (sc : Scope) (b : List Stmt) : Rho → Store → (Fl → Rho → Store → Prop) → Prop := exs C n sc b
noncomputable def lateT (C : Cx) (n : Nat) (sc : Scope) (e : Expr) : Rho → Store → BPost → Prop := tst C n sc e
noncomputable def lateI (C : Cx) (n : Nat) (sc : Scope) (es : List Expr) : Rho → Store → BPost → Prop := evIfs C n sc es
noncomputable def lateV (C : Cx) (n : Nat) (sc : Scope) (e : Expr) : Rho → Store → VPost → Prop := ev C n sc e
section
variable {C : Cx} {n : Nat} {sc : Scope} {ρ : Rho} {σ : Store} {Q : VPost} {R : Fl → Rho → Store → Prop}
theorem ev_int {i : Int} {k p} : ev C (n + 1) sc (.Constant (.int i) k p) ρ σ Q = Q (.int i) σ := rfl
theorem ev_bool {i : Bool} {k p} : ev C (n + 1) sc (.Constant (.bool i) k p) ρ σ Q = Q (.bool i) σ := rfl
theorem ev_none {k p} : ev C (n + 1) sc (.Constant .none k p) ρ σ Q = Q .none σ := rfl
theorem ev_str {x : Str} {k p} : ev C (n + 1) sc (.Constant (.str x) k p) ρ σ Q = Q (.str x) σ := rfl
theorem ev_Name {x : Str} {p} : ev C (n + 1) sc (.Name x p) ρ σ Q = (match sc.names.lookup x with
      | some .globalImplicit => match C.gl x with
        | some v => Q v σ
        | Option.none => False
      | some .local | some .cell | some .free => match ρ x with
        | some v => Q v σ
        | Option.none => False
      | _ => False) := rfl
theorem ev_BinOp {l op r p} : ev C (n + 1) sc (.BinOp l op r p) ρ σ Q = ev C n sc l ρ σ fun a σ₁ => ev C n sc r ρ σ₁ fun b σ₂ => binop op a b σ₂ Q := rfl
theorem ev_UnaryOp {op x p} : ev C (n + 1) sc (.UnaryOp op x p) ρ σ Q = ev C n sc x ρ σ fun a σ₁ => unop op a σ₁ Q := rfl
theorem ev_BoolOp {op vs p} : ev C (n + 1) sc (.BoolOp op vs p) ρ σ Q = evBool C n sc op vs ρ σ Q := rfl
theorem ev_Compare {l ops rs p} : ev C (n + 1) sc (.Compare l ops rs p) ρ σ Q = ev C n sc l ρ σ fun a σ₁ => evCmp C n sc a ops rs ρ σ₁ fun b σ₂ => Q (.bool b) σ₂ := rfl
noncomputable def lateM (C : Cx) (n : Nat) (sc : Scope) (args : List Expr) (ρ : Rho) (ov : Val) (m : Str) (σ₁ : Store) (Q : VPost) : Prop :=
  match methKind ov m σ₁ with
  | some k => methOk C k m = true ∧ evs C n sc args ρ σ₁ fun vs σ₂ => methV C k m vs σ₂ Q
  | Option.none => False
theorem ev_CallA {o : Expr} {m : Str} {ap cp : Pos} {args : List Expr} : ev C (n + 1) sc (.Call (.Attribute o m ap) args [] cp) ρ σ Q = ((plainBase o = true ∧ fewArgs args = true ∧ (ap.endLine == cp.line) = true) ∧ ev C n sc o ρ σ fun ov σ₁ => lateM C n sc args ρ ov m σ₁ Q) := rfl
theorem lateM_list {args : List Expr} {p : Addr} {xs : List Val} {m : Str} (h : σ p = some (.list xs)) (hm : (m == "append" || m == "insert" || m == "clear" || m == "count") = true) : lateM C n sc args ρ (.ref p) m σ Q = evs C n sc args ρ σ fun vs σ₂ => listMeth p m vs σ₂ Q := by
  simp only [lateM, methKind, h, methOk, hm, methV, true_and]
theorem lateM_set {args : List Expr} {p : Addr} {xs : List Val} : lateM C n sc args ρ (.ref p) "append" (σ.set p (.list xs)) Q = evs C n sc args ρ (σ.set p (.list xs)) fun vs σ₂ => listMeth p "append" vs σ₂ Q :=
  lateM_list (xs := xs) (by simp [Store.set]) (by decide)
theorem ev_CallN {f : Str} {p cp : Pos} {args : List Expr} : ev C (n + 1) sc (.Call (.Name f p) args [] cp) ρ σ Q = (fewArgs args = true ∧ ev C n sc (.Name f p) ρ σ fun fv σ₁ => evs C n sc args ρ σ₁ fun vs σ₂ => callV C fv vs σ₂ Q) := rfl
theorem ev_Attr {o : Expr} {a : Str} {p : Pos} : ev C (n + 1) sc (.Attribute o a p) ρ σ Q = (plainBase o = true ∧ ev C n sc o ρ σ fun ov σ₁ => getattr ov a σ₁ Q) := rfl
theorem ev_Slice {o : Expr} {l u s : Option Expr} {q p : Pos} : ev C (n + 1) sc (.Subscript o (.Slice l u s q) p) ρ σ Q = ev C n sc o ρ σ fun ov σ₁ => evOpt C n sc l ρ σ₁ fun lv σ₂ => evOpt C n sc u ρ σ₂ fun uv σ₃ => evOpt C n sc s ρ σ₃ fun sv σ₄ =>
        match ov with
        | .ref p => match σ₄ p with
          | some (.list xs) => sliceV xs lv uv sv σ₄ Q
          | _ => False
        | _ => False := rfl
theorem ev_SubN {o : Expr} {x : Str} {q : Pos} {p : Pos} : ev C (n + 1) sc (.Subscript o (.Name x q) p) ρ σ Q = ev C n sc o ρ σ fun ov σ₁ => ev C n sc (.Name x q) ρ σ₁ fun iv σ₂ => subscr ov iv σ₂ Q := rfl
theorem ev_SubC {o : Expr} {x k} {q : Pos} {p : Pos} : ev C (n + 1) sc (.Subscript o (.Constant x k q) p) ρ σ Q = ev C n sc o ρ σ fun ov σ₁ => ev C n sc (.Constant x k q) ρ σ₁ fun iv σ₂ => subscr ov iv σ₂ Q := rfl
theorem ev_SubB {o : Expr} {a op b} {q : Pos} {p : Pos} : ev C (n + 1) sc (.Subscript o (.BinOp a op b q) p) ρ σ Q = ev C n sc o ρ σ fun ov σ₁ => ev C n sc (.BinOp a op b q) ρ σ₁ fun iv σ₂ => subscr ov iv σ₂ Q := rfl
theorem ev_SubU {o : Expr} {op a} {q : Pos} {p : Pos} : ev C (n + 1) sc (.Subscript o (.UnaryOp op a q) p) ρ σ Q = ev C n sc o ρ σ fun ov σ₁ => ev C n sc (.UnaryOp op a q) ρ σ₁ fun iv σ₂ => subscr ov iv σ₂ Q := rfl
theorem ev_SubF {o : Expr} {f as ks} {q : Pos} {p : Pos} : ev C (n + 1) sc (.Subscript o (.Call f as ks q) p) ρ σ Q = ev C n sc o ρ σ fun ov σ₁ => ev C n sc (.Call f as ks q) ρ σ₁ fun iv σ₂ => subscr ov iv σ₂ Q := rfl
theorem ev_SubS {o : Expr} {a b} {q : Pos} {p : Pos} : ev C (n + 1) sc (.Subscript o (.Subscript a b q) p) ρ σ Q = ev C n sc o ρ σ fun ov σ₁ => ev C n sc (.Subscript a b q) ρ σ₁ fun iv σ₂ => subscr ov iv σ₂ Q := rfl
theorem ev_SubT {o : Expr} {es k} {q : Pos} {p : Pos} : ev C (n + 1) sc (.Subscript o (.Tuple es k q) p) ρ σ Q = ev C n sc o ρ σ fun ov σ₁ => ev C n sc (.Tuple es k q) ρ σ₁ fun iv σ₂ => subscr ov iv σ₂ Q := rfl
theorem ev_SubA {o : Expr} {a b} {q : Pos} {p : Pos} : ev C (n + 1) sc (.Subscript o (.Attribute a b q) p) ρ σ Q = ev C n sc o ρ σ fun ov σ₁ => ev C n sc (.Attribute a b q) ρ σ₁ fun iv σ₂ => subscr ov iv σ₂ Q := rfl
theorem ev_List {es : List Expr} {p : Pos} : ev C (n + 1) sc (.List es p) ρ σ Q = (fewArgs es = true ∧ evs C n sc es ρ σ fun vs σ₁ => ∀ c, σ₁ c = Option.none → Q (.ref c) (σ₁.set c (.list vs))) := rfl
theorem ev_Tuple {es : List Expr} {k : Nat} {p : Pos} : ev C (n + 1) sc (.Tuple es k p) ρ σ Q = (fewArgs es = true ∧ evs C n sc es ρ σ fun vs σ₁ => Q (.tup vs) σ₁) := rfl
theorem ev_Dict0 {p : Pos} : ev C (n + 1) sc (.Dict [] [] p) ρ σ Q = ∀ c, σ c = Option.none → Q (.ref c) (σ.set c (.dictP [])) := rfl
theorem ev_Comp {elt target iter : Expr} {ifs : List Expr} {csc : Scope} {p : Pos} : ev C (n + 1) sc (.ListComp elt [⟨target, iter, ifs, 0⟩] csc p) ρ σ Q = ((C.calm = true ∧ compOk sc csc = true) ∧ ev C n sc iter ρ σ fun v σ₁ => match itemsOf σ₁ v with
        | some items => compLoop (compStep (lateI C.hush n csc ifs) (lateV C.hush n csc elt) C.calm csc target (compRho csc ρ)) (still σ₁ v) items [] σ₁ fun acc σ₂ => ∀ c, σ₂ c = Option.none → Q (.ref c) (σ₂.set c (.list acc))
        | Option.none => False) := rfl
theorem ex_Pass {p : Pos} : ex C (n + 1) sc (.Pass p) ρ σ R = R .next ρ σ := rfl
theorem ex_Expr {f as ks p q} : ex C (n + 1) sc (.Expr (.Call f as ks p) q) ρ σ R = (ev C n sc (.Call f as ks p) ρ σ (fun _ σ₁ => R .next ρ σ₁) ∨ (ks = [] ∧ evR C n sc f as p ρ σ C.exc)) := rfl
theorem ex_RetS {e p} : ex C (n + 1) sc (.Return (some e) p) ρ σ R = ev C n sc e ρ σ fun v σ₁ => R (.ret v) ρ σ₁ := rfl
theorem ex_RetN {p} : ex C (n + 1) sc (.Return none p) ρ σ R = R (.ret .none) ρ σ := rfl
theorem ex_AName {x q e p} : ex C (n + 1) sc (.Assign [.Name x q] e p) ρ σ R = (isLoc sc x = true ∧ ev C n sc e ρ σ fun v σ₁ => R .next (upd ρ x v) σ₁) := rfl
theorem ex_ATupN {x px y py k p z pz q} : ex C (n + 1) sc (.Assign [.Tuple [.Name x px, .Name y py] k p] (.Name z pz) q) ρ σ R = ev C n sc (.Name z pz) ρ σ fun v σ₁ => match bindT C.calm sc (.Tuple [.Name x px, .Name y py] k p) v ρ with
        | some ρ' => R .next ρ' σ₁
        | Option.none => False := rfl
theorem ex_ATupC {x px y py k p f as ks pc q} : ex C (n + 1) sc (.Assign [.Tuple [.Name x px, .Name y py] k p] (.Call f as ks pc) q) ρ σ R = ev C n sc (.Call f as ks pc) ρ σ fun v σ₁ => match bindT C.calm sc (.Tuple [.Name x px, .Name y py] k p) v ρ with
        | some ρ' => R .next ρ' σ₁
        | Option.none => False := rfl
theorem ex_ASub {o i q e p} : ex C (n + 1) sc (.Assign [.Subscript o i q] e p) ρ σ R = ev C n sc e ρ σ fun v σ₁ => ev C n sc o ρ σ₁ fun ov σ₂ => ev C n sc i ρ σ₂ fun iv σ₃ => setitem ov iv v σ₃ fun σ₄ => R .next ρ σ₄ := rfl
theorem ex_AAttr {o a q e p} : ex C (n + 1) sc (.Assign [.Attribute o a q] e p) ρ σ R = ev C n sc e ρ σ fun v σ₁ => ev C n sc o ρ σ₁ fun ov σ₂ => setattr ov a v σ₂ fun σ₃ => R .next ρ σ₃ := rfl
theorem ex_If {t b o p} : ex C (n + 1) sc (.If t b o p) ρ σ R = tst C n sc t ρ σ fun c σ₁ => (c = true → exs C n sc b ρ σ₁ R) ∧ (c = false → exs C n sc o ρ σ₁ R) := rfl
noncomputable def forV (C : Cx) (n : Nat) (sc : Scope) (t : Expr) (b : List Stmt) (v : Val) (ρ : Rho) (σ₁ : Store) (R : Fl → Rho → Store → Prop) : Prop :=
  match itemsOf σ₁ v with
  | some items => forLoop (forStep (lateX C n sc b) C.pairOk sc t) C.calm (still σ₁ v) items ρ σ₁ R
  | Option.none => False
theorem ex_For {t it b p} : ex C (n + 1) sc (.For t it b [] p) ρ σ R = ev C n sc it ρ σ fun v σ₁ => forV C n sc t b v ρ σ₁ R := rfl
theorem forV_list {t : Expr} {b : List Stmt} {p : Addr} {xs : List Val} (h : σ p = some (.list xs)) : forV C n sc t b (.ref p) ρ σ R = forLoop (forStep (lateX C n sc b) C.pairOk sc t) C.calm (still σ (.ref p)) xs ρ σ R := by
  simp only [forV, itemsOf, h]
theorem forV_rng {t : Expr} {b : List Stmt} {lo hi : Int} : forV C n sc t b (.rng lo hi) ρ σ R = forLoop (forStep (lateX C n sc b) C.pairOk sc t) C.calm (still σ (.rng lo hi)) (ofInts (rangeL lo hi)) ρ σ R := rfl
end


/-! the rest of the words, by unfolding alone -/
section
variable {C : Cx} {n : Nat} {sc : Scope} {ρ : Rho} {σ : Store} {Q : VPost} {R : BPost} {e : Expr}
theorem evs_0 {K : List Val → Store → Prop} : evs C (n + 1) sc [] ρ σ K = K [] σ := rfl
theorem evs_1 {K : List Val → Store → Prop} {r : List Expr} : evs C (n + 1) sc (e :: r) ρ σ K = ev C n sc e ρ σ fun v σ₁ => evs C n sc r ρ σ₁ fun vs σ₂ => K (v :: vs) σ₂ := rfl
theorem evOpt_0 {K : Option Int → Store → Prop} : evOpt C (n + 1) sc none ρ σ K = K none σ := rfl
theorem evOpt_1 {K : Option Int → Store → Prop} : evOpt C (n + 1) sc (some e) ρ σ K = ev C n sc e ρ σ fun v σ₁ => match v with
    | .int i => K (some i) σ₁
    | _ => False := rfl
theorem evBool_1 {op : BoolOp} : evBool C (n + 1) sc op [e] ρ σ Q = ev C n sc e ρ σ Q := rfl
theorem evBool_and {e' : Expr} {r : List Expr} : evBool C (n + 1) sc .And (e :: e' :: r) ρ σ Q = ev C n sc e ρ σ fun v σ₁ => truth v σ₁ fun b σ₂ => (b = false → Q v σ₂) ∧ (b = true → evBool C n sc .And (e' :: r) ρ σ₂ Q) := rfl
theorem evBool_or {e' : Expr} {r : List Expr} : evBool C (n + 1) sc .Or (e :: e' :: r) ρ σ Q = ev C n sc e ρ σ fun v σ₁ => truth v σ₁ fun b σ₂ => (b = true → Q v σ₂) ∧ (b = false → evBool C n sc .Or (e' :: r) ρ σ₂ Q) := rfl
theorem evCmp_1 {a : Val} {op : CmpOp} : evCmp C (n + 1) sc a [op] [e] ρ σ R = ev C n sc e ρ σ fun b σ₁ => cmpop op a b σ₁ R := rfl
theorem evCmp_2 {a : Val} {op op' : CmpOp} {ops : List CmpOp} {r' : Expr} {rs : List Expr} : evCmp C (n + 1) sc a (op :: op' :: ops) (e :: r' :: rs) ρ σ R = ev C n sc e ρ σ fun b σ₁ => cmpop op a b σ₁ fun c σ₂ => (c = true → evCmp C n sc b (op' :: ops) (r' :: rs) ρ σ₂ R) ∧ (c = false → R false σ₂) := rfl
theorem tst_Not {p : Pos} : tst C (n + 1) sc (.UnaryOp .Not e p) ρ σ R = tst C n sc e ρ σ fun b σ₁ => R (!b) σ₁ := rfl
theorem tst_Bool {op : BoolOp} {vs : List Expr} {p : Pos} : tst C (n + 1) sc (.BoolOp op vs p) ρ σ R = tstAll C n sc op vs ρ σ R := rfl
theorem tst_Cmp {ops rs p} : tst C (n + 1) sc (.Compare e ops rs p) ρ σ R = ev C n sc e ρ σ fun a σ₁ => evCmp C n sc a ops rs ρ σ₁ R := rfl
theorem tst_Name {x p} : tst C (n + 1) sc (.Name x p) ρ σ R = ev C n sc (.Name x p) ρ σ fun v σ₁ => truth v σ₁ R := rfl
theorem tst_Call {f as ks p} : tst C (n + 1) sc (.Call f as ks p) ρ σ R = ev C n sc (.Call f as ks p) ρ σ fun v σ₁ => truth v σ₁ R := rfl
theorem tst_Sub {o i p} : tst C (n + 1) sc (.Subscript o i p) ρ σ R = ev C n sc (.Subscript o i p) ρ σ fun v σ₁ => truth v σ₁ R := rfl
theorem tst_Attr {o i p} : tst C (n + 1) sc (.Attribute o i p) ρ σ R = ev C n sc (.Attribute o i p) ρ σ fun v σ₁ => truth v σ₁ R := rfl
theorem tst_Const {o i p} : tst C (n + 1) sc (.Constant o i p) ρ σ R = ev C n sc (.Constant o i p) ρ σ fun v σ₁ => truth v σ₁ R := rfl
theorem tstAll_0a : tstAll C (n + 1) sc .And [] ρ σ R = R true σ := rfl
theorem tstAll_0o : tstAll C (n + 1) sc .Or [] ρ σ R = R false σ := rfl
theorem tstAll_1a {r : List Expr} : tstAll C (n + 1) sc .And (e :: r) ρ σ R = tst C n sc e ρ σ fun b σ₁ => (b = false → R false σ₁) ∧ (b = true → tstAll C n sc .And r ρ σ₁ R) := rfl
theorem tstAll_1o {r : List Expr} : tstAll C (n + 1) sc .Or (e :: r) ρ σ R = tst C n sc e ρ σ fun b σ₁ => (b = true → R true σ₁) ∧ (b = false → tstAll C n sc .Or r ρ σ₁ R) := rfl
theorem evIfs_0 : evIfs C (n + 1) sc [] ρ σ R = R true σ := rfl
theorem evIfs_1 : evIfs C (n + 1) sc [e] ρ σ R = tst C n sc e ρ σ R := rfl
theorem exs_0 {K : Fl → Rho → Store → Prop} : exs C (n + 1) sc [] ρ σ K = K .next ρ σ := rfl
theorem exs_1 {K : Fl → Rho → Store → Prop} {st : Stmt} {r : List Stmt} : exs C (n + 1) sc (st :: r) ρ σ K = ex C n sc st ρ σ fun fl ρ₁ σ₁ => match fl with
    | .next => exs C n sc r ρ₁ σ₁ K
    | .ret v => K (.ret v) ρ₁ σ₁ := rfl
end

end Mine

set_option linter.unusedVariables false
namespace Mine
open PySem PyProof.Rows

structure Tab where
  fn : Str → Option Addr
  cls : Str → Option Addr
  meth : Str → Str → Option Addr
  scr : Option (Addr × List Int)
  isx : Str → Bool
  up : Str → List Str

mutual
inductive VRel (F : Tab) (h : Heap) : Value → Val → Prop
  | none : VRel F h .none .none
  | bool (b : Bool) : VRel F h (.bool b) (.bool b)
  | int (i : Int) (t : Tok) : VRel F h (.int i t) (.int i)
  | str (x : Str) (t : Tok) : VRel F h (.str x t) (.str x)
  | tup {a : Addr} {o : Obj} {items : Array Value} {n : Nat} {vs : List Val} : h.get? a = some o → o.cls = .type "tuple" → o.data = .seq items n → VRels F h items.toList vs → items.size ≤ cap → VRel F h (.ref a) (.tup vs)
  | rng {r : Addr} {a b : Int} {t u v : Tok} : IsRange h r a b 1 t u v → 0 ≤ a → a ≤ cap → -(cap : Int) ≤ b ∧ b ≤ cap → VRel F h (.ref r) (.rng a b)
  | scr {a : Addr} {l : List Int} : F.scr = some (a, l) → VRel F h (.ref a) (.scr l)
  | ref (a : Addr) : VRel F h (.ref a) (.ref a)
  | fn {n : Str} {f : Addr} : F.fn n = some f → VRel F h (.ref f) (.fn n)
  | cls {n : Str} {f : Addr} : F.cls n = some f → VRel F h (.ref f) (.cls n)
  | blt (id : String) : VRel F h (.builtin id) (.blt id)
  | typ (n : String) : VRel F h (.type n) (.typ n)
inductive VRels (F : Tab) (h : Heap) : List Value → List Val → Prop
  | nil : VRels F h [] []
  | cons {v : Value} {a : Val} {vs : List Value} {as : List Val} : VRel F h v a → VRels F h vs as → VRels F h (v :: vs) (a :: as)
end

noncomputable def Frozen (o : Obj) : Prop := (o.cls = .type "tuple" ∨ o.cls = .type "range" ∨ o.cls = .type "dict_keys") ∧ (∀ es n, o.data ≠ .dict es n) ∧ ∀ v, o.data ≠ .cell v

mutual
theorem VRel.mono {F : Tab} {h h' : Heap} (hk : ∀ a o, h.get? a = some o → Frozen o → h'.get? a = some o) : ∀ {v : Value} {a : Val}, VRel F h v a → VRel F h' v a
  | _, _, .none => .none
  | _, _, .bool b => .bool b
  | _, _, .int i t => .int i t
  | _, _, .str x t => .str x t
  | _, _, .tup e c d r z => .tup (hk _ _ e ⟨.inl c, fun _ _ => by rw [d]; nofun, fun _ => by rw [d]; nofun⟩) c d (VRels.mono hk r) z
  | _, _, .rng e x y z => .rng (hk _ _ e ⟨.inr (.inl rfl), fun _ _ => nofun, fun _ => nofun⟩) x y z
  | _, _, .scr e => .scr e
  | _, _, .ref a => .ref a
  | _, _, .fn e => .fn e
  | _, _, .cls e => .cls e
  | _, _, .blt id => .blt id
  | _, _, .typ n => .typ n
theorem VRels.mono {F : Tab} {h h' : Heap} (hk : ∀ a o, h.get? a = some o → Frozen o → h'.get? a = some o) : ∀ {vs : List Value} {as : List Val}, VRels F h vs as → VRels F h' vs as
  | _, _, .nil => .nil
  | _, _, .cons x r => .cons (VRel.mono hk x) (VRels.mono hk r)
end

theorem VRels.length {F : Tab} {h : Heap} : ∀ {vs : List Value} {as : List Val}, VRels F h vs as → vs.length = as.length
  | _, _, .nil => rfl
  | _, _, .cons _ r => by simp [VRels.length r]
theorem VRels.get {F : Tab} {h : Heap} : ∀ {vs : List Value} {as : List Val}, VRels F h vs as → ∀ {i : Nat} {a : Val}, as[i]? = some a → ∃ v, vs[i]? = some v ∧ VRel F h v a
  | _, _, .nil, i, a, e => by simp at e
  | _, _, .cons x r, 0, a, e => ⟨_, rfl, by simp at e; exact e ▸ x⟩
  | _, _, .cons x r, i + 1, a, e => by simpa using VRels.get r (i := i) (a := a) (by simpa using e)
theorem VRels.getL {F : Tab} {h : Heap} : ∀ {vs : List Value} {as : List Val}, VRels F h vs as → ∀ {i : Nat} {v : Value}, vs[i]? = some v → ∃ a, as[i]? = some a ∧ VRel F h v a
  | _, _, .nil, i, a, e => by simp at e
  | _, _, .cons x r, 0, a, e => ⟨_, rfl, by simp at e; exact e ▸ x⟩
  | _, _, .cons x r, i + 1, a, e => by simpa using VRels.getL r (i := i) (v := a) (by simpa using e)
theorem VRels.append {F : Tab} {h : Heap} : ∀ {vs ws : List Value} {as bs : List Val}, VRels F h vs as → VRels F h ws bs → VRels F h (vs ++ ws) (as ++ bs)
  | _, _, _, _, .nil, r => r
  | _, _, _, _, .cons x r, r' => .cons x (VRels.append r r')
theorem VRels.take {F : Tab} {h : Heap} : ∀ {vs : List Value} {as : List Val}, VRels F h vs as → ∀ n, VRels F h (vs.take n) (as.take n)
  | _, _, .nil, _ => by simpa using VRels.nil
  | _, _, .cons _ _, 0 => by simpa using VRels.nil
  | _, _, .cons x r, n + 1 => by simpa using VRels.cons x (VRels.take r n)
theorem VRels.drop {F : Tab} {h : Heap} : ∀ {vs : List Value} {as : List Val}, VRels F h vs as → ∀ n, VRels F h (vs.drop n) (as.drop n)
  | _, _, .nil, _ => by simpa using VRels.nil
  | _, _, .cons x r, 0 => by simpa using VRels.cons x r
  | _, _, .cons x r, n + 1 => by simpa using VRels.drop r n
theorem VRels.set {F : Tab} {h : Heap} {v : Value} {a : Val} (hv : VRel F h v a) : ∀ {vs : List Value} {as : List Val}, VRels F h vs as → ∀ n, VRels F h (vs.set n v) (as.set n a)
  | _, _, .nil, _ => by simpa using VRels.nil
  | _, _, .cons x r, 0 => by simpa using VRels.cons hv r
  | _, _, .cons x r, n + 1 => by simpa using VRels.cons x (VRels.set hv r n)
theorem VRels.replicate {F : Tab} {h : Heap} {v : Value} {a : Val} (hv : VRel F h v a) : ∀ n, VRels F h (List.replicate n v) (List.replicate n a)
  | 0 => .nil
  | n + 1 => .cons hv (VRels.replicate hv n)


theorem VRels.zero {F : Tab} {h : Heap} {vs : List Value} (r : VRels F h vs []) : vs = [] := by cases r; rfl
theorem VRels.uncons {F : Tab} {h : Heap} {vs : List Value} {a : Val} {as : List Val} (r : VRels F h vs (a :: as)) : ∃ v us, vs = v :: us ∧ VRel F h v a ∧ VRels F h us as := by cases r with | cons x r => exact ⟨_, _, rfl, x, r⟩
theorem VRels.one {F : Tab} {h : Heap} {vs : List Value} {a : Val} (r : VRels F h vs [a]) : ∃ v, vs = [v] ∧ VRel F h v a := by
  obtain ⟨v, us, rfl, x, r⟩ := r.uncons
  obtain rfl := r.zero
  exact ⟨v, rfl, x⟩
theorem VRels.two {F : Tab} {h : Heap} {vs : List Value} {a b : Val} (r : VRels F h vs [a, b]) : ∃ v u, vs = [v, u] ∧ VRel F h v a ∧ VRel F h u b := by
  obtain ⟨v, us, rfl, x, r⟩ := r.uncons
  obtain ⟨u, rfl, y⟩ := r.one
  exact ⟨v, u, rfl, x, y⟩
theorem VRel.toInt {F : Tab} {h : Heap} {v : Value} {i : Int} (r : VRel F h v (.int i)) : ∃ t, v = .int i t := by cases r; exact ⟨_, rfl⟩
theorem VRel.toBool {F : Tab} {h : Heap} {v : Value} {b : Bool} (r : VRel F h v (.bool b)) : v = .bool b := by cases r; rfl
theorem VRel.toRef {F : Tab} {h : Heap} {v : Value} {p : Addr} (r : VRel F h v (.ref p)) : v = .ref p := by cases r; rfl
theorem VRel.toTup {F : Tab} {h : Heap} {v : Value} {vs : List Val} (r : VRel F h v (.tup vs)) : ∃ a o items n, v = .ref a ∧ h.get? a = some o ∧ o.cls = .type "tuple" ∧ o.data = .seq items n ∧ VRels F h items.toList vs ∧ items.size ≤ cap := by
  cases r with | tup e c d r z => exact ⟨_, _, _, _, rfl, e, c, d, r, z⟩
theorem VRel.toNone {F : Tab} {h : Heap} {v : Value} (r : VRel F h v .none) : v = .none := by cases r; rfl
theorem VRel.toTyp {F : Tab} {h : Heap} {v : Value} {T : String} (r : VRel F h v (.typ T)) : v = .type T := by cases r; rfl
theorem VRel.toCls {F : Tab} {h : Heap} {v : Value} {c : Str} (r : VRel F h v (.cls c)) : ∃ a, v = .ref a ∧ F.cls c = some a := by
  cases r with | cls e => exact ⟨_, rfl, e⟩
theorem VRel.toScr {F : Tab} {h : Heap} {v : Value} {l : List Int} (r : VRel F h v (.scr l)) : ∃ a, v = .ref a ∧ F.scr = some (a, l) := by
  cases r with | scr e => exact ⟨_, rfl, e⟩
theorem VRels.ints {F : Tab} {h : Heap} : ∀ {ns : List Int} {vs : List Value}, VRels F h vs (ofInts ns) → IntsAre vs ns
  | [], _, r => by obtain rfl := r.zero; exact .nil
  | _ :: _, _, r => by
    obtain ⟨v, us, rfl, x, r'⟩ := VRels.uncons r
    obtain ⟨t, rfl⟩ := x.toInt
    exact .cons _ t (VRels.ints r')

noncomputable def PRel (F : Tab) (h : Heap) : List (List Int × Addr × Value) → List ((Int × Int) × Val) → Prop
  | [], [] => True
  | x :: xs, e :: es => x.1 = [e.1.1, e.1.2] ∧ VRel F h x.2.2 e.2 ∧ PRel F h xs es
  | _, _ => False
noncomputable def SRel (P : Params) (F : Tab) (h : Heap) : List DictEntry → List (Str × Val) → Prop
  | [], [] => True
  | x :: xs, e :: es => (∃ t, x.key = .str e.1 t) ∧ VRel F h x.val e.2 ∧ SRel P F h xs es
  | _, _ => False

theorem PRel.mono {F : Tab} {h h' : Heap} (hk : ∀ a o, h.get? a = some o → Frozen o → h'.get? a = some o) : ∀ {xs es}, PRel F h xs es → PRel F h' xs es
  | [], [], _ => trivial
  | _ :: _, _ :: _, ⟨a, b, c⟩ => ⟨a, b.mono hk, PRel.mono hk c⟩
theorem SRel.mono {P : Params} {F : Tab} {h h' : Heap} (hk : ∀ a o, h.get? a = some o → Frozen o → h'.get? a = some o) : ∀ {xs es}, SRel P F h xs es → SRel P F h' xs es
  | [], [], _ => trivial
  | _ :: _, _ :: _, ⟨a, b, c⟩ => ⟨a, b.mono hk, SRel.mono hk c⟩

section
variable (prog : Program) (w : World) (F : Tab)

noncomputable def ORel (h : Heap) (a : Addr) : AObj → Prop
  | .list vs => ∃ items n, h.get? a = some { cls := .type "list", data := .seq items n } ∧ VRels F h items.toList vs ∧ vs.length ≤ cap
  | .dictP es => ∃ xs : List (List Int × Addr × Value), h.DictOfH (tupleKind (intKind prog w)) a xs ∧ PRel F h xs es ∧ es.length ≤ cap
  | .inst c dx => ∃ C, (F.cls c = some C ∧ F.isx c = false) ∧ h.get? a = some { cls := .ref C, dict := some dx, data := .plain }
  | .attrs fs => ∃ es n, h.get? a = some { cls := .type "dict", data := .dict es n } ∧ SRel w.params F h es.toList fs ∧ (∀ e ∈ fs, okAtt e.1 = true ∧ plainV e.2 = true) ∧ fs.length ≤ 8
  | .exc c up => ∃ C o, (F.cls c = some C ∧ F.isx c = true ∧ up = F.up c) ∧ h.get? a = some o ∧ o.cls = .ref C ∧ ∃ vs, o.data = .fields vs ∧ vs[2]? = some Value.none

theorem ORel.live {h : Heap} {a : Addr} : ∀ {o : AObj}, ORel prog w F h a o → ∃ ob, h.get? a = some ob ∧ ¬ Frozen ob := by
  intro o ho
  cases o with
  | list vs => obtain ⟨items, n, e, _⟩ := ho; exact ⟨_, e, by simp [Frozen]⟩
  | dictP es => obtain ⟨xs, ⟨o, es', ep, e, hx, _⟩, _⟩ := ho; exact ⟨_, e, by simp [Frozen, hx.1]⟩
  | inst c dx => obtain ⟨C, _, e⟩ := ho; exact ⟨_, e, by simp [Frozen]⟩
  | attrs fs => obtain ⟨es, n, e, _⟩ := ho; exact ⟨_, e, by simp [Frozen]⟩
  | exc c up => obtain ⟨C, o, _, e, hc, _⟩ := ho; exact ⟨_, e, by simp [Frozen, hc]⟩

theorem ORel.mono {h h' : Heap} {a : Addr} (hk : ∀ a o, h.get? a = some o → Frozen o → h'.get? a = some o) (ha : h'.get? a = h.get? a) : ∀ {o : AObj}, ORel prog w F h a o → ORel prog w F h' a o := by
  intro o ho
  cases o with
  | list vs => obtain ⟨items, n, e, r, z⟩ := ho; exact ⟨items, n, ha.trans e, r.mono hk, z⟩
  | dictP es =>
    obtain ⟨xs, ⟨o, es', ep, e, hx, hd, ht, hi, hn⟩, r, z⟩ := ho
    refine ⟨xs, ⟨o, es', ep, ha.trans e, hx, hd, ht, fun x hm => ?_, hn⟩, r.mono hk, z⟩
    obtain ⟨ob, items, n, e1, e2, e3, e4⟩ := hi x hm
    exact ⟨ob, items, n, hk _ _ e1 ⟨.inl e2, fun _ _ => by rw [e3]; nofun, fun _ => by rw [e3]; nofun⟩, e2, e3, e4⟩
  | inst c dx => obtain ⟨C, hc, e⟩ := ho; exact ⟨C, hc, ha.trans e⟩
  | attrs fs => obtain ⟨es, n, e, r, r2⟩ := ho; exact ⟨es, n, ha.trans e, r.mono hk, r2⟩
  | exc c up => obtain ⟨C, o, h1, e, hc⟩ := ho; exact ⟨C, o, h1, ha.trans e, hc⟩

noncomputable def XIs (B : Heap) : Prop := ∀ c C, F.cls c = some C → F.isx c = true → ∀ (A : Around) (E : Value → Shared → Prop) (s : Shared) (e : Addr) (Q : Value → Shared → Prop), (∀ a o, B.get? a = some o → s.heap.get? a = some o) → (∃ o, s.heap.get? e = some o ∧ o.cls = .ref C) →
  (∀ d D, F.cls d = some D → (∀ tk, Q (.bool ((F.up c).contains d)) { s with toks := tk }) → wpAny (model prog w) A (call (.builtin "isinstance") [.ref e, .ref D]) Q E s) ∧
  ((∀ tk, Q (.bool true) { s with toks := tk }) → wpAny (model prog w) A (call (.builtin "isinstance") [.ref e, .type "ValueError"]) Q E s)
structure Inv (B : Heap) (σ : Store) (h : Heap) : Prop where
  keep : ∀ a o, B.get? a = some o → h.get? a = some o
  obj : ∀ a o, σ a = some o → B.get? a = none ∧ ORel prog w F h a o
  scr : ∀ a l, F.scr = some (a, l) → ∃ items, B.IsList a items ∧ IntsAre items.toList l ∧ l.length ≤ cap

theorem Inv.fresh {B h : Heap} {σ : Store} (I : Inv prog w F B σ h) {a : Addr} {o : Obj} (e : h.get? a = some o) (hf : Frozen o) : σ a = none := by
  cases hs : σ a with
  | none => rfl
  | some ao =>
    obtain ⟨ob, e1, e2⟩ := ORel.live prog w F (I.obj a ao hs).2
    rw [e] at e1; cases e1; exact absurd hf e2
theorem Inv.base {B h : Heap} {σ : Store} (I : Inv prog w F B σ h) {a : Addr} {o : Obj} (e : B.get? a = some o) : σ a = none := by
  cases hs : σ a with
  | none => rfl
  | some ao => have := (I.obj a ao hs).1; rw [e] at this; cases this

end

structure Go (P : Addr → Prop) (σ : Store) (s : Shared) (σ' : Store) (s' : Shared) : Prop where
  same : ∃ h' tk, s' = { s with heap := h', toks := tk }
  keep : ∀ a o, ¬ P a → s.heap.get? a = some o → σ a = none → s'.heap.get? a = some o
  live : ∀ a o, s.heap.get? a = some o → ∃ o', s'.heap.get? a = some o'
  grow : ∀ a, σ a = none → σ' a ≠ none → s.heap.get? a = none
  dom : ∀ a, σ a ≠ none → σ' a ≠ none

theorem Go.refl (P : Addr → Prop) (σ : Store) (s : Shared) : Go P σ s σ s := ⟨⟨_, _, rfl⟩, fun _ _ _ e _ => e, fun _ o e => ⟨o, e⟩, fun _ a b => absurd a b, fun _ a => a⟩
theorem Go.trans {P : Addr → Prop} {σ σ₁ σ₂ : Store} {s s₁ s₂ : Shared} (g : Go P σ s σ₁ s₁) (g' : Go P σ₁ s₁ σ₂ s₂) : Go P σ s σ₂ s₂ := by
  obtain ⟨⟨h1, t1, rfl⟩, k1, l1, w1, d1⟩ := g
  obtain ⟨⟨h2, t2, rfl⟩, k2, l2, w2, d2⟩ := g'
  refine ⟨⟨h2, t2, rfl⟩, fun a o hL e hn => ?_, fun a o e => ?_, fun a hn hs => ?_, fun a hs => d2 a (d1 a hs)⟩
  · refine k2 a o hL (k1 a o hL e hn) ?_
    cases hq : σ₁ a with
    | none => rfl
    | some x => have := w1 a hn (by simp [hq]); rw [e] at this; cases this
  · obtain ⟨o1, e1⟩ := l1 a o e
    exact l2 a o1 e1
  · cases hq : σ₁ a with
    | none =>
      have h3 := w2 a hq hs
      cases e : s.heap.get? a with
      | none => rfl
      | some o => obtain ⟨o', e'⟩ := l1 a o e; rw [h3] at e'; cases e'
    | some x => exact w1 a hn (by simp [hq])
theorem Go.tok {P : Addr → Prop} {σ : Store} {s : Shared} (t : Nat) : Go P σ s σ { s with toks := t } := ⟨⟨_, _, rfl⟩, fun _ _ _ e _ => e, fun _ o e => ⟨o, e⟩, fun _ a b => absurd a b, fun _ a => a⟩
theorem Go.mono {P P' : Addr → Prop} {σ σ' : Store} {s s' : Shared} (g : Go P σ s σ' s') (hP : ∀ a o, s.heap.get? a = some o → P a → P' a) : Go P' σ s σ' s' :=
  ⟨g.same, fun a o hn e hs => g.keep a o (fun hp => hn (hP a o e hp)) e hs, g.live, g.grow, g.dom⟩
theorem Go.off {P : Addr → Prop} {σ σ' : Store} {s s' : Shared} (g : Go P σ s σ' s') {a : Addr} {o : Obj} (e : s.heap.get? a = some o) (h : σ a = none) : σ' a = none := by
  cases hq : σ' a with
  | none => rfl
  | some x => have := g.grow a h (by simp [hq]); rw [e] at this; cases this
theorem ns_thaw {h : Heap} {L : Addr} {m : Str → Option Value} (hn : h.Ns L m) : ∀ o, h.get? L = some o → ¬ Frozen o := by
  intro o e hf
  obtain ⟨o', es, ep, e', hd, _⟩ := hn
  rw [e] at e'; cases e'
  exact hf.2.1 es ep hd
theorem Go.frozen {prog : Program} {w : World} {F : Tab} {P : Addr → Prop} {B : Heap} {σ σ' : Store} {s s' : Shared} (g : Go P σ s σ' s') (I : Inv prog w F B σ s.heap) (hL : ∀ a o, P a → s.heap.get? a = some o → ¬ Frozen o) :
    ∀ a o, s.heap.get? a = some o → Frozen o → s'.heap.get? a = some o := fun a o e hf => g.keep a o (fun hp => hL a o hp e hf) e (I.fresh prog w F e hf)

structure RhoRel (F : Tab) (env : Env) (ρ : Rho) (h : Heap) : Prop where
  loc : ∃ m, h.Ns env.locals m ∧ ∀ x a, env.kindOf x = some .local → ρ x = some a → ∃ v, m x = some v ∧ VRel F h v a
  cel : ∀ x a, (env.kindOf x = some .cell ∨ env.kindOf x = some .free) → ρ x = some a → ∃ c v, env.cells.lookup x = some c ∧ h.IsCell c (some v) ∧ VRel F h v a

structure Fra (F : Tab) (env : Env) (ρ : Rho) (σ : Store) (h : Heap) : Prop where
  rho : RhoRel F env ρ h
  offL : σ env.locals = none
  offC : ∀ x c, env.cells.lookup x = some c → σ c = none ∧ c ≠ env.locals ∧ ∃ v, h.IsCell c v

section
variable (prog : Program) (w : World) (F : Tab) (B : Heap) (env : Env) (ρ : Rho)

structure St (σ : Store) (s : Shared) : Prop where
  inv : Inv prog w F B σ s.heap
  fra : Fra F env ρ σ s.heap
  offB : B.get? env.locals = none
  offC : ∀ x c, env.cells.lookup x = some c → B.get? c = none

abbrev GoE (σ : Store) (s : Shared) (σ' : Store) (s' : Shared) : Prop := Go (fun a => a = env.locals) σ s σ' s'

noncomputable def EvP (σ : Store) (s : Shared) (Q : VPost) (v : Value) (s' : Shared) : Prop :=
  ∃ a σ', VRel F s'.heap v a ∧ St prog w F B env ρ σ' s' ∧ GoE env σ s σ' s' ∧ Q a σ'
noncomputable def TsP (σ : Store) (s : Shared) (Q : BPost) (b : Bool) (s' : Shared) : Prop :=
  ∃ σ', St prog w F B env ρ σ' s' ∧ GoE env σ s σ' s' ∧ Q b σ'
noncomputable def UnP (σ : Store) (s : Shared) (Q : Store → Prop) (_ : Unit) (s' : Shared) : Prop :=
  ∃ σ', St prog w F B env ρ σ' s' ∧ GoE env σ s σ' s' ∧ Q σ'
end

section
variable {prog : Program} {w : World} {F : Tab} {B : Heap} {env : Env} {ρ : Rho} {σ σ₁ σ' : Store} {s s₁ s' : Shared}

theorem St.frozen (S : St prog w F B env ρ σ s) (g : GoE env σ s σ' s') : ∀ a o, s.heap.get? a = some o → Frozen o → s'.heap.get? a = some o :=
  g.frozen S.inv fun a o hp e => by subst hp; obtain ⟨⟨m, hn, _⟩, _⟩ := S.fra.rho; exact ns_thaw hn o e
theorem St.val (S : St prog w F B env ρ σ s) (g : GoE env σ s σ' s') {v : Value} {a : Val} (h : VRel F s.heap v a) : VRel F s'.heap v a := h.mono (S.frozen g)
theorem St.vals (S : St prog w F B env ρ σ s) (g : GoE env σ s σ' s') {v : List Value} {a : List Val} (h : VRels F s.heap v a) : VRels F s'.heap v a := h.mono (S.frozen g)
theorem St.tok (S : St prog w F B env ρ σ s) (t : Nat) : St prog w F B env ρ σ { s with toks := t } := ⟨S.inv, S.fra, S.offB, S.offC⟩
theorem EvP.back {Q : VPost} {v : Value} (g : GoE env σ s σ₁ s₁) (h : EvP prog w F B env ρ σ₁ s₁ Q v s') : EvP prog w F B env ρ σ s Q v s' := by
  obtain ⟨a, σ', h1, h2, h3, h4⟩ := h
  exact ⟨a, σ', h1, h2, g.trans h3, h4⟩
theorem TsP.back {Q : BPost} {v : Bool} (g : GoE env σ s σ₁ s₁) (h : TsP prog w F B env ρ σ₁ s₁ Q v s') : TsP prog w F B env ρ σ s Q v s' := by
  obtain ⟨σ', h2, h3, h4⟩ := h
  exact ⟨σ', h2, g.trans h3, h4⟩
theorem UnP.back {Q : Store → Prop} {v : Unit} (g : GoE env σ s σ₁ s₁) (h : UnP prog w F B env ρ σ₁ s₁ Q v s') : UnP prog w F B env ρ σ s Q v s' := by
  obtain ⟨σ', h2, h3, h4⟩ := h
  exact ⟨σ', h2, g.trans h3, h4⟩
theorem EvP.pure {Q : VPost} {v : Value} {a : Val} (S : St prog w F B env ρ σ s) (t : Nat) (hv : VRel F s.heap v a) (h : Q a σ) : EvP prog w F B env ρ σ s Q v { s with toks := t } :=
  ⟨a, σ, hv, S.tok t, Go.tok t, h⟩
theorem EvP.now {Q : VPost} {v : Value} {a : Val} (S : St prog w F B env ρ σ s) (hv : VRel F s.heap v a) (h : Q a σ) : EvP prog w F B env ρ σ s Q v s :=
  ⟨a, σ, hv, S, Go.refl _ _ _, h⟩
theorem TsP.now {Q : BPost} {b : Bool} (S : St prog w F B env ρ σ s) (h : Q b σ) : TsP prog w F B env ρ σ s Q b s :=
  ⟨σ, S, Go.refl _ _ _, h⟩
theorem TsP.pure {Q : BPost} {b : Bool} (S : St prog w F B env ρ σ s) (t : Nat) (h : Q b σ) : TsP prog w F B env ρ σ s Q b { s with toks := t } :=
  ⟨σ, S.tok t, Go.tok t, h⟩

theorem St.more {h' : Heap} {tk : Nat} (S : St prog w F B env ρ σ s) (hk : ∀ a o, a ≠ env.locals → s.heap.get? a = some o → h'.get? a = some o) (hn : ∀ m, s.heap.Ns env.locals m → h'.Ns env.locals m) :
    St prog w F B env ρ σ { s with heap := h', toks := tk } ∧ GoE env σ s σ { s with heap := h', toks := tk } := by
  obtain ⟨m, hm, hl⟩ := S.fra.rho.loc
  have hL : ∃ o, s.heap.get? env.locals = some o := let ⟨o, _, _, e, _⟩ := hm; ⟨o, e⟩
  have hL' : ∃ o, h'.get? env.locals = some o := let ⟨o, _, _, e, _⟩ := hn m hm; ⟨o, e⟩
  have g : GoE env σ s σ { s with heap := h', toks := tk } := by
    refine ⟨⟨_, _, rfl⟩, fun a o hp e _ => hk a o hp e, fun a o e => ?_, fun _ a b => absurd a b, fun _ a => a⟩
    by_cases ha : a = env.locals
    · subst ha; exact hL'
    · exact ⟨o, hk a o ha e⟩
  have fz := S.frozen g
  refine ⟨⟨⟨fun a o e => hk a o (by rintro rfl; rw [S.offB] at e; cases e) (S.inv.keep a o e), fun a o e => ⟨(S.inv.obj a o e).1, ?_⟩, S.inv.scr⟩, ⟨⟨⟨m, hn m hm, fun x a h1 h2 => ?_⟩, fun x a h1 h2 => ?_⟩, S.fra.offL, fun x c hc => ?_⟩, S.offB, S.offC⟩, g⟩
  · obtain ⟨ob, e1, _⟩ := ORel.live prog w F (S.inv.obj a o e).2
    have hne : a ≠ env.locals := by rintro rfl; rw [S.fra.offL] at e; cases e
    exact ORel.mono prog w F fz ((hk a ob hne e1).trans e1.symm) (S.inv.obj a o e).2
  · obtain ⟨v, h3, h4⟩ := hl x a h1 h2
    exact ⟨v, h3, h4.mono fz⟩
  · obtain ⟨c, v, h3, ⟨oc, h4, h5⟩, h6⟩ := S.fra.rho.cel x a h1 h2
    exact ⟨c, v, h3, ⟨oc, hk _ _ (S.fra.offC x c h3).2.1 h4, h5⟩, h6.mono fz⟩
  · obtain ⟨h1, h2, v, oc, h3, h4⟩ := S.fra.offC x c hc
    exact ⟨h1, h2, v, oc, hk _ _ h2 h3, h4⟩

theorem St.push (S : St prog w F B env ρ σ s) (o : Obj) (tk : Nat) : St prog w F B env ρ σ { s with heap := s.heap.push o, toks := tk } ∧ GoE env σ s σ { s with heap := s.heap.push o, toks := tk } :=
  S.more (fun a ob _ e => Heap.get?_push_of_some _ e) fun m hn => hn.push _

theorem St.freshOf (S : St prog w F B env ρ σ s) {c : Addr} (hc : s.heap.get? c = none) : σ c = none := by
  cases hs : σ c with
  | none => rfl
  | some ao => obtain ⟨ob, e1, _⟩ := ORel.live prog w F (S.inv.obj c ao hs).2; rw [hc] at e1; cases e1

theorem St.know (S : St prog w F B env ρ σ s) {c : Addr} {ao : AObj} (hB : B.get? c = none) (hL : c ≠ env.locals) (hC : ∀ x d, env.cells.lookup x = some d → d ≠ c) (ho : ORel prog w F s.heap c ao) :
    St prog w F B env ρ (σ.set c ao) s := by
  refine ⟨⟨S.inv.keep, fun a o e => ?_, S.inv.scr⟩, ⟨S.fra.rho, ?_, fun x d hd => ?_⟩, S.offB, S.offC⟩
  · unfold Store.set at e
    by_cases ha : a = c
    · subst ha; rw [if_pos rfl] at e; cases e; exact ⟨hB, ho⟩
    · rw [if_neg ha] at e; exact S.inv.obj a o e
  · unfold Store.set; rw [if_neg (Ne.symm hL)]; exact S.fra.offL
  · have h := S.fra.offC x d hd
    refine ⟨?_, h.2⟩
    unfold Store.set; rw [if_neg (hC x d hd)]; exact h.1

theorem St.alloc {h' : Heap} {tk : Nat} {c : Addr} {ao : AObj} (S : St prog w F B env ρ σ s) (hk : ∀ a o, a ≠ env.locals → s.heap.get? a = some o → h'.get? a = some o)
    (hn : ∀ m, s.heap.Ns env.locals m → h'.Ns env.locals m) (hc : s.heap.get? c = none) (ho : ORel prog w F h' c ao) :
    σ c = none ∧ St prog w F B env ρ (σ.set c ao) { s with heap := h', toks := tk } ∧ GoE env σ s (σ.set c ao) { s with heap := h', toks := tk } := by
  obtain ⟨S', g⟩ := S.more (tk := tk) hk hn
  have hs := S.freshOf hc
  refine ⟨hs, S'.know ?_ ?_ ?_ ho, ⟨g.same, g.keep, g.live, fun a h1 h2 => ?_, fun a h1 => ?_⟩⟩
  · cases e : B.get? c with
    | none => rfl
    | some o => have := S.inv.keep c o e; rw [hc] at this; cases this
  · rintro rfl
    obtain ⟨m, hm, _⟩ := S.fra.rho.loc
    obtain ⟨o, _, _, e, _⟩ := hm
    rw [hc] at e; cases e
  · rintro x d hd rfl
    obtain ⟨_, _, v, o, e, _⟩ := S.fra.offC x d hd
    rw [hc] at e; cases e
  · unfold Store.set at h2
    by_cases ha : a = c
    · subst ha; exact hc
    · rw [if_neg ha] at h2; exact absurd h1 h2
  · unfold Store.set
    by_cases ha : a = c
    · rw [if_pos ha]; simp
    · rw [if_neg ha]; exact h1

theorem EvP.alloc {Q : VPost} {o : Obj} {ao : AObj} {tk : Nat} (S : St prog w F B env ρ σ s) (ho : ORel prog w F (s.heap.push o) s.heap.objs.size ao) (h : ∀ c, σ c = none → Q (.ref c) (σ.set c ao)) :
    EvP prog w F B env ρ σ s Q (.ref s.heap.objs.size) { s with heap := s.heap.push o, toks := tk } := by
  have hc : s.heap.get? s.heap.objs.size = none := by
    cases e : s.heap.get? s.heap.objs.size with
    | none => rfl
    | some o => exact absurd (Heap.lt_size e) (Nat.lt_irrefl _)
  obtain ⟨h1, h2, h3⟩ := S.alloc (tk := tk) (h' := s.heap.push o) (fun a ob _ e => Heap.get?_push_of_some _ e) (fun m hn => hn.push _) hc ho
  exact ⟨_, _, .ref _, h2, h3, h _ h1⟩

theorem St.turn {h' : Heap} {tk : Nat} {c : Addr} {ao₀ ao : AObj} (S : St prog w F B env ρ σ s) (hc : σ c = some ao₀) (hk : ∀ a o, a ≠ c → s.heap.get? a = some o → h'.get? a = some o) (ho : ORel prog w F h' c ao) :
    St prog w F B env ρ (σ.set c ao) { s with heap := h', toks := tk } ∧ GoE env σ s (σ.set c ao) { s with heap := h', toks := tk } := by
  obtain ⟨hB, hO⟩ := S.inv.obj c ao₀ hc
  obtain ⟨ob, e1, e2⟩ := ORel.live prog w F hO
  obtain ⟨ob', e1', _⟩ := ORel.live prog w F ho
  have fz : ∀ a o, s.heap.get? a = some o → Frozen o → h'.get? a = some o := fun a o e hf => hk a o (by rintro rfl; rw [e1] at e; cases e; exact e2 hf) e
  have hLc : env.locals ≠ c := by intro q; have := S.fra.offL; rw [q, hc] at this; cases this
  have hdc : ∀ x d, env.cells.lookup x = some d → d ≠ c := by intro x d hd q; have := (S.fra.offC x d hd).1; rw [q, hc] at this; cases this
  obtain ⟨m, hm, hl⟩ := S.fra.rho.loc
  refine ⟨⟨⟨fun a o e => hk a o (by rintro rfl; rw [hB] at e; cases e) (S.inv.keep a o e), fun a o e => ?_, S.inv.scr⟩, ⟨⟨⟨m, hm.at' fun o e => hk _ o hLc e, fun x a h1 h2 => ?_⟩, fun x a h1 h2 => ?_⟩, ?_, fun x d hd => ?_⟩, S.offB, S.offC⟩,
    ⟨⟨_, _, rfl⟩, fun a o hp e hn => hk a o (by rintro rfl; rw [hc] at hn; cases hn) e, fun a o e => ?_, fun a h1 h2 => ?_, fun a h1 => ?_⟩⟩
  · unfold Store.set at e
    by_cases ha : a = c
    · subst ha; rw [if_pos rfl] at e; cases e; exact ⟨hB, ho⟩
    · rw [if_neg ha] at e
      obtain ⟨oa, e3, _⟩ := ORel.live prog w F (S.inv.obj a o e).2
      exact ⟨(S.inv.obj a o e).1, ORel.mono prog w F fz ((hk a oa ha e3).trans e3.symm) (S.inv.obj a o e).2⟩
  · obtain ⟨v, h3, h4⟩ := hl x a h1 h2
    exact ⟨v, h3, h4.mono fz⟩
  · obtain ⟨d, v, h3, ⟨oc, h4, h5⟩, h6⟩ := S.fra.rho.cel x a h1 h2
    exact ⟨d, v, h3, ⟨oc, hk _ _ (hdc x d h3) h4, h5⟩, h6.mono fz⟩
  · unfold Store.set; rw [if_neg hLc]; exact S.fra.offL
  · obtain ⟨h1, h2, v, oc, h3, h4⟩ := S.fra.offC x d hd
    refine ⟨?_, h2, v, oc, hk _ _ (hdc x d hd) h3, h4⟩
    unfold Store.set; rw [if_neg (hdc x d hd)]; exact h1
  · by_cases ha : a = c
    · subst ha; exact ⟨ob', e1'⟩
    · exact ⟨o, hk a o ha e⟩
  · unfold Store.set at h2
    by_cases ha : a = c
    · subst ha; rw [hc] at h1; cases h1
    · rw [if_neg ha] at h2; exact absurd h1 h2
  · unfold Store.set
    by_cases ha : a = c
    · rw [if_pos ha]; simp
    · rw [if_neg ha]; exact h1

noncomputable def allBut (L : Addr) (h : Heap) : List (Addr × Obj) := (List.range h.objs.size).filterMap fun a => if a = L then none else (h.get? a).map (a, ·)
theorem mem_allBut {L : Addr} {h : Heap} {a : Addr} {o : Obj} (hn : a ≠ L) (e : h.get? a = some o) : (a, o) ∈ allBut L h := by
  unfold allBut
  refine List.mem_filterMap.mpr ⟨a, List.mem_range.mpr (Heap.lt_size e), ?_⟩
  rw [if_neg hn, e]; rfl
theorem of_allBut {L : Addr} {h : Heap} {p : Addr × Obj} (hp : p ∈ allBut L h) : p.1 ≠ L ∧ h.get? p.1 = some p.2 := by
  unfold allBut at hp
  obtain ⟨a, _, e⟩ := List.mem_filterMap.mp hp
  split at e
  · cases e
  · rename_i hne
    obtain ⟨o, h1, h2⟩ := Option.map_eq_some_iff.mp e
    subst h2; exact ⟨hne, h1⟩
noncomputable def noHeap : Heap := {}
theorem noHeap_get (a : Addr) : noHeap.get? a = none := by simp [noHeap, Heap.get?]
theorem fr_all {L : Addr} {h : Heap} {m : Str → Option Value} (hn : h.Ns L m) : Fr noHeap L h m := ⟨hn, fun b o e => (by rw [noHeap_get] at e; cases e), Nat.zero_le _⟩
theorem news_all {L : Addr} {h : Heap} : News noHeap L h (allBut L h) := fun p hp => ⟨(of_allBut hp).2, (of_allBut hp).1, noHeap_get _⟩

theorem EvP.news {Q : VPost} {o : Obj} {ao : AObj} {h' : Heap} {m : Str → Option Value} {tk : Nat} (S : St prog w F B env ρ σ s) (hm : s.heap.Ns env.locals m) (F' : Fr noHeap env.locals h' m)
    (N' : News noHeap env.locals h' ((s.heap.objs.size, o) :: allBut env.locals s.heap)) (ho : ORel prog w F h' s.heap.objs.size ao) (h : ∀ c, σ c = none → Q (.ref c) (σ.set c ao)) :
    EvP prog w F B env ρ σ s Q (.ref s.heap.objs.size) { s with heap := h', toks := tk } := by
  have hc : s.heap.get? s.heap.objs.size = none := by
    cases e : s.heap.get? s.heap.objs.size with
    | none => rfl
    | some o => exact absurd (Heap.lt_size e) (Nat.lt_irrefl _)
  have hu : ∀ m', s.heap.Ns env.locals m' → m' = m := by
    rintro m' ⟨o1, es1, ep1, e1, d1, k1, f1⟩
    obtain ⟨o2, es2, ep2, e2, d2, k2, f2⟩ := hm
    rw [e1] at e2; cases e2; rw [d1] at d2; cases d2
    funext x; rw [← f1, ← f2]
  obtain ⟨h1, h2, h3⟩ := S.alloc (tk := tk) (h' := h') (fun a ob hne e => (N' (a, ob) (.tail _ (mem_allBut hne e))).1) (fun m' hn => by rw [hu m' hn]; exact F'.ns) hc ho
  exact ⟨_, _, .ref _, h2, h3, h _ h1⟩
end

end Mine

set_option linter.unusedVariables false
namespace Mine
open PySem PyProof.Rows

section
variable {prog : Program} {w : World} {F : Tab} {B : Heap} {env : Env} {ρ : Rho} {σ σ₁ σ' : Store} {s s₁ s' : Shared} {A : Around} {E : Value → Shared → Prop}

theorem short_bits {x : Int} (h : short x) : Builtin.Int.intBits x ≤ 64 := intBits_le_64 (by unfold short at h; lia) (by unfold short at h; lia)
theorem short_pylong {x y : Int} (h : short y) : Builtin.divisionGoesByPylong x y = false := by
  refine PyProof.noPylong_of_log2 ?_
  rcases Nat.eq_zero_or_pos y.natAbs with h0 | hp
  · rw [h0]; decide
  · have : y.natAbs.log2 < 64 := (Nat.log2_lt (Nat.ne_of_gt hp)).mpr h
    exact (Nat.not_le.mp fun z => fk [↑(y.natAbs.log2)] [(1, .a (.x 0) (.k 1), .k 64), (1, .k 9000, .x 0)] rfl (Int.ofNat_le.mpr this) (Int.ofNat_le.mpr z))

theorem St.ns (S : St prog w F B env ρ σ s) : ∃ m, s.heap.Ns env.locals m := let ⟨m, hm, _⟩ := S.fra.rho.loc; ⟨m, hm⟩
theorem cap_line : cap ≤ sizeLine := by rw [sizeLine_eq]; decide

theorem St.listAt (S : St prog w F B env ρ σ s) {p : Addr} {xs : List Val} (h : σ p = some (.list xs)) : ∃ items n, s.heap.get? p = some { cls := .type "list", data := .seq items n } ∧ VRels F s.heap items.toList xs ∧ xs.length ≤ cap := (S.inv.obj p _ h).2

theorem binop_sound {op : Operator} {a b : Val} {va vb : Value} {Q : VPost} (S : St prog w F B env ρ σ s) (ha : VRel F s.heap va a) (hb : VRel F s.heap vb b) (h : binop op a b σ Q) :
    wpAny (model prog w) A (binaryOp op va vb) (EvP prog w F B env ρ σ s Q) E s := by
  have add : intOp (fun x y => Q (.int (x + y)) σ) a b → wpAny (model prog w) A (binaryOp .Add va vb) (EvP prog w F B env ρ σ s Q) E s := by
    intro h
    obtain ⟨x, y, rfl, rfl, h⟩ := intOp_is h
    obtain ⟨t, rfl⟩ := ha.toInt
    obtain ⟨u, rfl⟩ := hb.toInt
    exact P.add_int (EvP.pure S _ (.int _ _) h)
  have mul : intOp (fun x y => (short x ∨ short y) ∧ Q (.int (x * y)) σ) a b → wpAny (model prog w) A (binaryOp .Mult va vb) (EvP prog w F B env ρ σ s Q) E s := by
    intro h
    obtain ⟨x, y, rfl, rfl, h⟩ := intOp_is h
    obtain ⟨t, rfl⟩ := ha.toInt
    obtain ⟨u, rfl⟩ := hb.toInt
    refine P.mul_int (EvP.pure S _ (.int _ _) h.2) ?_
    rcases h.1 with h1 | h1
    · exact IntMulOk.of_left (short_bits h1)
    · exact IntMulOk.of_right (short_bits h1)
  cases op with
  | Add =>
    rcases h with h | ⟨p, q, xs, ys, ⟨rfl, rfl, hp, hq⟩, h⟩
    · exact add h
    · clear add mul
      obtain rfl := ha.toRef
      obtain rfl := hb.toRef
      obtain ⟨i1, n1, e1, r1, z1⟩ := S.listAt hp
      obtain ⟨i2, n2, e2, r2, z2⟩ := S.listAt hq
      obtain ⟨m, hm⟩ := S.ns
      have hl1 := r1.length
      have hl2 := r2.length
      have hc := cap_line
      refine add_arrays (fr_all hm) news_all ⟨_, e1, rfl, n1, rfl⟩ ⟨_, e2, rfl, n2, rfl⟩ (fun h' F' N' => EvP.news S hm F' N' ?_ h.2) (by simp only [Array.length_toList] at hl1 hl2; exact (Nat.not_lt.mp fun z => fk [↑(xs.length), ↑(ys.length), ↑(cap), ↑(i1.size), ↑(i2.size), ↑(sizeLine)] [(1, .a (.x 0) (.x 1), .x 2), (1, .x 3, .x 0), (1, .x 4, .x 1), (1, .x 2, .x 5), (1, .a (.x 5) (.k 1), .a (.x 3) (.x 4))] rfl (Int.ofNat_le.mpr (h).1) (Int.ofNat_le.mpr (Nat.le_of_eq hl1)) (Int.ofNat_le.mpr (Nat.le_of_eq hl2)) (Int.ofNat_le.mpr hc) (Int.ofNat_le.mpr z)))
      have hk : ∀ a o, s.heap.get? a = some o → Frozen o → h'.get? a = some o := fun a o e hf => (N' (a, o) (.tail _ (mem_allBut (by rintro rfl; exact ns_thaw hm o e hf) e))).1
      exact ⟨_, _, (N' _ (.head _)).1, by simpa using (r1.mono hk).append (r2.mono hk), by simpa using h.1⟩
  | Sub =>
    obtain ⟨x, y, rfl, rfl, h⟩ := intOp_is h
    obtain ⟨t, rfl⟩ := ha.toInt
    obtain ⟨u, rfl⟩ := hb.toInt
    exact P.sub_int (EvP.pure S _ (.int _ _) h)
  | Mult =>
    rcases h with h | ⟨p, n, x, ⟨rfl, rfl, hp⟩, h⟩
    · exact mul h
    · clear add mul
      obtain rfl := ha.toRef
      obtain ⟨t, rfl⟩ := hb.toInt
      obtain ⟨i1, n1, e1, r1, z1⟩ := S.listAt hp
      obtain ⟨m, hm⟩ := S.ns
      have hl1 := r1.length
      have hz : i1.size = 1 := by simpa using hl1
      have hc : cap = 1000000 := rfl
      refine mul_list (fr_all hm) news_all e1 (by lia) (by lia) (by rw [hz]; lia) (fun h' F' N' => EvP.news S hm F' N' ?_ h.2)
      have hk : ∀ a o, s.heap.get? a = some o → Frozen o → h'.get? a = some o := fun a o e hf => (N' (a, o) (.tail _ (mem_allBut (by rintro rfl; exact ns_thaw hm o e hf) e))).1
      refine ⟨_, _, (N' _ (.head _)).1, ?_, by rw [List.length_replicate]; exact (Nat.not_lt.mp fun z => fk [(n), ↑(cap), ↑(n.toNat)] [(1, .x 0, .x 1), (1, .a (.x 1) (.k 1), .x 2), (1, .x 2, .x 0)] rfl ((h).1).2 (Int.ofNat_le.mpr z) (Int.le_of_eq (Int.toNat_of_nonneg (Int.not_lt.mp fun z => fk [(n)] [(1, .k 0, .x 0), (1, .a (.x 0) (.k 1), .k 0)] rfl ((h).1).1 z))))⟩
      obtain ⟨l⟩ := i1
      obtain ⟨y, rfl, hy⟩ := VRels.one r1
      · have : (List.foldl (fun x1 x2 => x1 ++ x2) #[] (List.replicate (if (#[y] : Array Value).isEmpty = true then 0 else n.toNat) #[y])).toList = List.replicate n.toNat y := by
          have : (#[y] : Array Value).isEmpty = false := rfl
          rw [this]
          simp only [Bool.false_eq_true, if_false]
          generalize n.toNat = k
          have gen : ∀ (acc : Array Value), (List.foldl (fun x1 x2 => x1 ++ x2) acc (List.replicate k #[y])).toList = acc.toList ++ List.replicate k y := by
            induction k with
            | zero => intro acc; simp
            | succ k ih => intro acc; rw [List.replicate_succ, List.foldl_cons, ih, List.replicate_succ]; simp
          simpa using gen #[]
        rw [this]
        exact VRels.replicate (hy.mono hk) _
  | FloorDiv =>
    obtain ⟨x, y, rfl, rfl, h⟩ := intOp_is h
    obtain ⟨t, rfl⟩ := ha.toInt
    obtain ⟨u, rfl⟩ := hb.toInt
    refine floordiv_int (by lia) (EvP.pure S _ ?_ h.2) (.inl (short_pylong h.1.2))
    rw [Int.fdiv_eq_ediv_of_nonneg _ (Int.le_of_lt h.1.1)]; exact .int _ _
  | Mod =>
    obtain ⟨x, y, rfl, rfl, h⟩ := intOp_is h
    obtain ⟨t, rfl⟩ := ha.toInt
    obtain ⟨u, rfl⟩ := hb.toInt
    refine mod_int' (by lia) (EvP.pure S _ ?_ h.2)
    rw [Int.fmod_eq_emod_of_nonneg _ (Int.le_of_lt h.1)]; exact .int _ _
  | Pow =>
    obtain ⟨x, y, rfl, rfl, ⟨rfl, h0, h1⟩, h2⟩ := intOp_is h
    obtain ⟨t, rfl⟩ := ha.toInt
    obtain ⟨u, rfl⟩ := hb.toInt
    exact pow_int_small h0 (by exact (Int.not_lt.mp fun z => fk [(y)] [(1, .x 0, .k 30), (1, .a (.k 1000000) (.k 1), .x 0)] rfl h1 z)) (by decide) (EvP.pure S _ (.int _ _) h2)
  | _ => exact False.elim h

noncomputable def dataP (ps : List (Int × Int)) : List PyData := ps.map fun p => .tuple [.int p.1, .int p.2]
theorem pairs_read {h : Heap} {ps : List (Int × Int)} {vs : List Value} (r : VRels F h vs (pairsV ps)) : ∃ bs, ReadsAll h vs (dataP ps) bs := by
  induction ps generalizing vs with
  | nil => obtain rfl := r.zero; exact ⟨_, .nil⟩
  | cons p ps ih =>
    obtain ⟨v, us, rfl, x, r⟩ := r.uncons
    obtain ⟨bs, hb⟩ := ih r
    obtain ⟨a, o, items, n, rfl, e, c, d, r2, _⟩ := x.toTup
    obtain ⟨u1, u2, hi, x1, x2⟩ := r2.two
    obtain ⟨t1, rfl⟩ := x1.toInt
    obtain ⟨t2, rfl⟩ := x2.toInt
    exact ⟨_, .cons (.tuple e c d (by rw [hi]; exact .cons (.int _ _) (.cons (.int _ _) .nil))) hb⟩
theorem pairs_lay (ps : List (Int × Int)) : PyData.canLayAll0 (dataP ps) = true ∧ PyData.depthAll (dataP ps) ≤ 2 ∧ PyData.eqvAll (dataP ps) (dataP ps) = true := by
  induction ps with
  | nil => exact ⟨rfl, by decide, rfl⟩
  | cons p ps ih =>
    obtain ⟨h1, h2, h3⟩ := ih
    refine ⟨?_, ?_, ?_⟩
    · show (_ && PyData.canLayAll0 (dataP ps)) = true
      rw [h1]; rfl
    · show PyData.depthAll (.tuple [.int p.1, .int p.2] :: dataP ps) ≤ 2
      simp only [PyData.depthAll, PyData.depth]
      omega
    · show (PyData.eqvAll [.int p.1, .int p.2] [.int p.1, .int p.2] && PyData.eqvAll (dataP ps) (dataP ps)) = true
      rw [h3, Bool.and_true]
      simp [PyData.eqvAll, PyData.eqv]
theorem pairs_eq {p q : Addr} {ps : List (Int × Int)} {Q : Value → Shared → Prop} (S : St prog w F B env ρ σ s) (hp : σ p = some (.list (pairsV ps))) (hq : σ q = some (.list (pairsV ps))) (hu : A.units + 70 < cLine) (k : Q (.bool true) s) : wpAny (model prog w) A (compareOp .Eq (.ref p) (.ref q)) Q E s := by
  obtain ⟨i1, n1, e1, r1, z1⟩ := S.listAt hp
  obtain ⟨i2, n2, e2, r2, z2⟩ := S.listAt hq
  obtain ⟨b1, q1⟩ := pairs_read r1
  obtain ⟨b2, q2⟩ := pairs_read r2
  obtain ⟨l1, l2, l3⟩ := pairs_lay ps
  have sh : SeqAt.shaped (.list (dataP ps)) = true := by
    unfold SeqAt.shaped
    rw [show (PyData.list (dataP ps)).canLay0 = PyData.canLayAll0 (dataP ps) from rfl, l1, Bool.true_and]
    exact decide_eq_true (Nat.le_trans (Nat.succ_le_succ l2) (by decide))
  have ev : PyData.eqv (.list (dataP ps)) (.list (dataP ps)) = true := l3
  exact eq_dataH (.list e1 rfl rfl q1) (.list e2 rfl rfl q2) sh sh (by lia) (by rw [ev]; exact k)
theorem PRel.at {h : Heap} {k : Int × Int} : ∀ {xs : List (List Int × Addr × Value)} {es : List ((Int × Int) × Val)}, PRel F h xs es →
    (∀ v, lookP k es = some v → ∃ p, atKey xs [k.1, k.2] = some p ∧ VRel F h p.2 v) ∧ (lookP k es = none → atKey xs [k.1, k.2] = none)
  | [], [], _ => ⟨fun v e => by simp [lookP] at e, fun _ => rfl⟩
  | x :: xs, e :: es, ⟨h1, h2, h3⟩ => by
    have ih := PRel.at (k := k) h3
    obtain ⟨⟨e1, e2⟩, ev⟩ := e
    obtain ⟨k1, k2⟩ := k
    by_cases hk : (e1, e2) = (k1, k2)
    · cases hk
      simp only at h1
      refine ⟨fun v hv => ?_, fun hv => ?_⟩
      · simp only [lookP, if_true, Option.some.injEq] at hv
        subst hv
        exact ⟨x.2, by simp [atKey, h1], h2⟩
      · simp [lookP] at hv
    · have hne : ¬ x.1 = [k1, k2] := by
        rw [h1]; intro q; simp only [List.cons.injEq, and_true] at q; exact hk (by rw [q.1, q.2])
      simp only [lookP, if_neg hk]
      simpa [atKey, hne] using ih
theorem PRel.length {h : Heap} : ∀ {xs : List (List Int × Addr × Value)} {es : List ((Int × Int) × Val)}, PRel F h xs es → xs.length = es.length
  | [], [], _ => rfl
  | _ :: _, _ :: _, ⟨_, _, r⟩ => by simp [PRel.length r]
theorem PRel.snoc {h : Heap} {x : List Int × Addr × Value} {e : (Int × Int) × Val} (h1 : x.1 = [e.1.1, e.1.2]) (h2 : VRel F h x.2.2 e.2) : ∀ {xs : List (List Int × Addr × Value)} {es : List ((Int × Int) × Val)}, PRel F h xs es → PRel F h (xs ++ [x]) (es ++ [e])
  | [], [], _ => ⟨h1, h2, trivial⟩
  | _ :: _, _ :: _, ⟨a, b, r⟩ => ⟨a, b, PRel.snoc h1 h2 r⟩
theorem putP_none {k : Int × Int} {v : Val} : ∀ {es : List ((Int × Int) × Val)}, lookP k es = none → putP k v es = es ++ [(k, v)]
  | [], _ => rfl
  | (j, u) :: r, h => by
    unfold lookP at h
    split at h
    · cases h
    · rename_i hne; rw [putP, if_neg hne, putP_none h]; rfl
theorem PRel.put {h : Heap} {k : Int × Int} {v : Value} {a : Val} (hv : VRel F h v a) : ∀ {xs : List (List Int × Addr × Value)} {es : List ((Int × Int) × Val)}, PRel F h xs es → (xs.map (·.1)).Nodup →
    (lookP k es).isSome = true → PRel F h (xs.map (putAt [k.1, k.2] v)) (putP k a es)
  | [], [], _, _, e => by simp [lookP] at e
  | x :: xs, e :: es, ⟨h1, h2, h3⟩, hn, hs => by
    obtain ⟨⟨e1, e2⟩, ev⟩ := e
    obtain ⟨k1, k2⟩ := k
    rw [List.map_cons, List.nodup_cons] at hn
    by_cases hk : (e1, e2) = (k1, k2)
    · cases hk
      simp only at h1
      have hnm : [e1, e2] ∉ xs.map (·.1) := h1 ▸ hn.1
      rw [List.map_cons, map_putAt_of_not_mem xs _ _ hnm, putP, if_pos rfl]
      refine ⟨?_, ?_, h3⟩
      · simp [putAt, h1]
      · simp [putAt, h1]; exact hv
    · have hne : ¬ x.1 = [k1, k2] := by
        rw [h1]; intro q; simp only [List.cons.injEq, and_true] at q; exact hk (by rw [q.1, q.2])
      rw [List.map_cons, putP, if_neg hk]
      refine ⟨?_, ?_, PRel.put hv h3 hn.2 (by simpa [lookP, hk] using hs)⟩
      · simp only [putAt, if_neg hne]; exact h1
      · simp only [putAt, if_neg hne]; exact h2
theorem PRel.stored {h : Heap} {k : Int × Int} {v : Value} {a : Val} {c : Addr} (hv : VRel F h v a) {xs : List (List Int × Addr × Value)} {es : List ((Int × Int) × Val)} (r : PRel F h xs es) (hn : (xs.map (·.1)).Nodup) :
    PRel F h (storedH xs [k.1, k.2] c v) (putP k a es) := by
  have q := r.at (k := k)
  cases hl : lookP k es with
  | none =>
    rw [storedH_new (q.2 hl), putP_none hl]
    exact PRel.snoc rfl hv r
  | some u =>
    obtain ⟨p, hp, _⟩ := q.1 u hl
    rw [storedH_old hp]
    exact PRel.put hv r hn (by rw [hl]; rfl)

theorem pair_key {h : Heap} {v : Value} {k : Int × Int} (hv : VRel F h v (.tup [.int k.1, .int k.2])) : ∃ a, v = .ref a ∧ IsTupleKey (intKind prog w) h [k.1, k.2] a := by
  cases hv with
  | tup e c d r z =>
    rename_i a o items n
    refine ⟨a, rfl, _, items, n, e, c, d, ?_⟩
    generalize items.toList = l at r
    obtain ⟨x, y, rfl, h1, h2⟩ := r.two
    · obtain ⟨_, rfl⟩ := h1.toInt
      obtain ⟨_, rfl⟩ := h2.toInt
      exact .cons (intKind_is prog w _ _) (.cons (intKind_is prog w _ _) .nil)
theorem sys_off (S : St prog w F B env ρ σ s) (hB : ∃ o, B.get? sysModules = some o) {d : Addr} {o : AObj} (h : σ d = some o) : (d == sysModules) = false := by
  rw [beq_eq_false_iff_ne]
  rintro rfl
  obtain ⟨ob, e⟩ := hB
  have := (S.inv.obj _ _ h).1
  rw [e] at this; cases this

theorem cmpop_sound {op : CmpOp} {a b : Val} {va vb : Value} {Q : BPost} (S : St prog w F B env ρ σ s) (hB : ∃ o, B.get? sysModules = some o) (ha : VRel F s.heap va a) (hb : VRel F s.heap vb b) (h : cmpop op a b σ Q) (hu : A.units + 70 < cLine) :
    wpAny (model prog w) A (compareOp op va vb) (fun v s' => ∃ r, v = .bool r ∧ TsP prog w F B env ρ σ s Q r s') E s := by
  have two : ∀ {f : Int → Int → Prop}, intOp f a b → ∃ x y t u, va = .int x t ∧ vb = .int y u ∧ f x y := fun h => by
    obtain ⟨x, y, rfl, rfl, h⟩ := intOp_is h
    obtain ⟨t, rfl⟩ := ha.toInt
    obtain ⟨u, rfl⟩ := hb.toInt
    exact ⟨x, y, t, u, rfl, rfl, h⟩
  cases op with
  | Lt => obtain ⟨x, y, t, u, rfl, rfl, hq⟩ := two h; exact P.lt_int ⟨_, rfl, TsP.now S hq⟩
  | LtE => obtain ⟨x, y, t, u, rfl, rfl, hq⟩ := two h; exact P.le_int ⟨_, rfl, TsP.now S hq⟩
  | Gt => obtain ⟨x, y, t, u, rfl, rfl, hq⟩ := two h; exact P.gt_int ⟨_, rfl, TsP.now S hq⟩
  | GtE => obtain ⟨x, y, t, u, rfl, rfl, hq⟩ := two h; exact P.ge_int ⟨_, rfl, TsP.now S hq⟩
  | Eq =>
    rcases h with h | ⟨p, q, ps, ⟨rfl, rfl, h1, h2⟩, hq⟩
    · obtain ⟨x, y, t, u, rfl, rfl, hq⟩ := two h; exact P.eq_int ⟨_, rfl, TsP.now S hq⟩
    · obtain rfl := ha.toRef
      obtain rfl := hb.toRef
      exact pairs_eq S h1 h2 hu ⟨_, rfl, TsP.now S hq⟩
  | NotEq => obtain ⟨x, y, t, u, rfl, rfl, hq⟩ := two h; exact P.ne_int ⟨_, rfl, TsP.now S hq⟩
  | In =>
    obtain ⟨d, es, k, l, ⟨rfl, rfl, hd⟩, hq⟩ := h
    obtain rfl := hb.toRef
    obtain ⟨xs, hD, hR, hz⟩ := (S.inv.obj d _ hd).2
    obtain ⟨t, rfl, hkey⟩ := pair_key (prog := prog) (w := w) (k := (k, l)) ha
    have q := hR.at (k := (k, l))
    have e : (atKey xs [k, l]).isSome = (lookP (k, l) es).isSome := by
      cases hl : lookP (k, l) es with
      | none => rw [q.2 hl]; rfl
      | some u => obtain ⟨p, hp, _⟩ := q.1 u hl; rw [hp]; rfl
    exact wpAny_in_heap (knd := tupleKind (intKind prog w)) (tupleKind_room_in1 (by lia)) hkey (sys_off S hB hd) hD (by rw [e]; exact ⟨_, rfl, TsP.pure S _ hq⟩)
  | _ => exact False.elim h

theorem truth_sound {a : Val} {v : Value} {Q : BPost} (S : St prog w F B env ρ σ s) (ha : VRel F s.heap v a) (h : truth a σ Q) :
    wpAny (model prog w) A (truthy v) (TsP prog w F B env ρ σ s Q) E s := by
  rcases h with ⟨rfl, h⟩ | ⟨b, rfl, h⟩ | ⟨i, rfl, h⟩ | ⟨p, xs, ⟨rfl, hp⟩, h⟩
  · obtain rfl := ha.toNone; exact truthy_none (TsP.now S h)
  · obtain rfl := ha.toBool; exact wpAny_truthy_bool (TsP.now S h)
  · obtain ⟨t, rfl⟩ := ha.toInt; exact P.truthy_int (TsP.now S h)
  · obtain rfl := ha.toRef
    obtain ⟨i1, n1, e1, r1, z1⟩ := S.listAt hp
    have hl := r1.length
    have hc : cap = 1000000 := rfl
    rw [Array.length_toList] at hl
    refine wpAny_truthy_list (items := i1) ⟨_, e1, rfl, n1, rfl⟩ (by lia) ?_
    have e : (!i1.isEmpty) = (!xs.isEmpty) := by
      rw [Array.isEmpty, hl]
      cases xs <;> rfl
    rw [e]; exact TsP.pure S _ h

end
end Mine

set_option linter.unusedVariables false
namespace Mine
open PySem PyProof.Rows

section
variable {prog : Program} {w : World} {F : Tab} {B : Heap} {env : Env} {ρ : Rho} {σ σ₁ σ' : Store} {s s₁ s' : Shared} {A : Around} {E : Value → Shared → Prop}

theorem normIdx_eq {i : Int} {n j : Nat} (h : normIdx i n = some j) : seqIndex? i n = some j ∧ j < n ∧ (0 ≤ i → j = i.toNat) ∧ (i < 0 → -(n : Int) ≤ i ∧ j = (i + n).toNat) := by
  unfold normIdx at h
  split at h
  · split at h
    · cases h
      refine ⟨?_, by lia, fun _ => rfl, fun h => by lia⟩
      have e : (if i < 0 then i + (n : Int) else i) = i := if_neg (by lia)
      unfold seqIndex?
      simp only [e]
      rw [if_pos (by simp; lia)]
    · cases h
  · split at h
    · cases h
      refine ⟨?_, by lia, fun h => by lia, fun _ => ⟨by lia, rfl⟩⟩
      have e : (if i < 0 then i + (n : Int) else i) = i + n := if_pos (by lia)
      unfold seqIndex?
      simp only [e]
      rw [if_pos (by simp; lia)]
    · cases h

theorem VRels.ofInts {h : Heap} {vs : List Value} {l : List Int} (x : IntsAre vs l) : VRels F h vs (Mine.ofInts l) := by
  induction x with
  | nil => exact .nil
  | cons n t _ ih => exact .cons (.int _ _) ih
theorem index_sound {p : Addr} {items : Array Value} {xs : List Val} {k : Int} {u : Tok} {j : Nat} {v : Val} {value slice : Expr} {Q : VPost} (S : St prog w F B env ρ σ s) (hL : s.heap.IsList p items) (r : VRels F s.heap items.toList xs) (hz : xs.length ≤ cap)
    (hj : normIdx k xs.length = some j) (hv : xs[j]? = some v) (h : Q v σ) (hs : ∀ o i, subscripted slice false o i = operate [o, i] (getItem o i)) :
    wpAny (model prog w) A (subscriptTail value slice (.ref p) (.int k u)) (EvP prog w F B env ρ σ s Q) E s := by
  have hc : cap = 1000000 := rfl
  have hl := r.length
  rw [Array.length_toList] at hl
  obtain ⟨q1, q2, q3, q4⟩ := normIdx_eq hj
  obtain ⟨x, hx, hr⟩ := r.get hv
  rw [Array.getElem?_toList] at hx
  refine tail_any hL.typeIs slot_list_getitem.lookup ?_ (hs _ _)
  rcases Int.lt_or_le k 0 with h0 | h0
  · obtain ⟨a1, a2⟩ := q4 h0
    refine wpAny_getItem_list_neg hL h0 (by rw [hl]; exact a1) (by lia) ?_ (EvP.now S hr h)
    rw [hl, ← a2]; exact hx
  · have a1 := q3 h0
    refine wpAny_getItem_list hL h0 (by lia) ?_ (EvP.now S hr h)
    rw [← a1]; exact hx
theorem subscr_sound {a i : Val} {va vi : Value} {value slice : Expr} {Q : VPost} (S : St prog w F B env ρ σ s) (ha : VRel F s.heap va a) (hi : VRel F s.heap vi i) (h : subscr a i σ Q)
    (hs : ∀ o i, subscripted slice false o i = operate [o, i] (getItem o i)) (hu : A.units + 70 < cLine) :
    wpAny (model prog w) A (subscriptTail value slice va vi) (EvP prog w F B env ρ σ s Q) E s := by
  have hc : cap = 1000000 := rfl
  rcases h with ⟨vs, k, j, v, ⟨rfl, rfl⟩, hj, hv, h⟩ | ⟨l, k, j, v, ⟨rfl, rfl⟩, hj, hv, h⟩ | ⟨p, xs, k, j, v, ⟨rfl, rfl, hp⟩, hj, hv, h⟩ | ⟨p, es, k, l, v, ⟨rfl, rfl, hp⟩, hv, h⟩
  · obtain ⟨u, rfl⟩ := hi.toInt
    obtain ⟨t, o, items, n, rfl, e, c, d, r, z⟩ := ha.toTup
    have hl := r.length
    obtain ⟨q1, q2, q3, q4⟩ := normIdx_eq hj
    obtain ⟨x, hx, hr⟩ := r.get hv
    rw [Array.length_toList] at hl
    rw [Array.getElem?_toList] at hx
    refine tail_any (o := .ref t) ⟨_, e, c⟩ slot_tuple_getitem.lookup (getItem_tuple (items := items) ⟨_, e, c, n, d⟩ ?_ ?_ (by rw [hl]; exact q1) hx (EvP.now S hr h)) (hs _ _)
    · rcases Int.lt_or_le k 0 with h0 | h0
      · have := (q4 h0).1; lia
      · lia
    · rcases Int.lt_or_le k 0 with h0 | h0
      · lia
      · have := q3 h0; lia
  · obtain ⟨u, rfl⟩ := hi.toInt
    obtain ⟨a, rfl, e⟩ := ha.toScr
    obtain ⟨items, hL, e2, e3⟩ := S.inv.scr _ _ e
    obtain ⟨o, e1, c1, n, d1⟩ := hL
    exact index_sound S ⟨o, S.inv.keep _ _ e1, c1, n, d1⟩ (VRels.ofInts e2) (by rw [Mine.ofInts, List.length_map]; exact e3) (by rw [Mine.ofInts, List.length_map]; exact hj) (by rw [Mine.ofInts, List.getElem?_map, hv]; rfl) h hs
  · obtain ⟨u, rfl⟩ := hi.toInt
    obtain rfl := ha.toRef
    obtain ⟨i1, n1, e1, r1, z1⟩ := S.listAt hp
    exact index_sound S ⟨_, e1, rfl, n1, rfl⟩ r1 z1 hj hv h hs
  · obtain rfl := ha.toRef
    obtain ⟨xs, hD, hR, hz⟩ := (S.inv.obj p _ hp).2
    obtain ⟨t, rfl, hkey⟩ := pair_key (k := (k, l)) (prog := prog) (w := w) hi
    obtain ⟨q, hq, hr⟩ := (hR.at (k := (k, l))).1 v hv
    exact tail_any hD.typeIs slot_dict_getitem.lookup (wpAny_getItem_heap (knd := tupleKind (intKind prog w)) (tupleKind_room_in1 (by lia)) hkey hD hq (EvP.pure S _ hr h)) (hs _ _)

theorem putP_length (k : Int × Int) (v : Val) : ∀ es, (putP k v es).length ≤ es.length + 1
  | [] => by simp [putP]
  | (j, u) :: es => by
    have := putP_length k v es
    unfold putP; split <;> simp <;> lia

theorem setitem_sound {a i v : Val} {va vi vv : Value} {Q : Store → Prop} (S : St prog w F B env ρ σ s) (ha : VRel F s.heap va a) (hi : VRel F s.heap vi i) (hv : VRel F s.heap vv v) (h : setitem a i v σ Q) (hu : A.units + 70 < cLine) :
    wpAny (model prog w) A (setItem va vi vv) (UnP prog w F B env ρ σ s Q) E s := by
  have hc : cap = 1000000 := rfl
  rcases h with ⟨p, xs, k, ⟨rfl, rfl, hp⟩, ⟨h0, h1⟩, h⟩ | ⟨p, es, k, l, ⟨rfl, rfl, hp⟩, hlt, h⟩
  · obtain ⟨u, rfl⟩ := hi.toInt
    obtain rfl := ha.toRef
    obtain ⟨i1, n1, e1, r1, z1⟩ := S.listAt hp
    have hl := r1.length
    simp only [Array.length_toList] at hl
    · refine W.ki_setAt e1 h0 (by lia) (by lia) ?_
      have hk : ∀ a o, a ≠ p → s.heap.get? a = some o → (s.heap.update p (Obj.mapSeq (·.setIfInBounds k.toNat vv))).get? a = some o := fun a o hne e => (Heap.get?_update_ne _ _ _ _ hne).trans e
      have ep : (s.heap.update p (Obj.mapSeq (·.setIfInBounds k.toNat vv))).get? p = some { cls := .type "list", data := .seq (i1.setIfInBounds k.toNat vv) n1 } := by
        refine (Heap.get?_update_self _ e1 rfl).trans ?_
        simp [Obj.mapSeq]
      have fz : ∀ a o, s.heap.get? a = some o → Frozen o → (s.heap.update p (Obj.mapSeq (·.setIfInBounds k.toNat vv))).get? a = some o := fun a o e hf => hk a o (by rintro rfl; rw [e1] at e; cases e; simp [Frozen] at hf) e
      obtain ⟨S', g⟩ := S.turn (tk := s.toks) hp hk (ao := .list (xs.set k.toNat v)) ⟨_, _, ep, by rw [Array.toList_setIfInBounds]; exact VRels.set (hv.mono fz) (r1.mono fz) _, by simpa using z1⟩
      exact ⟨_, S', g, h⟩
  · obtain rfl := ha.toRef
    obtain ⟨xs, hD, hR, hz⟩ := (S.inv.obj p _ hp).2
    obtain ⟨t, rfl, hkey⟩ := pair_key (k := (k, l)) (prog := prog) (w := w) hi
    have hlen := hR.length
    have hn := let ⟨_, _, _, _, _, _, _, _, hn⟩ := hD; hn
    have hcl := cap_line
    refine wpAny_setItem_heap (knd := tupleKind (intKind prog w)) (tupleKind_room_in1 (by lia)) hkey hD (fun h' hD' hs' => ?_) (by lia)
    have hk : ∀ a o, a ≠ p → s.heap.get? a = some o → h'.get? a = some o := fun a o hne e => hs'.extBut a o hne e
    have fz : ∀ a o, s.heap.get? a = some o → Frozen o → h'.get? a = some o := fun a o e hf => hk a o (by
      rintro rfl
      obtain ⟨ob, _, _, e', _, hdd, _⟩ := hD
      rw [e] at e'; cases e'; exact hf.2.1 _ _ hdd) e
    obtain ⟨S', g⟩ := S.turn (tk := s.toks + (tupleKind (intKind prog w)).draws [k, l]) hp hk (ao := .dictP (putP (k, l) v es)) ⟨_, hD', (hR.mono fz).stored (hv.mono fz) hn, by
      have := putP_length (k, l) v es
      lia⟩
    exact ⟨_, S', g, h⟩
end
end Mine

set_option linter.unusedVariables false
namespace Mine
open PySem PySem.W PyProof.Rows

noncomputable def RawDict (h : Heap) (d : Addr) (es : Array DictEntry) (ep : Nat) : Prop := ∃ o, h.get? d = some o ∧ o.ExactDict ∧ o.data = .dict es ep

section
variable {prog : Program} {w : World} {A : Around} {E : Value → Shared → Prop} {s : Shared}

theorem RawDict.typeIs {d : Addr} {es : Array DictEntry} {ep : Nat} (x : RawDict s.heap d es ep) : s.TypeIs (.ref d) "dict" := let ⟨o, ho, hc, _⟩ := x; ⟨o, ho, hc.1⟩
theorem RawDict.lt {h : Heap} {d : Addr} {es : Array DictEntry} {ep : Nat} (x : RawDict h d es ep) : d < h.objs.size := let ⟨o, ho, _⟩ := x; Heap.lt_size ho
theorem RawDict.at {h h' : Heap} {d : Addr} {es : Array DictEntry} {ep : Nat} (x : RawDict h d es ep) (e : ∀ o, h.get? d = some o → h'.get? d = some o) : RawDict h' d es ep := let ⟨o, ho, r⟩ := x; ⟨o, e o ho, r⟩

theorem raw_pyIter_dict {d : Addr} {es : Array DictEntry} {ep : Nat} {Q : Value → Shared → Prop} (hd : (d == sysModules) = false) (hm : RawDict s.heap d es ep)
    (hQ : Q (.ref s.heap.objs.size) { s with heap := s.heap.push { cls := .type "dict_keyiterator", data := .fields #[.ref d, .int 0 0, .int es.size 0, .int ep 0] } }) :
    wpAny (model prog w) A (pyIter (.ref d)) Q E s := by
  have hT := hm.typeIs
  obtain ⟨o, ho, _, hdat⟩ := hm
  refine wpAny_pyIter_slot hT PySem.F.slot_dict_iter (wpAny_call_entry PySem.F.slot_dict_iter hT PySem.F.entry_dict_iter ?_ (PySem.F.args_dict_iter_1 _))
  unfold Builtin.«dict.__iter__» Builtin.Dict.dictSlotNone
  refine wpAny_bind (wpAny_bind (wpAny_notOrdered_dict hT ?_))
  refine (wpAny_pure ?_ : wpAny _ _ (pure (Value.ref d)) _ _ s)
  show wpAny _ _ (Builtin.Dict.showsAll d >>= _) _ _ s
  unfold Builtin.Dict.showsAll
  rw [if_neg (by rw [hd]; exact Bool.false_ne_true)]
  refine wpAny_bind (wpAny_pure (wpAny_bind (wpAny_dictEntries ho hdat (wpAny_bind (wpAny_dictEpoch ho hdat ?_)))))
  exact wpAny_bind (wpAny_newObj_type (wpAny_pure ⟨_, rfl, "dict_keyiterator", _, ⟨_, Heap.get?_push_size _ rfl, rfl⟩, PySem.F.slot_dict_keyiterator_next.lookup, hQ⟩))

theorem raw_pyIter_keys {v d : Addr} {es : Array DictEntry} {ep : Nat} {Q : Value → Shared → Prop} (hv : KdlKeysView s.heap v d) (hm : RawDict s.heap d es ep)
    (hQ : Q (.ref s.heap.objs.size) { s with heap := s.heap.push { cls := .type "dict_keyiterator", data := .fields #[.ref d, .int 0 0, .int es.size 0, .int ep 0] } }) :
    wpAny (model prog w) A (pyIter (.ref v)) Q E s := by
  have hT := hv.typeIs
  obtain ⟨ov, hov, hcv, hdv⟩ := hv
  obtain ⟨o, ho, _, hdat⟩ := hm
  refine wpAny_pyIter_slot hT kdl_slot_keys_iter (wpAny_call_entry kdl_slot_keys_iter hT kdl_entry_keys_iter ?_ (kdl_args_keys_iter _))
  unfold Builtin.«dict_keys.__iter__»
  refine wpAny_bind (wpAny_pure (wpAny_bind ?_))
  unfold Builtin.Dict_items.dictOf
  refine wpAny_bind (wpAny_field hov hdv (x := .ref d) rfl (wpAny_pure (wpAny_bind ?_)))
  unfold Builtin.Dict_items.newIterator
  refine wpAny_bind (wpAny_dictEntries ho hdat (wpAny_bind (wpAny_dictEpoch ho hdat ?_)))
  have hown : Builtin.Dict_items.ownsTuple "dict_keyiterator" = false := by decide
  simp only [hown, Bool.false_eq_true, if_false]
  exact wpAny_newObj_type (wpAny_pure ⟨_, rfl, "dict_keyiterator", _, ⟨_, Heap.get?_push_size _ rfl, rfl⟩, PySem.F.slot_dict_keyiterator_next.lookup, hQ⟩)

theorem raw_pyNext_item {it d : Addr} {i ep : Nat} {es : Array DictEntry} {e : DictEntry} {Q : Option Value → Shared → Prop} (hit : s.heap.IsKeyIter it d i es.size ep) (hm : RawDict s.heap d es ep) (hx : es[i]? = some e)
    (hQ : ∀ h', h'.IsKeyIter it d (i + 1) es.size ep → Heap.SameBut it s.heap h' → Q (some e.key) { s with heap := h' }) : wpAny (model prog w) A (pyNext (.ref it)) Q E s := by
  have hT := hit.typeIs
  obtain ⟨o, ho, hc, hd⟩ := id hit
  obtain ⟨od, hod, _, hdd⟩ := hm
  have hown : Builtin.Dict_items.ownsTuple "dict_keyiterator" = false := by decide
  unfold pyNext
  refine wpAny_bind (wpAny_attempt (wpAny_callSpecial?_slot (name := Str.ofString "__next__") hT PySem.F.slot_dict_keyiterator_next
    (wpAny_call_entry PySem.F.slot_dict_keyiterator_next hT PySem.F.entry_dict_keyiterator_next ?_ (PySem.F.args_dict_keyiterator_next_1 _))))
  refine wpAny_bind (wpAny_pure (wpAny_bind (wpAny_bind ?_)))
  first | refine wpAny_bind (wpAny_typeNameOfWhole_keyiter hT (wpAny_pure ?_)) | refine wpAny_bind (wpAny_typeNameOf_keyiter hT (wpAny_pure ?_))
  refine wpAny_bind (wpAny_fieldsOf ho hd ?_)
  simp only [hown, Bool.false_eq_true, if_false]
  show wpAny _ _ (if (Value.ref d == Value.none) = true then _ else _) _ _ s
  rw [if_neg (show ¬ ((Value.ref d == Value.none) = true) from Bool.false_ne_true)]
  refine wpAny_bind (wpAny_pure (wpAny_bind (wpAny_dictEntries hod hdd ?_)))
  rw [if_neg (by simp)]
  refine wpAny_bind (wpAny_pure (wpAny_bind (wpAny_dictEpoch hod hdd ?_)))
  rw [if_neg (by simp)]
  refine wpAny_pure ?_
  simp only [show ¬ ((i : Int) < 0) from by lia, if_false, Int.toNat_natCast, hx]
  refine wpAny_bind ?_
  first | refine wpAny_bind (wpAny_typeNameOfWhole_keyiter hT (wpAny_pure ?_)) | refine wpAny_bind (wpAny_typeNameOf_keyiter hT (wpAny_pure ?_))
  refine wpAny_bind (wpAny_isOneOf_keyiter hT ?_)
  show wpAny _ _ (setField (.ref it) 1 (rawInt ((i : Int) + 1)) >>= _) _ _ s
  refine wpAny_bind (wpAny_setField ho hd (by simp) ?_)
  have hit' : (s.heap.update it (Obj.mapFields (·.setIfInBounds 1 (rawInt ((i : Int) + 1))))).IsKeyIter it d (i + 1) es.size ep :=
    ⟨_, Heap.get?_update_self _ ho (Obj.isFreed_of_fields (Obj.data_mapFields hd _)), (Obj.cls_mapFields ..).trans hc, by rw [Obj.data_mapFields hd]; simp [rawInt]⟩
  refine wpAny_bind (wpAny_holding ?_)
  refine wpAny_bind (wpAny_isOneOf_keyiter (s := { s with heap := s.heap.update it (Obj.mapFields (·.setIfInBounds 1 (rawInt ((i : Int) + 1)))) }) hit'.typeIs ?_)
  show wpAny _ _ (pure e.key) _ _ _
  exact wpAny_pure (wpAny_pure ⟨_, rfl, wpAny_pure (hQ _ hit' (Heap.SameBut.update ..))⟩)

theorem raw_pyNext_end {it d : Addr} {i ep : Nat} {es : Array DictEntry} {Q : Option Value → Shared → Prop} (hh : A.handled = none) (hit : s.heap.IsKeyIter it d i es.size ep) (hm : RawDict s.heap d es ep) (hx : es[i]? = none)
    (hQ : ∀ h', Heap.ExtBut it s.heap h' → Q none { s with heap := h' }) : wpAny (model prog w) A (pyNext (.ref it)) Q E s := by
  have hT := hit.typeIs
  obtain ⟨o, ho, hc, hd⟩ := id hit
  obtain ⟨od, hod, _, hdd⟩ := hm
  have hown : Builtin.Dict_items.ownsTuple "dict_keyiterator" = false := by decide
  unfold pyNext
  refine wpAny_bind (wpAny_attempt (wpAny_callSpecial?_slot (name := Str.ofString "__next__") hT PySem.F.slot_dict_keyiterator_next
    (wpAny_call_entry PySem.F.slot_dict_keyiterator_next hT PySem.F.entry_dict_keyiterator_next ?_ (PySem.F.args_dict_keyiterator_next_1 _))))
  refine wpAny_bind (wpAny_pure (wpAny_bind (wpAny_bind ?_)))
  first | refine wpAny_bind (wpAny_typeNameOfWhole_keyiter hT (wpAny_pure ?_)) | refine wpAny_bind (wpAny_typeNameOf_keyiter hT (wpAny_pure ?_))
  refine wpAny_bind (wpAny_fieldsOf ho hd ?_)
  simp only [hown, Bool.false_eq_true, if_false]
  show wpAny _ _ (if (Value.ref d == Value.none) = true then _ else _) _ _ s
  rw [if_neg (show ¬ ((Value.ref d == Value.none) = true) from Bool.false_ne_true)]
  refine wpAny_bind (wpAny_pure (wpAny_bind (wpAny_dictEntries hod hdd ?_)))
  rw [if_neg (by simp)]
  refine wpAny_bind (wpAny_pure (wpAny_bind (wpAny_dictEpoch hod hdd ?_)))
  rw [if_neg (by simp)]
  refine wpAny_pure ?_
  simp only [show ¬ ((i : Int) < 0) from by lia, if_false, Int.toNat_natCast, hx]
  refine wpAny_bind ?_
  first | refine wpAny_bind (wpAny_typeNameOfWhole_keyiter hT (wpAny_pure ?_)) | refine wpAny_bind (wpAny_typeNameOf_keyiter hT (wpAny_pure ?_))
  show wpAny _ _ (setField (.ref it) 0 .none >>= _) _ _ s
  refine wpAny_bind (wpAny_setField ho hd (by simp) ?_)
  show wpAny _ _ (newExc (.type "StopIteration") [] >>= _) _ _ _
  refine wpAny_bind ?_
  simp only [newExc, newTuple]
  refine wpAny_bind (wpAny_newObj_type ?_ (by size_fits))
  refine wpAny_bind (m := firstArgMember _ _) (wpAny_of_eq (a := Value.none) (by first | rfl | (simp only [firstArgMember]; rfl)) ?_)
  refine wpAny_newObj_type ?_ (by size_fits)
  simp only [raiseNew]
  refine wpAny_bind (wpAny_handled ?_)
  rw [show A.in1.handled = none from hh]
  refine wpAny_bind (wpAny_pure (wpAny_throw ?_))
  refine wpAny_bind (wpAny_isInstance (T := "StopIteration") (b := true) ⟨_, Heap.get?_push_size _ rfl, rfl⟩ isSubtype_stop ?_)
  exact wpAny_pure (hQ _ (((Heap.SameBut.update ..).extBut.push _).push _))

theorem raw_walks (hh : A.handled = none) (I d : Addr) (hne : d ≠ I) (es : Array DictEntry) (ep : Nat) :
    Walks prog w A I [I, d] [I] es.size (fun i v => ∃ e, es[i]? = some e ∧ v = e.key) (fun i h => h.IsKeyIter I d i es.size ep ∧ RawDict h d es ep) where
  sub := fun b hb => by simp at hb; simp [hb]
  frame := fun _ _ _ st hk => ⟨st.1.at fun o e => hk I (by simp) o e, st.2.at fun o e => hk d (by simp) o e⟩
  item := fun i s Q E hi st hQ => by
    refine raw_pyNext_item st.1 st.2 (e := es[i]) (by simp [hi]) fun h' hit' hs' => ?_
    exact hQ _ h' s.toks ⟨es[i], by simp [hi], rfl⟩ ⟨hit', st.2.at fun o e => hs'.extBut d o hne e⟩ fun b o hb e => hs'.extBut b o (fun h => hb (by simp [h])) e
  done := fun s Q E st hQ => raw_pyNext_end hh st.1 st.2 (by simp) fun h' he' => hQ h' s.toks fun b o hb e => he' b o (fun h => hb (by simp [h])) e
  self := fun _ _ _ _ st hQ => wpAny_pyIter_keyiter st.1 hQ

theorem raw_src {d : Addr} {es : Array DictEntry} {ep : Nat} (lo : (d == sysModules) = false) : KdlSrc prog w "dict" d d es.size (fun i v => ∃ e, es[i]? = some e ∧ v = e.key) (fun h => RawDict h d es ep) where
  type := fun _ hm => hm.typeIs
  there := fun _ hm => ⟨hm.lt, hm.lt⟩
  keep := fun _ _ hm hk => hm.at fun o e => hk d (.inl rfl) o e
  notList := by decide
  notTuple := by decide
  hint := fun _ _ _ _ hm hq => kdl_hint_dict hm.typeIs hq
  iter := fun _ _ hh hm => ⟨_, _, (fun _ _ hq => raw_pyIter_dict lo hm hq), raw_walks hh _ d (Nat.ne_of_lt hm.lt) es ep, ⟨⟨_, Heap.get?_push_size _ rfl, rfl, rfl⟩, hm.at fun o e => Heap.get?_push_of_some _ e⟩⟩
end
end Mine

set_option linter.unusedVariables false
namespace Mine
open PySem PySem.W PyProof.Rows

section
variable {prog : Program} {w : World} {F : Tab} {B : Heap} {env : Env} {ρ : Rho} {σ σ₁ σ' : Store} {s s₁ s' : Shared} {A : Around} {E : Value → Shared → Prop}

theorem St.rawP (S : St prog w F B env ρ σ s) {d : Addr} {es : List ((Int × Int) × Val)} (h : σ d = some (.dictP es)) :
    ∃ ens ep, RawDict s.heap d ens ep ∧ ens.size = es.length ∧ VRels F s.heap (ens.toList.map (·.key)) (es.map fun e => pairV e.1) ∧ es.length ≤ cap := by
  obtain ⟨xs, ⟨o, ens, ep, e1, e2, e3, e4, e5, e6⟩, hR, hz⟩ := (S.inv.obj d _ h).2
  have hl := hR.length
  have hs : ens.size = es.length := by rw [← Array.length_toList, e4, List.length_map, hl]
  refine ⟨ens, ep, ⟨o, e1, e2, e3⟩, hs, ?_, hz⟩
  rw [e4, List.map_map]
  clear e6 e4 hs hl e1 e2 e3 hz h
  induction xs generalizing es with
  | nil => cases es with
    | nil => exact .nil
    | cons _ _ => exact hR.elim
  | cons x xs ih => cases es with
    | nil => exact hR.elim
    | cons e es =>
      obtain ⟨h1, h2, h3⟩ := hR
      refine .cons ?_ (ih (fun y hy => e5 y (.tail _ hy)) h3)
      have hk := e5 x (.head _)
      obtain ⟨ob, items, n, g1, g2, g3, g4⟩ := hk
      rw [h1] at g4
      have hv : VRels F s.heap items.toList [.int e.1.1, .int e.1.2] ∧ items.size ≤ cap := by
        have hl := g4.length
        have hc : cap = 1000000 := rfl
        simp only [List.length_cons, List.length_nil, Array.length_toList] at hl
        refine ⟨?_, by lia⟩
        generalize items.toList = l at g4
        cases g4 with
        | cons k1 g4 =>
          cases g4 with
          | cons k2 g4 =>
          cases g4
          obtain ⟨t1, rfl⟩ := Value.isInt_shape k1
          obtain ⟨t2, rfl⟩ := Value.isInt_shape k2
          exact .cons (.int _ _) (.cons (.int _ _) .nil)
      exact .tup g1 g2 g3 hv.1 hv.2

theorem EvP.grown {Q : VPost} {v : Value} {a : Val} {h' : Heap} {m : Str → Option Value} {tk : Nat} (S : St prog w F B env ρ σ s) (hm : s.heap.Ns env.locals m) (F' : Fr noHeap env.locals h' m)
    (N' : News noHeap env.locals h' (allBut env.locals s.heap)) (hv : VRel F s.heap v a) (h : Q a σ) : EvP prog w F B env ρ σ s Q v { s with heap := h', toks := tk } := by
  have hu : ∀ m', s.heap.Ns env.locals m' → m' = m := by
    rintro m' ⟨o1, es1, ep1, e1, d1, k1, f1⟩
    obtain ⟨o2, es2, ep2, e2, d2, k2, f2⟩ := hm
    rw [e1] at e2; cases e2; rw [d1] at d2; cases d2
    funext x; rw [← f1, ← f2]
  obtain ⟨S', g⟩ := S.more (tk := tk) (h' := h') (fun a ob hne e => (N' (a, ob) (mem_allBut hne e)).1) (fun m' hn => by rw [hu m' hn]; exact F'.ns)
  exact ⟨a, σ, S.val g hv, S', g, h⟩

theorem St.ext {h' : Heap} {tk : Nat} (S : St prog w F B env ρ σ s) (hk : ∀ a o, s.heap.get? a = some o → h'.get? a = some o) :
    St prog w F B env ρ σ { s with heap := h', toks := tk } ∧ GoE env σ s σ { s with heap := h', toks := tk } :=
  S.more (fun a o _ e => hk a o e) fun m hn => hn.at' fun o e => hk _ o e

theorem isInst_sound {v c : Val} {vv vc : Value} {Q : VPost} (hX : XIs prog w F B) (S : St prog w F B env ρ σ s) (hv : VRel F s.heap vv v) (hc : VRel F s.heap vc c) (h : isInst σ v c fun b => Q (.bool b) σ) :
    wpAny (model prog w) A (call (.builtin "isinstance") [vv, vc]) (EvP prog w F B env ρ σ s Q) E s := by
  rcases h with ⟨i, rfl, h⟩ | ⟨b, rfl, h⟩ | ⟨ys, rfl, h⟩ | ⟨p, xs, ⟨rfl, hp⟩, rfl, h⟩ | ⟨p, k, up, ⟨rfl, hp⟩, h⟩
  · obtain ⟨t, rfl⟩ := hv.toInt
    rcases h with ⟨rfl, h⟩ | ⟨rfl, h⟩ | ⟨rfl, h⟩ <;> obtain rfl := hc.toTyp
    · exact IsiPair.int_int (EvP.now S (.bool _) h)
    · exact IsiPair.int_bool (EvP.pure S _ (.bool _) h)
    · exact IsiPair.int_tuple (EvP.pure S _ (.bool _) h)
  · obtain rfl := hv.toBool
    rcases h with ⟨rfl, h⟩ | ⟨rfl, h⟩ | ⟨rfl, h⟩ <;> obtain rfl := hc.toTyp
    · exact IsiPair.bool_int (EvP.now S (.bool _) h)
    · exact IsiPair.bool_bool (EvP.now S (.bool _) h)
    · exact IsiPair.bool_tuple (EvP.pure S _ (.bool _) h)
  · obtain ⟨_, _, _, n, rfl, e, c, d, r, z⟩ := hv.toTup
    rcases h with ⟨rfl, h⟩ | ⟨rfl, h⟩ | ⟨rfl, h⟩ <;> obtain rfl := hc.toTyp
    · exact IsiPair.tuple_int e c (EvP.pure S _ (.bool _) h)
    · exact IsiPair.tuple_bool e c (EvP.pure S _ (.bool _) h)
    · exact IsiPair.tuple_tuple e c (EvP.now S (.bool _) h)
  · obtain rfl := hv.toRef
    obtain rfl := hc.toTyp
    obtain ⟨i1, n1, e1, r1, z1⟩ := S.listAt hp
    exact IsiPair.list_list e1 rfl (EvP.now S (.bool _) h)
  · obtain rfl := hv.toRef
    obtain ⟨D, o, ⟨q1, q2, rfl⟩, q3, q4⟩ := (S.inv.obj _ _ hp).2
    have hx := hX k D q1 q2 A E s p (EvP prog w F B env ρ σ s Q) S.inv.keep ⟨o, q3, q4.1⟩
    rcases h with ⟨d, rfl, h⟩ | ⟨rfl, h⟩
    · obtain ⟨a, rfl, e⟩ := hc.toCls
      exact hx.1 d _ e fun tk => EvP.pure S tk (.bool _) h
    · obtain rfl := hc.toTyp
      exact hx.2 fun tk => EvP.pure S tk (.bool _) h

theorem len_sound {v : Val} {val : Value} {Q : VPost} (S : St prog w F B env ρ σ s) (hv : VRel F s.heap val v) (h : lenV v σ Q) : wpAny (model prog w) A (call (.builtin "len") [val]) (EvP prog w F B env ρ σ s Q) E s := by
  have hc : cap = 1000000 := rfl
  cases v with
  | ref p =>
    obtain ⟨xs, hp, h⟩ := atList_is h
    obtain rfl := hv.toRef
    obtain ⟨i1, n1, e1, r1, z1⟩ := S.listAt hp
    have hl := r1.length
    simp only [Array.length_toList] at hl
    refine len_list ⟨_, e1, rfl, n1, rfl⟩ (by lia) ?_
    rw [hl]; exact EvP.pure S _ (.int _ _) h
  | tup ys =>
    obtain ⟨_, _, _, n, rfl, e, c, d, r, z⟩ := hv.toTup
    have hl := r.length
    simp only [Array.length_toList] at hl
    refine len_tuple ⟨_, e, c, n, d⟩ (by lia) ?_
    rw [hl]; exact EvP.pure S _ (.int _ _) h
  | scr l =>
    obtain ⟨_, rfl, e⟩ := hv.toScr
    obtain ⟨items, ⟨o, e1, c1, n, d1⟩, e2, e3⟩ := S.inv.scr _ _ e
    have hl := (VRels.ofInts (F := F) (h := s.heap) e2).length
    simp only [Array.length_toList, ofInts, List.length_map] at hl
    refine len_list ⟨o, S.inv.keep _ _ e1, c1, n, d1⟩ (by lia) ?_
    rw [hl]; exact EvP.pure S _ (.int _ _) h
  | _ => exact False.elim h

theorem callBlt_sound {id : String} {vs : List Val} {vals : List Value} {Q : VPost} {calm : Bool} (hB : ∃ o, B.get? sysModules = some o) (hX : XIs prog w F B) (hu : A.units + 70 < cLine) (hh : calm = true → A.handled = none) (S : St prog w F B env ρ σ s)
    (hv : VRels F s.heap vals vs) (h : callBlt calm id vs σ Q) : wpAny (model prog w) A (call (.builtin id) vals) (EvP prog w F B env ρ σ s Q) E s := by
  unfold callBlt at h
  split at h
  · rename_i hid; subst hid
    obtain ⟨v, rfl, h⟩ := one_is h
    obtain ⟨_, rfl, hv1⟩ := hv.one
    exact len_sound S hv1 h
  · split at h
    · rename_i hid; subst hid
      obtain ⟨v, c, rfl, h⟩ := two_is h
      obtain ⟨_, _, rfl, h1, h2⟩ := hv.two
      exact isInst_sound hX S h1 h2 h
    · split at h
      · rename_i hid; subst hid
        obtain ⟨v, u, rfl, h⟩ := two_is h
        obtain ⟨x, rfl, h⟩ := asInt_is h
        obtain ⟨y, rfl, h⟩ := asInt_is h
        obtain ⟨_, _, rfl, hv1, hv2⟩ := hv.two
        obtain ⟨_, rfl⟩ := hv1.toInt
        obtain ⟨_, rfl⟩ := hv2.toInt
        obtain ⟨m, hm⟩ := S.ns
        refine min_two_N (hh h.1) (fr_all hm) news_all fun h' tk F' N' => EvP.grown S hm F' N' ?_ h.2
        have : (if y < x then y else x) = min x y := by split <;> lia
        rw [this]; exact .int _ _
      · split at h
        · rename_i hid; subst hid
          obtain ⟨v, u, rfl, h⟩ := two_is h
          obtain ⟨x, rfl, h⟩ := asInt_is h
          obtain ⟨y, rfl, h⟩ := asInt_is h
          obtain ⟨_, _, rfl, hv1, hv2⟩ := hv.two
          obtain ⟨_, rfl⟩ := hv1.toInt
          obtain ⟨_, rfl⟩ := hv2.toInt
          obtain ⟨m, hm⟩ := S.ns
          refine max_two_N (hh h.1) (fr_all hm) news_all fun h' tk F' N' => EvP.grown S hm F' N' ?_ h.2
          have : (if y > x then y else x) = max x y := by split <;> lia
          rw [this]; exact .int _ _
        · exact h.elim

theorem vrels_items {P : Nat → Value → Prop} {as : List Val} {h : Heap} {acc : Array Value} (ha : ItemsOf P acc as.length) (hp : ∀ i v a, P i v → as[i]? = some a → VRel F h v a) : VRels F h acc.toList as := by
  have : ∀ (l : List Value) (as : List Val), l.length = as.length → (∀ (i : Nat) (v : Value) (a : Val), l[i]? = some v → as[i]? = some a → VRel F h v a) → VRels F h l as := by
    intro l
    induction l with
    | nil => intro as hl _; cases as with
      | nil => exact .nil
      | cons _ _ => cases hl
    | cons x l ih => intro as hl hq; cases as with
      | nil => cases hl
      | cons a as => exact .cons (hq 0 x a rfl rfl) (ih as (by simpa using hl) fun i v b h1 h2 => hq (i + 1) v b (by simpa using h1) (by simpa using h2))
  refine this _ _ (by simpa using ha.1) fun i v a h1 h2 => hp i v a (ha.2 i v (by simpa using h1)) h2

theorem listOf_sound {p : Addr} {Q : VPost} {calm : Bool} (hB : ∃ o, B.get? sysModules = some o) (hh : calm = true → A.handled = none) (S : St prog w F B env ρ σ s) (h : listOfV calm p σ Q) :
    wpAny (model prog w) A (call (.type "list") [.ref p]) (EvP prog w F B env ρ σ s Q) E s := by
  have hc : cap = 1000000 := rfl
  have hcl := cap_line
  have hnew : s.heap.get? s.heap.objs.size = none := by
    cases e : s.heap.get? s.heap.objs.size with
    | none => rfl
    | some o => exact absurd (Heap.lt_size e) (Nat.lt_irrefl _)
  unfold listOfV at h
  cases hp : σ p with
  | none => rw [hp] at h; exact False.elim h
  | some o =>
    rw [hp] at h
    cases o with
    | list xs =>
      obtain ⟨i1, n1, e1, r1, z1⟩ := S.listAt hp
      have hl := r1.length
      simp only [Array.length_toList] at hl
      refine call_list_seq p (.inl rfl) e1 rfl rfl (fun h' c' hk hS' => ?_) (by lia)
      obtain ⟨h1, h2, h3⟩ := S.alloc (tk := s.toks) (h' := h') (ao := .list xs) (fun a o _ e => hk a o e) (fun m hn => hn.at' fun o e => hk _ o e) hnew ⟨_, _, hS', r1.mono fun a o e _ => hk a o e, z1⟩
      exact ⟨_, _, .ref _, h2, h3, h _ h1⟩
    | dictP es =>
      obtain ⟨ens, ep, hr, hz, hk, hcap⟩ := S.rawP hp
      refine kdl_call (raw_src (ep := ep) (es := ens) (sys_off S hB hp)) (hh h.1) hr (by lia) fun h' tk acc' c' hk' hS' ha => ?_
      have key : VRels F h' acc'.toList (es.map fun e => pairV e.1) := by
        refine vrels_items (by rw [List.length_map, ← hz]; exact ha) fun i v a hP ha => ?_
        obtain ⟨e, he, rfl⟩ := hP
        obtain ⟨v, hv, hr⟩ := hk.get ha
        have : v = e.key := by
          rw [List.getElem?_map, Array.getElem?_toList, he] at hv
          simpa using hv.symm
        subst this
        exact hr.mono fun a o e _ => hk' a o e
      obtain ⟨h1, h2, h3⟩ := S.alloc (tk := tk) (h' := h') (ao := .list (es.map fun e => pairV e.1)) (fun a o _ e => hk' a o e) (fun m hn => hn.at' fun o e => hk' _ o e) hnew ⟨_, _, hS', key, by simpa using hcap⟩
      exact ⟨_, _, .ref _, h2, h3, h.2 _ h1⟩
    | _ => exact False.elim h

theorem callTyp_sound {T : String} {vs : List Val} {vals : List Value} {Q : VPost} {calm : Bool} (hB : ∃ o, B.get? sysModules = some o) (hh : calm = true → A.handled = none) (S : St prog w F B env ρ σ s)
    (hv : VRels F s.heap vals vs) (h : callTyp calm T vs σ Q) : wpAny (model prog w) A (call (.type T) vals) (EvP prog w F B env ρ σ s Q) E s := by
  have hc : cap = 1000000 := rfl
  have hcl := cap_line
  unfold callTyp at h
  split at h
  · rename_i hT; subst hT
    cases vs with
    | nil => exact False.elim h
    | cons v r =>
      obtain ⟨m, rfl, hr⟩ := asInt_is h
      clear h
      cases r with
      | nil =>
        have h : (-(cap : Int) ≤ m ∧ m ≤ cap) ∧ Q (.rng 0 m) σ := hr
        obtain ⟨_, rfl, hv1⟩ := hv.one
        obtain ⟨t, rfl⟩ := hv1.toInt
        refine call_range_1 ?_
        obtain ⟨S', g⟩ := S.push { cls := .type "range", data := .fields #[.int 0 s.toks, .int m t, .int 1 (s.toks + 1)] } (s.toks + 1 + 1)
        exact ⟨_, σ, .rng (IsRange.new ..) (Int.le_refl _) (by lia) h.1, S', g, h.2⟩
      | cons u r =>
        cases r with
        | nil =>
          obtain ⟨n, rfl, h⟩ := asInt_is hr
          obtain ⟨_, _, rfl, hv1, hv2⟩ := hv.two
          obtain ⟨t, rfl⟩ := hv1.toInt
          obtain ⟨u, rfl⟩ := hv2.toInt
          refine call_range_2 ?_
          obtain ⟨S', g⟩ := S.push { cls := .type "range", data := .fields #[.int m t, .int n u, .int 1 s.toks] } (s.toks + 1)
          exact ⟨_, σ, .rng (IsRange.new ..) h.1.1 h.1.2.1 h.1.2.2, S', g, h.2⟩
        | cons _ _ => exact False.elim hr
  · split at h
    · rename_i hT; subst hT
      obtain ⟨v, rfl, h⟩ := one_is h
      obtain ⟨p, rfl, h⟩ := asRef_is h
      obtain ⟨_, rfl, hv1⟩ := hv.one
      obtain rfl := hv1.toRef
      exact listOf_sound hB hh S h
    · split at h
      · rename_i hT; subst hT
        obtain ⟨v, rfl, h⟩ := one_is h
        obtain ⟨p, rfl, h⟩ := asRef_is h
        obtain ⟨xs, hp, h⟩ := atList_is h
        obtain ⟨_, rfl, hv1⟩ := hv.one
        obtain rfl := hv1.toRef
        obtain ⟨i1, n1, e1, r1, z1⟩ := S.listAt hp
        have hl := r1.length
        simp only [Array.length_toList] at hl
        refine call_tuple_list ⟨_, e1, rfl, n1, rfl⟩ (fun h' hk => ?_) (by lia)
        obtain ⟨S', g⟩ := S.ext (tk := s.toks) (h' := h'.push { cls := .type "tuple", data := .seq i1 }) fun a o e => Heap.get?_push_of_some _ (hk a o e)
        exact ⟨_, σ, .tup (Heap.get?_push_size _ rfl) rfl rfl (S.vals g r1) (by lia), S', g, h⟩
      · split at h
        · rename_i hT; subst hT
          obtain ⟨v, rfl, h⟩ := one_is h
          obtain ⟨b, rfl, h⟩ := asBool_is h
          obtain ⟨_, rfl, hv1⟩ := hv.one
          obtain rfl := hv1.toBool
          exact call_int_bool (EvP.pure S _ (.int _ _) h)
        · exact h.elim
end
end Mine

set_option linter.unusedVariables false
namespace Mine
open PySem PySem.W PyProof.Rows
section
variable {prog : Program} {w : World} {F : Tab} {B : Heap} {env : Env} {ρ : Rho} {σ σ₁ σ' : Store} {s s₁ s' : Shared} {A : Around} {E : Value → Shared → Prop}

theorem EvP.turnL {Q : VPost} {p : Addr} {xs ys : List Val} {items items' : Array Value} {n : Nat} {f : Array Value → Array Value} (S : St prog w F B env ρ σ s) (hp : σ p = some (.list xs))
    (e1 : s.heap.get? p = some { cls := .type "list", data := .seq items n }) (hf : f items = items') (hr : ∀ h', VRels F h' items.toList xs → (∀ v a, VRel F s.heap v a → VRel F h' v a) → VRels F h' items'.toList ys) (hr0 : VRels F s.heap items.toList xs) (hz : ys.length ≤ cap)
    (h : Q .none (σ.set p (.list ys))) : EvP prog w F B env ρ σ s Q .none { s with heap := s.heap.update p (Obj.mapSeq f), toks := s.toks } := by
  have hk : ∀ a o, a ≠ p → s.heap.get? a = some o → (s.heap.update p (Obj.mapSeq f)).get? a = some o := fun a o hne e => (Heap.get?_update_ne _ _ _ _ hne).trans e
  have ep : ∃ n', (s.heap.update p (Obj.mapSeq f)).get? p = some { cls := .type "list", data := .seq (f items) n' } := ⟨_, (Heap.get?_update_self _ e1 rfl).trans (by simp [Obj.mapSeq]; rfl)⟩
  have fz : ∀ a o, s.heap.get? a = some o → Frozen o → (s.heap.update p (Obj.mapSeq f)).get? a = some o := fun a o e hf => hk a o (by rintro rfl; rw [e1] at e; cases e; simp [Frozen] at hf) e
  obtain ⟨n', ep⟩ := ep
  obtain ⟨S', g⟩ := S.turn (tk := s.toks) hp hk (ao := .list ys) ⟨_, _, ep, by rw [hf]; exact hr _ (hr0.mono fz) fun v a q => q.mono fz, hz⟩
  exact ⟨_, _, .none, S', g, h⟩

noncomputable def listId (n : Str) : Option String := if n = "append" then some "list.append" else if n = "insert" then some "list.insert" else if n = "clear" then some "list.clear" else if n = "count" then some "list.count" else none
theorem listId_slot {n : Str} {id : String} (h : listId n = some id) : Slot "list" n id ∧ typeOf (.builtin id) = pure (.type "method_descriptor") := by
  unfold listId at h
  split at h
  · rename_i e; subst e; cases h; exact ⟨PySem.F.slot_list_append, PySem.F.type_list_append⟩
  · split at h
    · rename_i e; subst e; cases h; exact ⟨PySem.F.slot_list_insert, PySem.F.type_list_insert⟩
    · split at h
      · rename_i e; subst e; cases h; exact ⟨PySem.F.slot_list_clear, PySem.F.type_list_clear⟩
      · split at h
        · rename_i e; subst e; cases h; exact ⟨PySem.F.slot_list_count, PySem.F.type_list_count⟩
        · cases h
theorem VRels.bools {h : Heap} : ∀ {bs : List Bool} {vs : List Value}, VRels F h vs (bs.map .bool) → vs = bs.map .bool
  | [], _, r => r.zero
  | _ :: _, _, r => by
    obtain ⟨v, us, rfl, x, r'⟩ := VRels.uncons r
    rw [x.toBool, VRels.bools r']; rfl
theorem listMeth_sound {p : Addr} {n : Str} {id : String} {vs : List Val} {vals : List Value} {Q : VPost} (hid : listId n = some id) (S : St prog w F B env ρ σ s) (hv : VRels F s.heap vals vs) (h : listMeth p n vs σ Q) :
    wpAny (model prog w) A (call (.builtin id) (.ref p :: vals)) (EvP prog w F B env ρ σ s Q) E s := by
  have hc : cap = 1000000 := rfl
  have hcl := cap_line
  unfold listMeth at h
  split at h
  · rename_i xs hp
    obtain ⟨i1, n1, e1, r1, z1⟩ := S.listAt hp
    have hl := r1.length
    simp only [Array.length_toList] at hl
    split at h
    · rename_i hn; subst hn
      split at h
      · rename_i v
        obtain ⟨x, rfl, h1⟩ := hv.one
        have : id = "list.append" := by simpa [listId] using hid.symm
        subst this
        refine call_meets PySem.F.slot_list_append ⟨_, e1, rfl⟩ PySem.F.entry_list_append (PySem.F.args_list_append_2 _ _) (list_append p i1 n1 x (by lia)) ⟨e1, ?_⟩
        refine EvP.turnL S hp e1 (items' := i1.push x) rfl (fun h' r hm => ?_) r1 (by simp; lia) h.2
        simpa using r.append (.cons (hm _ _ h1) .nil)
      · exact h.elim
    · split at h
      · rename_i hn; subst hn
        split at h
        · rename_i i v
          obtain ⟨_, x, rfl, hv1, h1⟩ := hv.two
          obtain ⟨u, rfl⟩ := hv1.toInt
          obtain ⟨⟨h2, h3, h4⟩, h⟩ := h
          have : id = "list.insert" := by rw [listId, if_neg (by decide), if_pos rfl] at hid; exact (Option.some.inj hid).symm
          subst this
          refine call_meets PySem.F.slot_list_insert ⟨_, e1, rfl⟩ PySem.F.entry_list_insert (PySem.F.args_list_insert_3 _ _ _) (AutoSeq1.list_insert_list_int_val_1 p i1 n1 i u x (by simp [Builtin.List.listFitsIndex]; lia) (by lia)) ⟨e1, ?_⟩
          refine EvP.turnL S hp e1 (items' := (i1.extract 0 i.toNat).push x ++ i1.extract i.toNat) (ys := insertAt xs i.toNat v) ?_ (fun h' r hm => ?_) r1 (by simp [insertAt]; lia) h
          · have : (if i < 0 then (i + (i1.size : Int)).toNat else min i.toNat i1.size) = i.toNat := by rw [if_neg (by lia)]; lia
            simp only [this]
          · have : ((i1.extract 0 i.toNat).push x ++ i1.extract i.toNat).toList = i1.toList.take i.toNat ++ x :: i1.toList.drop i.toNat := by
              simp [List.take_of_length_le]
            rw [this]
            exact (r.take _).append (.cons (hm _ _ h1) (r.drop _))
        · exact h.elim
      · split at h
        · rename_i hn; subst hn
          split at h
          · obtain rfl := hv.zero
            have : id = "list.clear" := by rw [listId, if_neg (by decide), if_neg (by decide), if_pos rfl] at hid; exact (Option.some.inj hid).symm
            subst this
            refine call_meets PySem.F.slot_list_clear ⟨_, e1, rfl⟩ PySem.F.entry_list_clear (PySem.F.args_list_clear_1 _) (AutoSeq1.list_clear_list_0 p i1 n1 (by lia)) ⟨e1, ?_⟩
            exact EvP.turnL S hp e1 (items' := #[]) rfl (fun h' r hm => .nil) r1 (by simp) h
          · exact h.elim
        · split at h
          · rename_i hn; subst hn
            obtain ⟨bs, rfl, rfl, h⟩ := h
            obtain ⟨x, rfl, h1⟩ := hv.one
            obtain rfl := h1.toBool
            have : id = "list.count" := by rw [listId, if_neg (by decide), if_neg (by decide), if_neg (by decide), if_pos rfl] at hid; exact (Option.some.inj hid).symm
            subst this
            have hi := r1.bools
            refine call_meets PySem.F.slot_list_count ⟨_, e1, rfl⟩ PySem.F.entry_list_count (PySem.F.args_list_count_2 _ _) (PySem.SeqAt.list_countAt p i1 n1 none #[] (.bool true) (fun y => y == .bool true)) ⟨e1, fun y hy => ?_, ?_⟩
            · obtain ⟨b, _, rfl⟩ := List.mem_map.mp (hi ▸ Array.mem_toList_iff.mpr hy)
              have := PySem.SeqAt.EqAt.bool_bool (A := A.in1) (s := s) b true
              cases b <;> exact this
            · rw [hi, List.countP_map, show ((fun y => y == Value.bool true) ∘ Value.bool) = id from by funext b; cases b <;> rfl]
              exact EvP.pure S _ (.int _ _) h
          · exact h.elim
  · exact h.elim

end
end Mine

set_option linter.unusedVariables false
namespace Mine
open PySem

noncomputable def Steady (P : Obj → Prop) : Prop := ∀ o v, P o → P (Obj.mapFields (·.setIfInBounds 1 v) o)
structure FlyP (P : Obj → Prop) (base : Heap) (l : List Env) (e : Addr) (fl : Value) (h : Heap) : Prop where
  stay : base.StaysIn h
  new : base.get? e = none
  frs : h.FunFrames base l
  at_ : ∃ oe vs T oT ts, (h.get? e = some oe ∧ P oe ∧ oe.data = .fields vs ∧ vs[1]? = some (.ref T)) ∧ (base.get? T = none ∧ T ≠ e) ∧ h.get? T = some oT ∧ oT.data = .fields ts ∧ ts[3]? = some fl

section
variable {M : Model} {A : Around} {E : Value → Shared → Prop} {s : Shared} {P : Obj → Prop} {base : Heap} {l outer : List Env} {env : Env} {L e : Addr} {Q : Unit → Shared → Prop} {fl : Value}
theorem FlyP.there {h : Heap} (x : FlyP P base l e fl h) : ∃ o vs, h.get? e = some o ∧ P o ∧ o.data = .fields vs := by
  obtain ⟨oe, vs, _, _, _, ⟨h1, h2, h3, _⟩, _⟩ := x.at_
  exact ⟨oe, vs, h1, h2, h3⟩
theorem FlyP.tail {h : Heap} (x : FlyP P base (env :: l) e fl h) : FlyP P base l e fl h := ⟨x.stay, x.new, x.frs.2.2, x.at_⟩
theorem upd_slots {h : Heap} {b : Addr} {o : Obj} {vs : Array Value} {f : Array Value → Array Value} (hb : h.get? b = some o) (hd : o.data = .fields vs) : h.UpToSlots (h.update b (Obj.mapFields f)) := fun c oc hc hn =>
  ⟨oc.slots, (Heap.get?_update_other _ _ (by rintro rfl; rw [hb] at hc; cases hc; exact hn vs hd)).trans hc⟩
theorem slots_funs {h h' : Heap} (x : h.UpToSlots h') (hl : h.FunFrames base l) : h'.FunFrames base l := hl.of_keeps fun b o hb hn => let ⟨_, hs⟩ := x b o hb hn; ⟨_, hs, rfl⟩
theorem fly_entry (hP : Steady P) {oe : Obj} {vs : Array Value} {head : Value} {hadNext : Bool} (hfr : A.frames = some (env :: outer)) (hl : s.heap.FunFrames base (env :: outer)) (hf : env.frame = some L)
    (he : s.heap.get? e = some oe) (hp : P oe) (hkb : base.StaysIn s.heap) (hen : base.get? e = none) (hd : oe.data = .fields vs) (hsz : 1 < vs.size)
    (h : ∀ h', FlyP P base (env :: outer) e (rawInt L) h' → s.heap.UpToSlots h' → Q () { s with heap := h' }) :
    wpAny M A (do let a ← frameOf env; let pl ← entryPlaceOf L hadNext; let b ← EntryCells.newEntry head a .none (rawInt L) .none pl; setField (.ref e) 1 b) Q E s := by
  have hne : e ∉ (env :: outer).filterMap (·.frame) := fun hm => by
    obtain ⟨_, o, ho, hn⟩ := hl.mem hm
    rw [he] at ho; cases ho; exact hn vs hd
  refine wpAny_bind (wpAny_frameOf_fun hfr hl hf fun h₁ hs₁ => wpAny_bind (wpAny_entryPlaceOf fun pl hpl => ?_))
  have k₁ : s.heap.UpToSlots h₁ := fun b o hb _ => hs₁.2.2 b o hb
  unfold EntryCells.newEntry newFields
  refine wpAny_bind (wpAny_newObj_type ?_ (hpl.sizeOk5 _ _ _ _ _))
  generalize hN : ({ cls := .type "traceback", dict := none, data := .fields ([head, .ref L, .none, rawInt L, .none] ++ (if pl.isEmpty then List.replicate 6 Value.none else pl)).toArray } : Obj) = oN
  have hNd : oN.data = .fields ([head, .ref L, .none, rawInt L, .none] ++ (if pl.isEmpty then List.replicate 6 Value.none else pl)).toArray := by rw [← hN]
  have e₁ : h₁.get? e = some oe := (hs₁.2.1 e hne).trans he
  have e₂ : (h₁.push oN).get? e = some oe := Heap.get?_push_of_some _ e₁
  have hTe : h₁.objs.size ≠ e := Nat.ne_of_gt (Heap.lt_size e₁)
  have b₁ : base.StaysIn h₁ := fun b o hbo => (hs₁.2.1 b fun hm => by rw [(hl.mem hm).1] at hbo; cases hbo).trans (hkb b o hbo)
  have k₂ : s.heap.UpToSlots ((h₁.push oN).update e (Obj.mapFields (·.setIfInBounds 1 (.ref h₁.objs.size)))) := k₁.trans (Heap.UpToSlots.trans (fun b o hb _ => ⟨o.slots, Heap.get?_push_of_some _ hb⟩) (upd_slots e₂ hd))
  refine wpAny_setField e₂ hd hsz (h _ ⟨fun b o hbo => ?_, hen, slots_funs k₂ hl, ?_⟩ k₂)
  · exact (Heap.get?_update_other _ _ (by rintro rfl; rw [hen] at hbo; cases hbo)).trans (Heap.get?_push_of_some _ (b₁ b o hbo))
  · have d₃ := Obj.data_mapFields hd (·.setIfInBounds 1 (Value.ref h₁.objs.size))
    refine ⟨_, _, h₁.objs.size, oN, _, ⟨Heap.get?_update_self _ e₂ (Obj.isFreed_of_fields d₃), hP _ _ hp, d₃, by simp [hsz]⟩, ⟨b₁.fresh, hTe⟩, (Heap.get?_update_other _ _ (Ne.symm hTe)).trans (Heap.get?_push_size h₁ (by rw [← hN]; rfl)), hNd, ?_⟩
    rfl
theorem fly_mark (x : FlyP P base l e fl s.heap) (h : ∀ h', FlyP P base l e .none h' → s.heap.UpToSlots h' → Q () { s with heap := h' }) : wpAny M A (setFlight (.ref e) none) Q E s := by
  obtain ⟨oe, vs, T, oT, ts, ⟨h1, h2, h3, h4⟩, ⟨h5, h6⟩, h7, h8, h9⟩ := x.at_
  have hsz : 3 < ts.size := (Array.getElem?_eq_some_iff.mp h9).1
  unfold setFlight
  refine wpAny_bind (wpAny_field h1 h3 h4 ?_)
  rw [if_pos (show (Value.ref T != Value.none) = true from by simp)]
  have k := upd_slots (f := (·.setIfInBounds 3 ((none : Option Addr).elim Value.none fun f => rawInt f))) h7 h8
  refine wpAny_setField h7 h8 hsz (h _ ⟨fun b o hb => (Heap.get?_update_other _ _ (by rintro rfl; rw [h5] at hb; cases hb)).trans (x.stay b o hb), x.new, slots_funs k x.frs, ?_⟩ k)
  exact ⟨oe, vs, T, _, _, ⟨(Heap.get?_update_other _ _ h6).trans h1, h2, h3, h4⟩, ⟨h5, h6⟩, Heap.get?_update_self _ h7 (Obj.isFreed_of_fields (Obj.data_mapFields h8 _)), Obj.data_mapFields h8 _, by simp [hsz]⟩
theorem fly_first (hP : Steady P) {oe : Obj} {vs : Array Value} (hfr : A.frames = some (env :: outer)) (hl : s.heap.FunFrames base (env :: outer)) (hf : env.frame = some L)
    (he : s.heap.get? e = some oe) (hp : P oe) (hkb : base.StaysIn s.heap) (hen : base.get? e = none) (hd : oe.data = .fields vs) (h1 : vs[1]? = some .none)
    (h : ∀ h', FlyP P base outer e .none h' → s.heap.UpToSlots h' → Q () { s with heap := h' }) : wpAny M A (leaving env (.ref e)) Q E s := by
  unfold leaving noteFrame
  simp only [hf]
  refine wpAny_bind (wpAny_bind (wpAny_field he hd h1 ?_))
  rw [if_neg (by decide)]
  exact fly_entry hP hfr hl hf he hp hkb hen hd (Array.getElem?_eq_some_iff.mp h1).1 fun h₁ x k => fly_mark x fun h₂ x₂ k₂ => h h₂ x₂.tail (k.trans k₂)
theorem fly_note (hP : Steady P) (hfr : A.frames = some (env :: outer)) (hf : env.frame = some L) (x : FlyP P base (env :: outer) e .none s.heap)
    (h : ∀ h', FlyP P base (env :: outer) e (rawInt L) h' → s.heap.UpToSlots h' → Q () { s with heap := h' }) : wpAny M A (noteFrame (.ref e) env) Q E s := by
  obtain ⟨oe, vs, T, oT, ts, ⟨h1, h2, h3, h4⟩, ⟨h5, h6⟩, h7, h8, h9⟩ := x.at_
  unfold noteFrame
  simp only [hf]
  refine wpAny_bind (wpAny_field h1 h3 h4 ?_)
  rw [if_pos (show (Value.ref T != Value.none) = true from by simp)]
  refine wpAny_bind (wpAny_field h7 h8 h9 ?_)
  rw [if_neg (show ¬ ((Value.none == rawInt L) = true) from by simp [rawInt])]
  have k := upd_slots (f := (·.setIfInBounds 3 Value.none)) h7 h8
  refine wpAny_bind (wpAny_setField h7 h8 (Array.getElem?_eq_some_iff.mp h9).1 ?_)
  exact fly_entry hP hfr (slots_funs k x.frs) hf ((Heap.get?_update_other _ _ h6).trans h1) h2 (fun b o hb => (Heap.get?_update_other _ _ (by rintro rfl; rw [h5] at hb; cases hb)).trans (x.stay b o hb)) x.new h3 (Array.getElem?_eq_some_iff.mp h4).1 fun h' y k' => h h' y (k.trans k')
theorem fly_on (hP : Steady P) (hfr : A.frames = some (env :: outer)) (hf : env.frame = some L) (x : FlyP P base (env :: outer) e .none s.heap)
    (h : ∀ h', FlyP P base outer e .none h' → s.heap.UpToSlots h' → Q () { s with heap := h' }) : wpAny M A (leaving env (.ref e)) Q E s := by
  unfold leaving
  exact wpAny_bind (fly_note hP hfr hf x fun h₁ y k => fly_mark y fun h₂ y₂ k₂ => h h₂ y₂.tail (k.trans k₂))
end
end Mine

set_option linter.unusedVariables false
namespace Mine
open PySem PyProof.Rows

noncomputable def Quiet (A : Around) (h : Heap) : Prop := A.handled = none ∨ ∃ x o vs, A.handled = some (.ref x) ∧ h.get? x = some o ∧ o.data = .fields vs ∧ vs[2]? = some Value.none
section
variable {prog : Program} {w : World} {A : Around} {E : Value → Shared → Prop} {s : Shared}
theorem Quiet.keeps {h h' : Heap} (q : Quiet A h) (k : ∀ a o, h.get? a = some o → h'.get? a = some o) : Quiet A h' := q.imp_right fun ⟨x, o, vs, h1, h2, h3⟩ => ⟨x, o, vs, h1, k _ _ h2, h3⟩
theorem entry_unchain : entryFor table "proto.unchain" = some Builtin.«proto.unchain» := entryFor_of_fast (by kernel_rfl)
theorem raise_quiet {α : Type} {e : Addr} {o : Obj} {ws : Array Value} {Q : α → Shared → Prop} (q : A.handled = none ∨ ∃ x o vs, A.handled = some (.ref x) ∧ s.heap.get? x = some o ∧ o.data = .fields vs ∧ vs[2]? = some Value.none ∧ x ≠ e) (he : s.heap.get? e = some o) (hd : o.data = .fields ws) (hz : 2 < ws.size)
    (h : ∀ h', Heap.ExtBut e s.heap h' → (∃ o', h'.get? e = some o' ∧ o'.cls = o.cls) → E (.ref e) { s with heap := h' }) : wpAny (model prog w) A (raiseNew (.ref e) : Sem α) Q E s := by
  simp only [raiseNew]
  refine wpAny_bind (wpAny_handled ?_)
  rcases q with q | ⟨x, ox, vs, h1, h2, h3, h4, h5⟩
  · rw [q]
    exact wpAny_bind (wpAny_pure (wpAny_throw (h _ (fun _ _ _ e => e) ⟨o, he, rfl⟩)))
  · rw [h1]
    have hne : ((Value.ref x) != Value.ref e) = true := by
      simp only [bne_iff_ne, ne_eq, Value.ref.injEq]; exact h5
    dsimp only
    rw [if_pos hne]
    refine wpAny_bind (wpAny_holding (wpAny_runValue (codeAny_builtin entry_unchain ?_)))
    show wpAny _ _ (field (.ref x) 2 >>= _) _ _ s
    refine wpAny_bind (wpAny_field h2 h3 h4 ?_)
    show wpAny _ _ (ret .none >>= _) _ _ s
    refine wpAny_bind (wpAny_pure (wpAny_pure ?_))
    show wpAny _ _ (setField (.ref e) 2 (.ref x) >>= _) _ _ s
    exact wpAny_bind (wpAny_setField he hd hz (wpAny_throw (h _ (fun b ob hb eb => (Heap.get?_update_other _ _ (Ne.symm hb)).trans eb) ⟨_, Heap.get?_update_self _ he (Obj.isFreed_of_fields (Obj.data_mapFields hd _)), Obj.cls_mapFields _ _⟩)))
theorem tup_end {it t : Addr} {i : Nat} {items : Array Value} {Q : Option Value → Shared → Prop} (q : Quiet A s.heap) (hni : ∀ x, A.handled = some (.ref x) → x ≠ it)
    (hit : IsTupIter s.heap it t i) (ht : IsTup s.heap t items) (hx : items[i]? = none)
    (hQ : ∀ h', Heap.ExtBut it s.heap h' → Q none { s with heap := h' }) : wpAny (model prog w) A (pyNext (.ref it)) Q E s := by
  obtain ⟨o, ho, hc, hd⟩ := id hit
  obtain ⟨ol, hol, _, nl, hdl⟩ := ht
  unfold pyNext
  refine wpAny_bind (wpAny_attempt (wpAny_callSpecial?_slot (name := Str.ofString "__next__") hit.typeIs slot_tupleiter_next
    (wpAny_call_entry slot_tupleiter_next hit.typeIs entry_tupleiter_next ?_ (args_tupleiter_next _))))
  show wpAny _ _ (field (.ref it) 0 >>= _) _ _ s
  refine wpAny_bind (wpAny_field ho hd (x := .ref t) rfl ?_)
  show wpAny _ _ (if (Value.ref t == Value.none) = true then _ else _) _ _ s
  rw [if_neg (show ¬ ((Value.ref t == Value.none) = true) from Bool.false_ne_true)]
  show wpAny _ _ (field (.ref it) 1 >>= _) _ _ s
  refine wpAny_bind (wpAny_field ho hd (x := .int i 0) rfl ?_)
  show wpAny _ _ (seqItems? (.ref t) >>= _) _ _ s
  refine wpAny_bind (wpAny_seqItems hol hdl ?_)
  simp only [Int.toNat_natCast, hx]
  refine wpAny_bind (wpAny_rule (wpAny_bind (wpAny_setField ho hd (by simp) ?_)))
  show wpAny _ _ (newExc (.type "StopIteration") [] >>= _) _ _ _
  refine wpAny_bind ?_
  simp only [newExc, newTuple]
  refine wpAny_bind (wpAny_newObj_type ?_ (by size_fits))
  refine wpAny_bind (m := firstArgMember _ _) (wpAny_of_eq (a := Value.none) (by first | rfl | (simp only [firstArgMember]; rfl)) ?_)
  refine wpAny_newObj_type ?_ (by size_fits)
  refine raise_quiet ?_ (Heap.get?_push_size _ rfl) rfl (by simp only [Array.size_append]; exact Nat.lt_of_lt_of_le (by decide : 2 < 6) (Nat.le_add_right _ _)) fun h' k z => ?_
  · refine q.imp_right fun z => ?_
    obtain ⟨x, ox, vs, h1, h2, h3, h4⟩ := z
    have e₁ := Heap.get?_push_of_some { cls := .type "tuple", dict := none, data := .seq [].toArray 0 } ((Heap.get?_update_other s.heap (Obj.mapFields (·.setIfInBounds 0 Value.none)) (Ne.symm (hni x h1))).trans h2)
    exact ⟨x, ox, vs, h1, Heap.get?_push_of_some _ e₁, h3, h4, Nat.ne_of_lt (Heap.lt_size e₁)⟩
  · obtain ⟨o', ho', hc'⟩ := z
    refine wpAny_bind (wpAny_isInstance (T := "StopIteration") (b := true) ⟨o', ho', hc'⟩ isSubtype_stop ?_)
    refine wpAny_pure (hQ _ fun b ob hb eb => ?_)
    have e₁ := Heap.get?_push_of_some { cls := .type "tuple", dict := none, data := .seq [].toArray 0 } ((Heap.get?_update_other s.heap (Obj.mapFields (·.setIfInBounds 0 Value.none)) (Ne.symm hb)).trans eb)
    exact k b ob (Nat.ne_of_lt (Heap.lt_size e₁)) (Heap.get?_push_of_some _ e₁)
theorem unpack_quiet {t : Addr} {items : Array Value} {Q : List Value → Shared → Prop} (q : Quiet A s.heap) (ht : IsTup s.heap t items)
    (hQ : ∀ h', Heap.ExtBut s.heap.objs.size s.heap h' → Q items.toList { s with heap := h' }) : wpAny (model prog w) A (unpackItems (.ref t) items.size none) Q E s := by
  have hlt : t ≠ s.heap.objs.size := by obtain ⟨o, ho, _⟩ := ht; exact Nat.ne_of_lt (Heap.lt_size ho)
  have hx : ∀ x, A.handled = some (.ref x) → x ≠ s.heap.objs.size := fun x hx => by
    rcases q with q | ⟨y, o, vs, h1, h2, _⟩
    · rw [q] at hx; cases hx
    · rw [h1] at hx; cases hx; exact Nat.ne_of_lt (Heap.lt_size h2)
  unfold unpackItems notIterableAtAll
  refine wpAny_bind (wpAny_bind (wpAny_specialOf ht.typeIs slot_tuple_iter.lookup (wpAny_pure ?_)))
  simp only [Bool.false_eq_true, if_false]
  refine wpAny_bind (wpAny_holding (iter_tuple ht (wpAny_bind (wpAny_holding (draw_tuple hlt items.size 0 _ _ ⟨_, Heap.get?_push_size _ rfl, rfl, rfl⟩ (ht.push _) (Nat.le_of_eq (Nat.zero_add _)) fun h₁ hit hs => ?_)))))
  have hall : List.take items.size (List.drop 0 items.toList) = items.toList := List.take_of_length_le (Nat.le_of_eq rfl)
  rw [hall, if_neg (by simp)]
  have q₁ : Quiet A h₁ := q.imp_right fun z => by
    obtain ⟨x, ox, vs, h1, h2, h3⟩ := z
    exact ⟨x, ox, vs, h1, hs.extBut x ox (hx x h1) (Heap.get?_push_of_some _ h2), h3⟩
  refine wpAny_bind (wpAny_holding (tup_end q₁ hx hit ((ht.push _).extBut hs.extBut hlt) (by simp) fun h₂ he => ?_))
  simp only [Option.isSome_none, Bool.false_eq_true, if_false]
  exact wpAny_pure (hQ h₂ fun b o hb e => he b o hb (hs.extBut b o hb (Heap.get?_push_of_some _ e)))
theorem assign_quiet {env : Env} {elts : List Expr} {x1} {pos : Pos} {t : Addr} {items : Array Value} {Q : Unit → Shared → Prop} (q : Quiet A s.heap) (ht : IsTup s.heap t items)
    (hn : (assignEach elts env).length = items.size) (hstar : (assignEach elts env).findIdx? (·.1) = none)
    (h : ∀ h', Heap.ExtBut s.heap.objs.size s.heap h' → wpAny (model prog w) A (assignInOrder ((assignEach elts env).map (·.2)) items.toList) Q E { s with heap := h' }) :
    wpAny (model prog w) A (assign (.Tuple elts x1 pos) env (.ref t)) Q E s := by
  rw [assign_Tuple]
  refine wpAny_bind (wpAny_standAt ?_)
  unfold unpack
  rw [hn, hstar]
  exact wpAny_bind (wpAny_holding (unpack_quiet q ht h))
end
end Mine

set_option linter.unusedVariables false
namespace Mine
open PySem PySem.W PyProof.Rows

noncomputable def Own (env : Env) (sc : Scope) (a : Addr) : Prop := a = env.locals ∨ ∃ x, sc.names.lookup x = some .cell ∧ env.cells.lookup x = some a

section
variable (prog : Program) (w : World) (F : Tab) (B : Heap)

noncomputable def Tab.addr (F : Tab) : Fn → Option Addr
  | .top n => F.fn n
  | .meth c n => F.meth c n
noncomputable def FrAt (B : Heap) (σ : Store) (h : Heap) : List Env → Prop
  | [] => True
  | e :: r => (e.scope.kind ≠ .module ∧ ∃ L o, e.frame = some L ∧ B.get? L = none ∧ σ L = none ∧ h.get? L = some o ∧ ∀ vs, o.data ≠ .fields vs) ∧ FrAt B σ h r
noncomputable def Exo (K : Addr) (o : Obj) : Prop := o.cls = .ref K ∧ ∃ vs, o.data = .fields vs ∧ vs[2]? = some Value.none
theorem Exo.steady (K : Addr) : Steady (Exo K) := fun o v h => by
  obtain ⟨h1, vs, h2, h3⟩ := h
  exact ⟨(Obj.cls_mapFields _ _).trans h1, _, Obj.data_mapFields h2 _, by rw [Array.getElem?_setIfInBounds_ne (by decide)]; exact h3⟩
noncomputable def RaP (A : Around) (σ : Store) (s : Shared) (X : Str → Store → Prop) (v : Value) (s' : Shared) : Prop :=
  ∃ c K p σ₁ s₁ base l, (v = .ref p ∧ A.frames = some l ∧ (F.cls c = some K ∧ F.isx c = true) ∧ X c σ₁) ∧ Inv prog w F B σ₁ s₁.heap ∧ Go (fun _ => False) σ s σ₁ s₁ ∧ (∃ h', s' = { s₁ with heap := h' }) ∧ s₁.heap.UpToSlots s'.heap ∧
    FlyP (Exo K) base l p .none s'.heap ∧ ∀ b o, s₁.heap.get? b = some o → (∀ e ∈ l, e.frame ≠ some b) → (σ₁ b ≠ none ∨ Frozen o ∨ ∃ o', s.heap.get? b = some o') → base.get? b = some o
noncomputable def ExcAt (B : Heap) (K : Addr) : Prop := ∃ x mg bn newId initId bmB, OwnCls x K bmB newId mg B ∧ ExcBaseFacts bn newId initId bmB

inductive FlRel (F : Tab) (h : Heap) : Flow → Fl → Prop
  | next : FlRel F h .next .next
  | ret {v : Value} {a : Val} : VRel F h v a → FlRel F h (.ret v) (.ret a)

noncomputable def NxP (env : Env) (sc : Scope) (σ : Store) (s : Shared) (Q : Fl → Rho → Store → Prop) (f : Flow) (s' : Shared) : Prop :=
  ∃ fl ρ' σ', FlRel F s'.heap f fl ∧ St prog w F B env ρ' σ' s' ∧ Go (Own env sc) σ s σ' s' ∧ Q fl ρ' σ'

structure Sta (C : Cx) (A : Around) (env : Env) (sc : Scope) : Prop where
  kind : env.scope.kind = .function
  names : ∀ x, env.kindOf x = sc.names.lookup x ∨ (sc.names.lookup x = some .free ∧ env.kindOf x = some .cell)
  dbg : sc.names.lookup ("__debug__" : Str) = none
  cdict : sc.names.lookup ("__classdict__" : Str) = none
  cells : ∀ x, env.kindOf x = some .cell ∨ env.kindOf x = some .free → ∃ c, env.cells.lookup x = some c
  apart : ∀ x y c, env.cells.lookup x = some c → env.cells.lookup y = some c → x = y
  glob : ∀ x v, C.gl x = some v → ∀ (s : Shared) (Q : Value → Shared → Prop) (E : Value → Shared → Prop), (∀ a o, B.get? a = some o → s.heap.get? a = some o) → (∀ val, VRel F s.heap val v → Q val s) → wpAny (model prog w) A (loadGlobal env x) Q E s
  units : A.units + 70 < cLine
  calm : C.calm = true → A.handled = none
  hd : ∀ e, C.hd = some e → A.handled = some (.ref e)
  sys : ∃ o, B.get? sysModules = some o
  fns : ∀ n a, F.fn n = some a → ∃ o fd, B.get? a = some o ∧ o.data = .func fd
  call : ∀ env n vs ρ σ Q E, C.call (.top n) vs σ Q → ∀ s vals a, F.fn n = some a → St prog w F B env ρ σ s → VRels F s.heap vals vs →
    wpAny (model prog w) A (PySem.call (.ref a) vals) (EvP prog w F B env ρ σ s Q) E s
  clsK : ∀ c a, F.cls c = some a → C.isx c = false → ∃ k, (k = Keeper.frame ∨ k = Keeper.machine ∨ k = Keeper.boundFrame) ∧ Looks (model prog w) B (keeperOf (.ref a)) k
  make : ∀ env c vs ρ σ Q E, newInst C c vs σ Q → ∀ s vals a, F.cls c = some a → St prog w F B env ρ σ s → VRels F s.heap vals vs →
    wpAny (model prog w) A (PySem.call (.ref a) vals) (EvP prog w F B env ρ σ s Q) E s
  attr : ∀ env v a n ρ σ s Q E, St prog w F B env ρ σ s → VRel F s.heap v a → getattr a n σ Q → wpAny (model prog w) A (getAttr v n true) (EvP prog w F B env ρ σ s Q) E s
  sattr : ∀ env v a n x b ρ σ s Q E, St prog w F B env ρ σ s → VRel F s.heap v a → VRel F s.heap x b → setattr a n b σ Q → wpAny (model prog w) A (setAttr v n x) (UnP prog w F B env ρ σ s Q) E s
  meth : ∀ c n, C.mth c n = true → ∃ f, F.meth c n = some f ∧ ∀ env p ρ σ s Q E pl, St prog w F B env ρ σ s → methKind (.ref p) n σ = some (.inst c p) → Q (.ref f, [.ref p]) s → wpAny (model prog w) A (getMethod (.ref p) n pl) Q E s
  methFn : ∀ c n f, F.meth c n = some f → ∃ o fd, B.get? f = some o ∧ o.data = .func fd
  mcall : ∀ env c n vs ρ σ Q E, C.call (.meth c n) vs σ Q → ∀ s vals a, F.meth c n = some a → St prog w F B env ρ σ s → VRels F s.heap vals vs →
    wpAny (model prog w) A (PySem.call (.ref a) vals) (EvP prog w F B env ρ σ s Q) E s
  xis : XIs prog w F B
  isx : C.isx = F.isx
  up : C.up = F.up
  qcall : ∀ f vs σ Q, C.qcall f vs σ Q → C.call f vs σ Q
  rcall : C.loud = true → ∀ f vs ρ σ X, C.rcall f vs σ X → ∀ s vals a l, F.addr f = some a → A.frames = some l → FrAt B σ s.heap l → St prog w F B env ρ σ s → VRels F s.heap vals vs → wpAny (model prog w) A (PySem.call (.ref a) vals) (fun _ _ => False) (RaP prog w F B A σ s X) s
  rmake : C.loud = true → ∀ c vs ρ σ X, rcallV C (.cls c) vs σ X → ∀ s vals a l, F.cls c = some a → A.frames = some l → FrAt B σ s.heap l → St prog w F B env ρ σ s → VRels F s.heap vals vs → wpAny (model prog w) A (PySem.call (.ref a) vals) (fun _ _ => False) (RaP prog w F B A σ s X) s
  exn : C.loud = true → ∀ c, C.isx c = true → ∃ K, F.cls c = some K ∧ ExcAt B K
end

section
variable {prog : Program} {w : World} {F : Tab} {B : Heap} {env : Env} {sc : Scope} {C : Cx} {ρ : Rho} {σ σ₁ σ' : Store} {s s₁ s' : Shared} {A : Around} {E : Value → Shared → Prop}

theorem Go.owns {σ σ' : Store} {s s' : Shared} (g : GoE env σ s σ' s') : Go (Own env sc) σ s σ' s' := g.mono fun a o _ h => .inl h

theorem St.frozenO (S : St prog w F B env ρ σ s) (g : Go (Own env sc) σ s σ' s') : ∀ a o, s.heap.get? a = some o → Frozen o → s'.heap.get? a = some o :=
  g.frozen S.inv fun a o hp e hf => by
    rcases hp with rfl | ⟨x, _, hx⟩
    · obtain ⟨⟨m, hn, _⟩, _⟩ := S.fra.rho; exact ns_thaw hn o e hf
    · obtain ⟨_, _, v, oc, e', hd⟩ := S.fra.offC x a hx
      rw [e] at e'; cases e'; exact hf.2.2 _ hd
theorem St.valO (S : St prog w F B env ρ σ s) (g : Go (Own env sc) σ s σ' s') {v : Value} {a : Val} (h : VRel F s.heap v a) : VRel F s'.heap v a := h.mono (S.frozenO g)

theorem Sta.hush (T : Sta prog w F B C A env sc) : Sta prog w F B C.hush A env sc :=
  { T with qcall := fun _ _ _ _ h => h, call := fun env n vs ρ σ Q E h => T.call env n vs ρ σ Q E (T.qcall _ _ _ _ h), make := fun env c vs ρ σ Q E h => T.make env c vs ρ σ Q E ⟨h.1, fun p dx a b d => T.qcall _ _ _ _ (h.2 p dx a b d)⟩, attr := T.attr, sattr := T.sattr, meth := T.meth, mcall := fun env c n vs ρ σ Q E h => T.mcall env c n vs ρ σ Q E (T.qcall _ _ _ _ h), rcall := nofun, rmake := nofun, exn := nofun }

theorem pair_quiet (T : Sta prog w F B C A env sc) (S : St prog w F B env ρ σ s) (h : C.pairOk σ) : Quiet A s.heap := by
  rcases h with h | ⟨e, c, up, h1, h2⟩
  · exact .inl (T.calm h)
  · obtain ⟨K, o, _, h3, _, vs, h4, h5⟩ := (S.inv.obj e _ h2).2
    exact .inr ⟨e, o, vs, T.hd e h1, h3, h4, h5⟩
theorem load_sound {x : Str} {pos : Pos} {Q : VPost} {a : Val} (T : Sta prog w F B C A env sc) (S : St prog w F B env ρ σ s)
    (hk : sc.names.lookup x = some .local ∨ sc.names.lookup x = some .cell ∨ sc.names.lookup x = some .free) (ha : ρ x = some a) (h : Q a σ) :
    wpAny (model prog w) A (eval (.Name x pos) env) (EvP prog w F B env ρ σ s Q) E s := by
  have hd : (x == ("__debug__" : Str)) = false := by
    rw [beq_eq_false_iff_ne]; rintro rfl; rw [T.dbg] at hk; simp at hk
  have hcd : (x == ("__classdict__" : Str)) = false := by
    rw [beq_eq_false_iff_ne]; rintro rfl; rw [T.cdict] at hk; simp at hk
  refine wpAny_Name ?_ hd
  have hcel : env.kindOf x = some .cell ∨ env.kindOf x = some .free → wpAny (model prog w) A (loadName env x) (EvP prog w F B env ρ σ s Q) E s := by
    intro hx
    obtain ⟨c, v, h1, h2, h3⟩ := S.fra.rho.cel x a hx ha
    rcases hx with hx | hx
    · exact wpAny_loadName_cell T.kind hx h1 h2 (EvP.now S h3 h)
    · exact wpAny_loadName_free T.kind hx h1 h2 (EvP.now S h3 h) hcd
  rcases T.names x with e | ⟨e1, e2⟩
  · rcases hk with hk | hk | hk
    · obtain ⟨m, hm, hl⟩ := S.fra.rho.loc
      rw [hk] at e
      obtain ⟨v, h1, h2⟩ := hl x a e ha
      exact wpAny_loadName_local T.kind e hm h1 (EvP.now S h2 h)
    · exact hcel (.inl (e.trans hk))
    · exact hcel (.inr (e.trans hk))
  · exact hcel (.inl e2)

theorem glob_at {x : Str} {pos : Pos} {Q : Value → Shared → Prop} {a : Val} (T : Sta prog w F B C A env sc) (hB : ∀ b o, B.get? b = some o → s.heap.get? b = some o)
    (hk : sc.names.lookup x = some .globalImplicit) (ha : C.gl x = some a) (h : ∀ val, VRel F s.heap val a → Q val s) : wpAny (model prog w) A (eval (.Name x pos) env) Q E s := by
  have hd : (x == ("__debug__" : Str)) = false := by
    rw [beq_eq_false_iff_ne]; rintro rfl; rw [T.dbg] at hk; simp at hk
  have hx : env.kindOf x = some .globalImplicit := by
    rcases T.names x with e | ⟨e1, e2⟩
    · exact e.trans hk
    · rw [hk] at e1; cases e1
  exact Calls.Name_function_global T.kind hx (T.glob x a ha s _ _ hB h) hd
theorem glob_sound {x : Str} {pos : Pos} {Q : VPost} {a : Val} (T : Sta prog w F B C A env sc) (S : St prog w F B env ρ σ s)
    (hk : sc.names.lookup x = some .globalImplicit) (ha : C.gl x = some a) (h : Q a σ) :
    wpAny (model prog w) A (eval (.Name x pos) env) (EvP prog w F B env ρ σ s Q) E s := glob_at T S.inv.keep hk ha fun val hv => EvP.now S hv h

theorem store_sound {x : Str} {v : Value} {a : Val} {Q : Unit → Shared → Prop} (T : Sta prog w F B C A env sc) (S : St prog w F B env ρ σ s) (hl : isLoc sc x = true) (hv : VRel F s.heap v a)
    (h : ∀ s', St prog w F B env (upd ρ x a) σ s' → Go (Own env sc) σ s σ s' → Q () s') : wpAny (model prog w) A (storeName env x v) Q E s := by
  have hp : (env.scope.kind == .class || (env.scope.kind == .module && env.locals != env.globals)) = false := by rw [T.kind]; rfl
  obtain ⟨m, hm, hlo⟩ := S.fra.rho.loc
  have hL0 : ∃ o, s.heap.get? env.locals = some o := let ⟨o, _, _, e, _⟩ := hm; ⟨o, e⟩
  have key : env.kindOf x = some .local ∨ (env.kindOf x = some .cell ∧ sc.names.lookup x = some .cell) := by
    unfold isLoc at hl
    rcases T.names x with e | ⟨e1, e2⟩
    · split at hl
      · rename_i hq; exact .inl (e.trans hq)
      · rename_i hq; exact .inr ⟨e.trans hq, hq⟩
      · cases hl
    · rw [e1] at hl; cases hl
  rcases key with hx | ⟨hx, hsx⟩
  · refine wpAny_storeName_local hx hm (fun h' hn' hs' => ?_) hp
    have hk : ∀ a o, a ≠ env.locals → s.heap.get? a = some o → h'.get? a = some o := fun a o hne e => hs'.extBut a o hne e
    have g : Go (Own env sc) σ s σ { s with heap := h', toks := s.toks + 1 } := by
      refine ⟨⟨_, _, rfl⟩, fun a o hP e _ => hk a o (fun q => hP (.inl q)) e, fun a o e => ?_, fun _ a b => absurd a b, fun _ a => a⟩
      · by_cases ha : a = env.locals
        · subst ha; obtain ⟨o', _, _, e', _⟩ := hn'; exact ⟨o', e'⟩
        · exact ⟨o, hk a o ha e⟩
    have fz := S.frozenO g
    refine h _ ⟨⟨fun a o e => hk a o (by rintro rfl; rw [S.offB] at e; cases e) (S.inv.keep a o e), fun a o e => ⟨(S.inv.obj a o e).1, ?_⟩, S.inv.scr⟩, ⟨⟨⟨_, hn', fun y b h1 h2 => ?_⟩, fun y b h1 h2 => ?_⟩, S.fra.offL, fun y c hc => ?_⟩, S.offB, S.offC⟩ g
    · obtain ⟨ob, e1, _⟩ := ORel.live prog w F (S.inv.obj a o e).2
      have hne : a ≠ env.locals := by rintro rfl; rw [S.fra.offL] at e; cases e
      exact ORel.mono prog w F fz ((hk a ob hne e1).trans e1.symm) (S.inv.obj a o e).2
    · unfold upd at h2
      by_cases hy : y = x
      · subst hy; rw [if_pos rfl] at h2; cases h2
        exact ⟨v, by simp, hv.mono fz⟩
      · rw [if_neg hy] at h2
        obtain ⟨v', h3, h4⟩ := hlo y b h1 h2
        exact ⟨v', by simp [hy, h3], h4.mono fz⟩
    · have hy : y ≠ x := by rintro rfl; rw [hx] at h1; simp at h1
      unfold upd at h2; rw [if_neg hy] at h2
      obtain ⟨c, v', h3, ⟨oc, h4, h5⟩, h6⟩ := S.fra.rho.cel y b h1 h2
      exact ⟨c, v', h3, ⟨oc, hk _ _ (S.fra.offC y c h3).2.1 h4, h5⟩, h6.mono fz⟩
    · obtain ⟨h1, h2, v', oc, h3, h4⟩ := S.fra.offC y c hc
      exact ⟨h1, h2, v', oc, hk _ _ h2 h3, h4⟩
  · obtain ⟨c, hc⟩ := T.cells x (.inl hx)
    obtain ⟨k1, k2, v0, hv0⟩ := S.fra.offC x c hc
    refine wpAny_storeName_cell T.kind hx hc hv0 fun h' hc' hs' => ?_
    have hk : ∀ a o, a ≠ c → s.heap.get? a = some o → h'.get? a = some o := fun a o hne e => hs'.extBut a o hne e
    have g : Go (Own env sc) σ s σ { s with heap := h' } := by
      refine ⟨⟨_, _, rfl⟩, fun a o hP e _ => hk a o (fun q => hP (.inr ⟨x, hsx, q ▸ hc⟩)) e, fun a o e => ?_, fun _ a b => absurd a b, fun _ a => a⟩
      · by_cases ha : a = c
        · subst ha; obtain ⟨o', e', _⟩ := hc'; exact ⟨o', e'⟩
        · exact ⟨o, hk a o ha e⟩
    have fz := S.frozenO g
    have hBc : B.get? c = none := S.offC x c hc
    refine h _ ⟨⟨fun a o e => hk a o (by rintro rfl; rw [hBc] at e; cases e) (S.inv.keep a o e), fun a o e => ⟨(S.inv.obj a o e).1, ?_⟩, S.inv.scr⟩, ⟨⟨⟨m, hm.at' fun o e => hk _ o (Ne.symm k2) e, fun y b h1 h2 => ?_⟩, fun y b h1 h2 => ?_⟩, S.fra.offL, fun y d hd => ?_⟩, S.offB, S.offC⟩ g
    · obtain ⟨ob, e1, _⟩ := ORel.live prog w F (S.inv.obj a o e).2
      have hne : a ≠ c := by rintro rfl; rw [k1] at e; cases e
      exact ORel.mono prog w F fz ((hk a ob hne e1).trans e1.symm) (S.inv.obj a o e).2
    · have hy : y ≠ x := by rintro rfl; rw [hx] at h1; cases h1
      unfold upd at h2; rw [if_neg hy] at h2
      obtain ⟨v', h3, h4⟩ := hlo y b h1 h2
      exact ⟨v', h3, h4.mono fz⟩
    · unfold upd at h2
      by_cases hy : y = x
      · subst hy; rw [if_pos rfl] at h2; cases h2
        exact ⟨c, v, hc, hc', hv.mono fz⟩
      · rw [if_neg hy] at h2
        obtain ⟨d, v', h3, ⟨oc, h4, h5⟩, h6⟩ := S.fra.rho.cel y b h1 h2
        exact ⟨d, v', h3, ⟨oc, hk _ _ (by rintro rfl; exact hy (T.apart _ _ _ h3 hc)) h4, h5⟩, h6.mono fz⟩
    · obtain ⟨h1, h2, v', oc, h3, h4⟩ := S.fra.offC y d hd
      by_cases hdc : d = c
      · subst hdc; exact ⟨h1, h2, _, hc'⟩
      · exact ⟨h1, h2, v', oc, hk _ _ hdc h3, h4⟩
end
end Mine

set_option linter.unusedVariables false
namespace Mine
open PySem PySem.W PyProof.Rows

section
variable (prog : Program) (w : World) (F : Tab) (B : Heap)
noncomputable def EvsP (env : Env) (ρ : Rho) (σ : Store) (s : Shared) (k : Nat) (Q : List Val → Store → Prop) (vs : List Value) (s' : Shared) : Prop :=
  vs.length = k ∧ ∃ as σ', VRels F s'.heap vs as ∧ St prog w F B env ρ σ' s' ∧ GoE env σ s σ' s' ∧ Q as σ'
noncomputable def OptP (env : Env) (ρ : Rho) (σ : Store) (s : Shared) (Q : Option Int → Store → Prop) (v : Value) (s' : Shared) : Prop :=
  ∃ o σ', IsPart v o ∧ St prog w F B env ρ σ' s' ∧ GoE env σ s σ' s' ∧ Q o σ'

structure Snd (n : Nat) : Prop where
  ev : ∀ {C : Cx} {A : Around} {env : Env} {sc : Scope} {e : Expr} {ρ : Rho} {σ : Store} {s : Shared} {Q : VPost} {E : Value → Shared → Prop}, Sta prog w F B C A env sc → St prog w F B env ρ σ s → Mine.ev C n sc e ρ σ Q →
    wpAny (model prog w) A (eval e env) (EvP prog w F B env ρ σ s Q) E s
  evs : ∀ {C : Cx} {A : Around} {env : Env} {sc : Scope} {es : List Expr} {ρ : Rho} {σ : Store} {s : Shared} {Q : List Val → Store → Prop} {E : Value → Shared → Prop} (pos : Pos), Sta prog w F B C A env sc → St prog w F B env ρ σ s → fewArgs es = true → Mine.evs C n sc es ρ σ Q →
    wpAny (model prog w) A (spliced (backTo pos (starEach es env))) (EvsP prog w F B env ρ σ s es.length Q) E s
  opt : ∀ {C : Cx} {A : Around} {env : Env} {sc : Scope} {e : Option Expr} {ρ : Rho} {σ : Store} {s : Shared} {Q : Option Int → Store → Prop} {E : Value → Shared → Prop}, Sta prog w F B C A env sc → St prog w F B env ρ σ s → Mine.evOpt C n sc e ρ σ Q →
    wpAny (model prog w) A (valueOrNone (evalOpt e env)) (OptP prog w F B env ρ σ s Q) E s
  bool : ∀ {C : Cx} {A : Around} {env : Env} {sc : Scope} {op : BoolOp} {es : List Expr} {ρ : Rho} {σ : Store} {s : Shared} {Q : VPost} {E : Value → Shared → Prop} (pos : Pos), Sta prog w F B C A env sc → St prog w F B env ρ σ s → Mine.evBool C n sc op es ρ σ Q →
    wpAny (model prog w) A (boolOp pos op (evalEach es env)) (EvP prog w F B env ρ σ s Q) E s
  cmp : ∀ {C : Cx} {A : Around} {env : Env} {sc : Scope} {v : Value} {a : Val} {ops : List CmpOp} {rs : List Expr} {ρ : Rho} {σ : Store} {s : Shared} {Q : BPost} {E : Value → Shared → Prop} (pos : Pos), Sta prog w F B C A env sc → St prog w F B env ρ σ s → VRel F s.heap v a → Mine.evCmp C n sc a ops rs ρ σ Q →
    wpAny (model prog w) A (compareChain pos v ops (markedEach ops rs (evalEach rs env))) (fun x s' => ∃ r, x = .bool r ∧ TsP prog w F B env ρ σ s Q r s') E s
  tcmp : ∀ {C : Cx} {A : Around} {env : Env} {sc : Scope} {v : Value} {a : Val} {ops : List CmpOp} {rs : List Expr} {ρ : Rho} {σ : Store} {s : Shared} {Q : BPost} {E : Value → Shared → Prop} (pos : Pos), Sta prog w F B C A env sc → St prog w F B env ρ σ s → VRel F s.heap v a → Mine.evCmp C n sc a ops rs ρ σ Q →
    wpAny (model prog w) A (testChain pos v ops (markedEach ops rs (evalEach rs env))) (TsP prog w F B env ρ σ s Q) E s
  tst : ∀ {C : Cx} {A : Around} {env : Env} {sc : Scope} {e : Expr} {ρ : Rho} {σ : Store} {s : Shared} {Q : BPost} {E : Value → Shared → Prop}, Sta prog w F B C A env sc → St prog w F B env ρ σ s → Mine.tst C n sc e ρ σ Q →
    wpAny (model prog w) A (isTrue e env (eval e env)) (TsP prog w F B env ρ σ s Q) E s
  all : ∀ {C : Cx} {A : Around} {env : Env} {sc : Scope} {op : BoolOp} {es : List Expr} {ρ : Rho} {σ : Store} {s : Shared} {Q : BPost} {E : Value → Shared → Prop}, Sta prog w F B C A env sc → St prog w F B env ρ σ s → Mine.tstAll C n sc op es ρ σ Q →
    wpAny (model prog w) A (allTrue op es env) (TsP prog w F B env ρ σ s Q) E s
  ifs : ∀ {C : Cx} {A : Around} {env : Env} {sc : Scope} {es : List Expr} {ρ : Rho} {σ : Store} {s : Shared} {Q : BPost} {E : Value → Shared → Prop}, Sta prog w F B C A env sc → St prog w F B env ρ σ s → Mine.evIfs C n sc es ρ σ Q →
    wpAny (model prog w) A (forIn es true fun c r => if r = true then do let ok ← isTrue c env (eval c env); pure (ForInStep.yield ok) else pure (ForInStep.yield r)) (TsP prog w F B env ρ σ s Q) E s
end

section
variable {prog : Program} {w : World} {F : Tab} {B : Heap} {env : Env} {sc : Scope} {C : Cx} {ρ : Rho} {σ σ₁ σ' : Store} {s s₁ s' : Shared} {A : Around} {E : Value → Shared → Prop} {n : Nat} {X : VPost}

theorem shiftV {m : Sem Value} {Q : VPost} (g : GoE env σ s σ₁ s₁) (h : wpAny (model prog w) A m (EvP prog w F B env ρ σ₁ s₁ Q) E s') :
    wpAny (model prog w) A m (EvP prog w F B env ρ σ s Q) E s' := wpAny_mono h (fun _ _ q => q.back g) (fun _ _ q => q)
theorem shiftB {m : Sem Bool} {Q : BPost} (g : GoE env σ s σ₁ s₁) (h : wpAny (model prog w) A m (TsP prog w F B env ρ σ₁ s₁ Q) E s') :
    wpAny (model prog w) A m (TsP prog w F B env ρ σ s Q) E s' := wpAny_mono h (fun _ _ q => q.back g) (fun _ _ q => q)
theorem EvP.bind {m : Sem Value} {Q : VPost} {R : Value → Shared → Prop} (h : wpAny (model prog w) A m (EvP prog w F B env ρ σ s Q) E s)
    (k : ∀ v a σ₁ s₁, VRel F s₁.heap v a → St prog w F B env ρ σ₁ s₁ → GoE env σ s σ₁ s₁ → Q a σ₁ → R v s₁) : wpAny (model prog w) A m R E s :=
  wpAny_mono h (fun v s₁ ⟨a, σ₁, h1, h2, h3, h4⟩ => k v a σ₁ s₁ h1 h2 h3 h4) fun _ _ x => x
theorem TsP.bind {m : Sem Bool} {Q : BPost} {R : Bool → Shared → Prop} (h : wpAny (model prog w) A m (TsP prog w F B env ρ σ s Q) E s)
    (k : ∀ b σ₁ s₁, St prog w F B env ρ σ₁ s₁ → GoE env σ s σ₁ s₁ → Q b σ₁ → R b s₁) : wpAny (model prog w) A m R E s :=
  wpAny_mono h (fun v s₁ ⟨σ₁, h2, h3, h4⟩ => k v σ₁ s₁ h2 h3 h4) fun _ _ x => x

theorem ev_notSet {op : CmpOp} {e : Expr} {Q : VPost} (h : ev C n sc e ρ σ Q) : behindInMarks op e = false := by
  cases n with
  | zero => exact False.elim h
  | succ n => cases e <;> first | rfl | exact False.elim h
theorem star_plain {e : Expr} {r : List Expr} (h : fewArgs (e :: r) = true) : starEach (e :: r) env = (false, eval e env) :: starEach r env ∧ fewArgs r = true ∧ r.length < 20 := by
  cases e <;> first | (simp [fewArgs] at h; done) | (simp only [fewArgs, Bool.and_eq_true, decide_eq_true_eq] at h; exact ⟨rfl, h.1, h.2⟩)

theorem snd_evs (ih : Snd prog w F B n) : ∀ {C : Cx} {A : Around} {env : Env} {sc : Scope} {es : List Expr} {ρ : Rho} {σ : Store} {s : Shared} {Q : List Val → Store → Prop} {E : Value → Shared → Prop} (pos : Pos), Sta prog w F B C A env sc → St prog w F B env ρ σ s → fewArgs es = true → Mine.evs C (n + 1) sc es ρ σ Q →
    wpAny (model prog w) A (spliced (backTo pos (starEach es env))) (EvsP prog w F B env ρ σ s es.length Q) E s := by
  intro C A env sc es ρ σ s Q E pos T S hf h
  cases es with
  | nil => exact wpAny_items_nil ⟨rfl, [], σ, .nil, S, Go.refl _ _ _, h⟩
  | cons e r =>
    rw [evs_1] at h
    obtain ⟨h1, h2, h3⟩ := star_plain (env := env) hf
    refine wpAny_items_cons (EvP.bind (ih.ev T S h) fun v a σ₁ s₁ hv S₁ g hq => ?_) h1
    refine wpAny_mono (ih.evs pos T S₁ h2 hq) (fun vs s₂ ⟨hl, as, σ₂, q1, q2, q3, q4⟩ => ⟨by rw [List.length_cons, List.length_cons, hl], a :: as, σ₂, .cons (S₁.val q3 hv) q1, q2, g.trans q3, q4⟩) fun _ _ q => q

theorem snd_opt (ih : Snd prog w F B n) : ∀ {C : Cx} {A : Around} {env : Env} {sc : Scope} {e : Option Expr} {ρ : Rho} {σ : Store} {s : Shared} {Q : Option Int → Store → Prop} {E : Value → Shared → Prop}, Sta prog w F B C A env sc → St prog w F B env ρ σ s → Mine.evOpt C (n + 1) sc e ρ σ Q →
    wpAny (model prog w) A (valueOrNone (evalOpt e env)) (OptP prog w F B env ρ σ s Q) E s := by
  intro C A env sc e ρ σ s Q E T S h
  cases e with
  | none => exact wpAny_pure ⟨none, σ, .none, S, Go.refl _ _ _, h⟩
  | some e =>
    rw [evOpt_1] at h
    show wpAny _ A (eval e env) _ _ s
    refine EvP.bind (ih.ev T S h) fun v a σ₁ s₁ hv S₁ g hq => ?_
    split at hq
    · cases hv; exact ⟨some _, σ₁, .int _ _, S₁, g, hq⟩
    · exact hq.elim

theorem snd_bool (ih : Snd prog w F B n) : ∀ {C : Cx} {A : Around} {env : Env} {sc : Scope} {op : BoolOp} {es : List Expr} {ρ : Rho} {σ : Store} {s : Shared} {Q : VPost} {E : Value → Shared → Prop} (pos : Pos), Sta prog w F B C A env sc → St prog w F B env ρ σ s → Mine.evBool C (n + 1) sc op es ρ σ Q →
    wpAny (model prog w) A (boolOp pos op (evalEach es env)) (EvP prog w F B env ρ σ s Q) E s := by
  intro C A env sc op es ρ σ s Q E pos T S h
  match es with
  | [] => exact False.elim h
  | [e] =>
    rw [evBool_1] at h
    show wpAny _ A (eval e env) _ _ s
    exact ih.ev T S h
  | e :: e' :: r =>
    have h : ev C n sc e ρ σ fun v σ₁ => truth v σ₁ fun b σ₂ => (match (generalizing := false) op with
      | .And => (b = false → Q v σ₂) ∧ (b = true → evBool C n sc op (e' :: r) ρ σ₂ Q)
      | .Or => (b = true → Q v σ₂) ∧ (b = false → evBool C n sc op (e' :: r) ρ σ₂ Q)) := h
    show wpAny _ A (do
      let v ← eval e env
      standAt pos
      let t ← holding [v] (truthy v)
      match op, t with
      | .And, false | .Or, true => pure v
      | _, _ => boolOp pos op (evalEach (e' :: r) env)) _ _ s
    refine wpAny_bind (EvP.bind (ih.ev T S h) fun v a σ₁ s₁ hv S₁ g hq => wpAny_bind (wpAny_standAt (wpAny_bind (wpAny_holding (TsP.bind (truth_sound S₁ hv hq) fun b σ₂ s₂ S₂ g₂ hb => ?_)))))
    cases op with
    | And =>
      cases b with
      | false => exact wpAny_pure (EvP.back (g.trans g₂) (EvP.now S₂ (S₁.val g₂ hv) (hb.1 rfl)))
      | true => exact shiftV (g.trans g₂) (ih.bool pos T S₂ (hb.2 rfl))
    | Or =>
      cases b with
      | true => exact wpAny_pure (EvP.back (g.trans g₂) (EvP.now S₂ (S₁.val g₂ hv) (hb.1 rfl)))
      | false => exact shiftV (g.trans g₂) (ih.bool pos T S₂ (hb.2 rfl))

theorem cmpB_bind {m : Sem Value} {Q : BPost} {R : Value → Shared → Prop} (h : wpAny (model prog w) A m (fun v s' => ∃ r, v = .bool r ∧ TsP prog w F B env ρ σ s Q r s') E s)
    (k : ∀ b σ₁ s₁, St prog w F B env ρ σ₁ s₁ → GoE env σ s σ₁ s₁ → Q b σ₁ → R (.bool b) s₁) : wpAny (model prog w) A m R E s :=
  wpAny_mono h (fun v s₁ ⟨r, e, σ₁, h2, h3, h4⟩ => by subst e; exact k r σ₁ s₁ h2 h3 h4) fun _ _ x => x

theorem snd_cmp (ih : Snd prog w F B n) : ∀ {C : Cx} {A : Around} {env : Env} {sc : Scope} {v : Value} {a : Val} {ops : List CmpOp} {rs : List Expr} {ρ : Rho} {σ : Store} {s : Shared} {Q : BPost} {E : Value → Shared → Prop} (pos : Pos), Sta prog w F B C A env sc → St prog w F B env ρ σ s → VRel F s.heap v a → Mine.evCmp C (n + 1) sc a ops rs ρ σ Q →
    wpAny (model prog w) A (compareChain pos v ops (markedEach ops rs (evalEach rs env))) (fun x s' => ∃ r, x = .bool r ∧ TsP prog w F B env ρ σ s Q r s') E s := by
  intro C A env sc v a ops rs ρ σ s Q E pos T S hv h
  match ops, rs with
  | [], _ => exact False.elim h
  | _ :: _, [] => cases ‹List CmpOp› <;> exact False.elim h
  | [op], [r] =>
    rw [evCmp_1] at h
    show wpAny _ A (do let rv ← holding [v] (markedBehindIn op r (eval r env)); standAt pos; operate [v, rv] (compareOp op v rv)) _ _ s
    rw [markedBehindIn_of_false (ev_notSet h)]
    refine wpAny_bind (wpAny_holding (EvP.bind (ih.ev T S h) fun x b σ₁ s₁ hx S₁ g hq => wpAny_bind (wpAny_standAt (wpAny_operating ?_))))
    exact cmpB_bind (cmpop_sound S₁ T.sys (S.val g hv) hx hq T.units) fun c σ₂ s₂ S₂ g₂ hc => ⟨c, rfl, σ₂, S₂, g.trans g₂, hc⟩
  | [op], r :: r' :: rs => exact False.elim h
  | op :: op' :: ops, [r] => exact False.elim h
  | op :: op' :: ops, r :: r' :: rs =>
    rw [evCmp_2] at h
    show wpAny _ A (do
      let rv ← holding [v] (eval r env)
      standAt pos
      let c ← holding [v, rv] (compareOp op v rv)
      release [v, rv] [c]
      if ← holding [c, rv] (truthy c) then compareChain pos rv (op' :: ops) (markedEach (op' :: ops) (r' :: rs) (evalEach (r' :: rs) env)) else pure c) _ _ s
    refine wpAny_bind (wpAny_holding (EvP.bind (ih.ev T S h) fun x b σ₁ s₁ hx S₁ g hq => wpAny_bind (wpAny_standAt (wpAny_bind (wpAny_holding ?_)))))
    refine cmpB_bind (cmpop_sound S₁ T.sys (S.val g hv) hx hq T.units) fun c σ₂ s₂ S₂ g₂ hc => wpAny_bind (wpAny_release (wpAny_bind (wpAny_holding (wpAny_truthy_bool ?_))))
    cases c with
    | true => exact wpAny_mono (ih.cmp pos T S₂ (S₁.val g₂ hx) (hc.1 rfl)) (fun _ _ ⟨r, e, q⟩ => ⟨r, e, q.back (g.trans g₂)⟩) fun _ _ q => q
    | false => exact wpAny_pure ⟨false, rfl, σ₂, S₂, g.trans g₂, hc.2 rfl⟩

theorem snd_tcmp (ih : Snd prog w F B n) : ∀ {C : Cx} {A : Around} {env : Env} {sc : Scope} {v : Value} {a : Val} {ops : List CmpOp} {rs : List Expr} {ρ : Rho} {σ : Store} {s : Shared} {Q : BPost} {E : Value → Shared → Prop} (pos : Pos), Sta prog w F B C A env sc → St prog w F B env ρ σ s → VRel F s.heap v a → Mine.evCmp C (n + 1) sc a ops rs ρ σ Q →
    wpAny (model prog w) A (testChain pos v ops (markedEach ops rs (evalEach rs env))) (TsP prog w F B env ρ σ s Q) E s := by
  intro C A env sc v a ops rs ρ σ s Q E pos T S hv h
  match ops, rs with
  | [], _ => exact False.elim h
  | _ :: _, [] => cases ‹List CmpOp› <;> exact False.elim h
  | [op], [r] =>
    rw [evCmp_1] at h
    show wpAny _ A (do let rv ← holding [v] (markedBehindIn op r (eval r env)); standAt pos; let c ← operate [v, rv] (compareOp op v rv); holding [c] (truthy c)) _ _ s
    rw [markedBehindIn_of_false (ev_notSet h)]
    refine wpAny_bind (wpAny_holding (EvP.bind (ih.ev T S h) fun x b σ₁ s₁ hx S₁ g hq => wpAny_bind (wpAny_standAt (wpAny_bind (wpAny_operating ?_)))))
    exact cmpB_bind (cmpop_sound S₁ T.sys (S.val g hv) hx hq T.units) fun c σ₂ s₂ S₂ g₂ hc => wpAny_holding (wpAny_truthy_bool ⟨σ₂, S₂, g.trans g₂, hc⟩)
  | [op], r :: r' :: rs => exact False.elim h
  | op :: op' :: ops, [r] => exact False.elim h
  | op :: op' :: ops, r :: r' :: rs =>
    rw [evCmp_2] at h
    show wpAny _ A (do
      let rv ← holding [v] (eval r env)
      standAt pos
      let c ← holding [v, rv] (compareOp op v rv)
      release [v, rv] [c]
      if ← holding [c, rv] (truthy c) then testChain pos rv (op' :: ops) (markedEach (op' :: ops) (r' :: rs) (evalEach (r' :: rs) env)) else pure false) _ _ s
    refine wpAny_bind (wpAny_holding (EvP.bind (ih.ev T S h) fun x b σ₁ s₁ hx S₁ g hq => wpAny_bind (wpAny_standAt (wpAny_bind (wpAny_holding ?_)))))
    refine cmpB_bind (cmpop_sound S₁ T.sys (S.val g hv) hx hq T.units) fun c σ₂ s₂ S₂ g₂ hc => wpAny_bind (wpAny_release (wpAny_bind (wpAny_holding (wpAny_truthy_bool ?_))))
    cases c with
    | true => exact shiftB (g.trans g₂) (ih.tcmp pos T S₂ (S₁.val g₂ hx) (hc.1 rfl))
    | false => exact wpAny_pure ⟨σ₂, S₂, g.trans g₂, hc.2 rfl⟩

theorem tst_value (ih : Snd prog w F B n) {e : Expr} {Q : BPost} (T : Sta prog w F B C A env sc) (S : St prog w F B env ρ σ s) (h : Mine.ev C n sc e ρ σ fun v σ₁ => truth v σ₁ Q)
    (he : isTrue e env (eval e env) = (do let v ← eval e env; standAt e.pos; holding [v] (truthy v))) :
    wpAny (model prog w) A (isTrue e env (eval e env)) (TsP prog w F B env ρ σ s Q) E s :=
  wpAny_isTrue_value (EvP.bind (ih.ev T S h) fun v a σ₁ s₁ hv S₁ g hq => wpAny_mono (truth_sound (E := fun _ _ => False) S₁ hv hq) (fun _ _ q => q.back g) fun _ _ q => q.elim) he

theorem snd_tst (ih : Snd prog w F B n) : ∀ {C : Cx} {A : Around} {env : Env} {sc : Scope} {e : Expr} {ρ : Rho} {σ : Store} {s : Shared} {Q : BPost} {E : Value → Shared → Prop}, Sta prog w F B C A env sc → St prog w F B env ρ σ s → Mine.tst C (n + 1) sc e ρ σ Q →
    wpAny (model prog w) A (isTrue e env (eval e env)) (TsP prog w F B env ρ σ s Q) E s := by
  intro C A env sc e ρ σ s Q E T S h
  cases e with
  | UnaryOp op x pos =>
    cases op with
    | Not =>
      rw [tst_Not] at h
      exact wpAny_isTrue_Not (TsP.bind (ih.tst T S h) fun b σ₁ s₁ S₁ g hq => ⟨σ₁, S₁, g, hq⟩)
    | _ => exact tst_value ih T S h rfl
  | BoolOp op vs pos => rw [tst_Bool] at h; exact wpAny_isTrue_BoolOp (ih.all T S h)
  | Compare l ops rs pos =>
    rw [tst_Cmp] at h
    rw [arm_isTrue_Compare]
    exact wpAny_bind (EvP.bind (ih.ev T S h) fun v a σ₁ s₁ hv S₁ g hq => shiftB g (ih.tcmp pos T S₁ hv hq))
  | IfExp => cases n <;> exact False.elim h
  | _ => exact tst_value ih T S h rfl

theorem snd_all (ih : Snd prog w F B n) : ∀ {C : Cx} {A : Around} {env : Env} {sc : Scope} {op : BoolOp} {es : List Expr} {ρ : Rho} {σ : Store} {s : Shared} {Q : BPost} {E : Value → Shared → Prop}, Sta prog w F B C A env sc → St prog w F B env ρ σ s → Mine.tstAll C (n + 1) sc op es ρ σ Q →
    wpAny (model prog w) A (allTrue op es env) (TsP prog w F B env ρ σ s Q) E s := by
  intro C A env sc op es ρ σ s Q E T S h
  cases es with
  | nil =>
    cases op
    · exact wpAny_allTrue_And_nil (TsP.now S h)
    · exact wpAny_allTrue_Or_nil (TsP.now S h)
  | cons e r =>
    cases op
    · rw [tstAll_1a] at h
      refine wpAny_allTrue_And_cons (TsP.bind (ih.tst T S h) fun b σ₁ s₁ S₁ g hq => ?_)
      cases b with
      | true => exact shiftB g (ih.all T S₁ (hq.2 rfl))
      | false => exact ⟨σ₁, S₁, g, hq.1 rfl⟩
    · rw [tstAll_1o] at h
      refine wpAny_allTrue_Or_cons (TsP.bind (ih.tst T S h) fun b σ₁ s₁ S₁ g hq => ?_)
      cases b with
      | false => exact shiftB g (ih.all T S₁ (hq.2 rfl))
      | true => exact ⟨σ₁, S₁, g, hq.1 rfl⟩

theorem snd_ifs (ih : Snd prog w F B n) : ∀ {C : Cx} {A : Around} {env : Env} {sc : Scope} {es : List Expr} {ρ : Rho} {σ : Store} {s : Shared} {Q : BPost} {E : Value → Shared → Prop}, Sta prog w F B C A env sc → St prog w F B env ρ σ s → Mine.evIfs C (n + 1) sc es ρ σ Q →
    wpAny (model prog w) A (forIn es true fun c r => if r = true then do let ok ← isTrue c env (eval c env); pure (ForInStep.yield ok) else pure (ForInStep.yield r)) (TsP prog w F B env ρ σ s Q) E s := by
  intro C A env sc es ρ σ s Q E T S h
  match es with
  | [] => rw [List.forIn_nil]; exact wpAny_pure (TsP.now S h)
  | [c] =>
    rw [evIfs_1] at h
    rw [List.forIn_cons]
    simp only [if_true]
    refine wpAny_bind (wpAny_bind (TsP.bind (ih.tst T S h) fun b σ₁ s₁ S₁ g hq => wpAny_pure ?_))
    show wpAny _ A (forIn [] b _) _ _ _
    rw [List.forIn_nil]
    exact wpAny_pure ⟨σ₁, S₁, g, hq⟩
  | _ :: _ :: _ => exact False.elim h
end
end Mine

set_option linter.unusedVariables false
namespace Mine
open PySem PySem.W PyProof.Rows

theorem everySecond_length : ∀ l : List Val, (everySecond l).length = (l.length + 1) / 2
  | [] => rfl
  | [x] => by simp [everySecond]
  | x :: y :: r => by simp only [everySecond, List.length_cons, everySecond_length r]; lia
noncomputable def every2 : List Value → List Value
  | [] => []
  | [x] => [x]
  | x :: _ :: r => x :: every2 r
theorem VRels.every2 {F : Tab} {h : Heap} : ∀ (n : Nat) {vs : List Value} {as : List Val}, as.length ≤ n → VRels F h vs as → VRels F h (Mine.every2 vs) (everySecond as) := by
  intro n
  induction n with
  | zero =>
    intro vs as hn r
    obtain rfl := List.length_eq_zero_iff.mp (Nat.le_zero.mp hn)
    obtain rfl := r.zero
    exact .nil
  | succ n ih =>
    intro vs as hn r
    cases as with
    | nil => obtain rfl := r.zero; exact .nil
    | cons a as =>
      obtain ⟨v, us, rfl, x, r⟩ := VRels.uncons r
      cases as with
      | nil => obtain rfl := r.zero; exact .cons x .nil
      | cons b as =>
        obtain ⟨u, us, rfl, y, r⟩ := VRels.uncons r
        exact .cons x (ih (by simp only [List.length_cons] at hn; lia) r)
theorem every2_pick : ∀ l : List Value, (List.range ((l.length + 1) / 2)).filterMap (fun k => l[2 * k]?) = every2 l
  | [] => rfl
  | [x] => by simp [every2]
  | x :: y :: r => by
    have ih := every2_pick r
    have e : ((x :: y :: r).length + 1) / 2 = (r.length + 1) / 2 + 1 := by simp only [List.length_cons]; lia
    rw [e, List.range_succ_eq_map, every2, ← ih]
    simp only [List.filterMap_cons, Nat.mul_zero, List.getElem?_cons_zero, List.filterMap_map]
    congr 1
theorem pick2 (items : Array Value) : (slicePick items none none (some 2)).toList = every2 items.toList := by
  obtain ⟨l⟩ := items
  rw [← every2_pick l]
  unfold slicePick sliceBounds sliceRange
  cases l with
  | nil => rfl
  | cons x r =>
    have e : ((((x :: r).length : Nat) : Int) - 0 + 2 - 1) / 2 = ((((x :: r).length + 1) / 2 : Nat) : Int) := by lia
    simp only [Option.getD_some, show (2 : Int) > 0 from by decide, if_true, List.size_toArray, e, Int.toNat_natCast, show (0 : Int) < (((x :: r).length : Nat) : Int) from by simp only [List.length_cons]; lia, List.filterMap_map]
    congr 1
    funext k
    simp only [Function.comp]
    have e2 : (0 + 2 * (k : Int)).toNat = 2 * k := by lia
    rw [e2]; simp

section
variable {prog : Program} {w : World} {F : Tab} {B : Heap} {env : Env} {sc : Scope} {C : Cx} {ρ : Rho} {σ σ₁ σ' : Store} {s s₁ s' : Shared} {A : Around} {E : Value → Shared → Prop} {n : Nat} {X : VPost}

theorem base_plain {o : Expr} {attr : Str} {t : Sem Value} (h : plainBase o = true) : attributeBase o attr env t = t := by
  cases o with
  | Name x p => rfl
  | Call f as ks p => cases f with
    | Attribute b m q => rfl
    | _ => exact absurd h Bool.false_ne_true
  | _ => exact absurd h Bool.false_ne_true
theorem few_all {pos : Pos} : ∀ {es : List Expr}, fewArgs es = true → (backTo pos (starEach es env)).all (fun x => !x.1) = true ∧ (backTo pos (starEach es env)).any (·.1) = false ∧ es.length ≤ 20
  | [], _ => ⟨rfl, rfl, by simp⟩
  | e :: r, h => by
    obtain ⟨h1, h2, h3⟩ := star_plain (env := env) h
    have ih := few_all (pos := pos) h2
    rw [h1]
    refine ⟨?_, ?_, by simp; lia⟩
    · show (!false && (backTo pos (starEach r env)).all fun x => !x.1) = true
      rw [ih.1]; rfl
    · show (false || (backTo pos (starEach r env)).any (·.1)) = false
      rw [ih.2.1]; rfl
theorem evalArgs_any {M : Model} {f : Value} {args : List (Bool × Sem Value)} {Q : Args → Shared → Prop} (hp : args.any (·.1) = false) (h : wpAny M A (spliced args) (fun vs s' => Q ⟨vs, []⟩ s') E s) :
    wpAny M A (evalArgs f true args []) Q E s := by
  match args, hp with
  | (true, x) :: r, hp => simp at hp
  | (false, x) :: r, _ => exact Calls.evalArgs_plain h
  | [], _ =>
    unfold evalArgs
    show wpAny M A (spliced [] >>= _) Q E s
    refine wpAny_bind (wpAny_mono h (fun vs s' h' => wpAny_bind (wpAny_pure (wpAny_holding ?_))) fun _ _ x => x)
    exact wpAny_bind (wpAny_pure (wpAny_bind (wpAny_pure (wpAny_pure h'))))

theorem callWith_dead {f : Value} {pos : Pos} {trees : List (Bool × Sem Value)} {Q : Value → Shared → Prop} {M : Model} (hp : trees.any (·.1) = false) (h : wpAny M A (spliced trees) (fun _ _ => False) E s) : wpAny M A (callWith pos f [] trees []) Q E s := by
  unfold callWith
  exact wpAny_bind (wpAny_holding (evalArgs_any hp (wpAny_mono h (fun _ _ f => f.elim) fun _ _ x => x)))
theorem callV_sound {f : Value} {fv : Val} {pos : Pos} {trees : List (Bool × Sem Value)} {Q : VPost} {k : Nat} (T : Sta prog w F B C A env sc) (S : St prog w F B env ρ σ s) (hf : VRel F s.heap f fv) (hp : trees.any (·.1) = false)
    (h : wpAny (model prog w) A (spliced trees) (EvsP prog w F B env ρ σ s k fun vs σ₂ => callV C fv vs σ₂ Q) E s) :
    wpAny (model prog w) A (callWith pos f [] trees []) (EvP prog w F B env ρ σ s Q) E s := by
  cases hf with
  | fn e =>
    rename_i m a
    obtain ⟨o, fd, h1, h2⟩ := T.fns m a e
    refine Calls.callWith_function (o := o) (fd := fd) (evalArgs_any hp (wpAny_mono h (fun vs s₂ z => ?_) fun _ _ x => x))
    obtain ⟨_, as, σ₂, q1, q2, q3, q4⟩ := z
    refine ⟨⟨q2.inv.keep _ _ h1, h2⟩, ?_⟩
    exact shiftV q3 (T.call env m as ρ σ₂ Q _ q4 s₂ vs a e q2 q1)
  | cls e =>
    rename_i m a
    by_cases hx : C.isx m = false
    case neg =>
      exact callWith_dead hp (wpAny_mono h (fun vs s₂ z => by obtain ⟨_, as, σ₂, q1, q2, q3, q4⟩ := z; exact hx q4.1) fun _ _ x => x)
    obtain ⟨k, hk, hL⟩ := T.clsK m a e hx
    refine callWith_of (P := fun h => ∀ a o, B.get? a = some o → h.get? a = some o) (by simp [hp]) (fun h hP => ⟨k, hk, hL.keeps hP⟩) (evalArgs_any hp (wpAny_mono h (fun vs s₂ z => ?_) fun _ _ x => x))
    obtain ⟨_, as, σ₂, q1, q2, q3, q4⟩ := z
    refine ⟨q2.inv.keep, ?_⟩
    exact shiftV q3 (T.make env m as ρ σ₂ Q _ q4 s₂ vs a e q2 q1)
  | blt id =>
    refine Calls.callWith_builtin hp (evalArgs_any hp (wpAny_mono h (fun vs s₂ z => ?_) fun _ _ x => x))
    obtain ⟨_, as, σ₂, q1, q2, q3, q4⟩ := z
    exact wpAny_mono (callBlt_sound (E := fun _ _ => False) T.sys T.xis T.units T.calm q2 q1 q4) (fun _ _ q => q.back q3) fun _ _ q => q.elim
  | typ Ty =>
    refine PySem.callWith_type hp (evalArgs_any hp (wpAny_mono h (fun vs s₂ z => ?_) fun _ _ x => x))
    obtain ⟨_, as, σ₂, q1, q2, q3, q4⟩ := z
    exact wpAny_mono (callTyp_sound (E := fun _ _ => False) T.sys T.calm q2 q1 q4) (fun _ _ q => q.back q3) fun _ _ q => q.elim
  | _ =>
    exact callWith_dead hp (wpAny_mono h (fun vs s₂ z => by obtain ⟨_, as, σ₂, q1, q2, q3, q4⟩ := z; exact q4) fun _ _ x => x)

theorem unop_sound {op : UnaryOp} {v : Value} {a : Val} {Q : VPost} (S : St prog w F B env ρ σ s) (hv : VRel F s.heap v a) (h : unop op a σ Q) :
    wpAny (model prog w) A (unaryOp op v) (EvP prog w F B env ρ σ s Q) E s := by
  unfold unop at h
  split at h
  · cases hv; exact P.neg_int (EvP.pure S _ (.int _ _) h)
  · exact not_value (TsP.bind (truth_sound S hv h) fun b σ₁ s₁ S₁ g hq => ⟨_, σ₁, .bool _, S₁, g, hq⟩)
  · exact h.elim

theorem slice_sound {p : Addr} {xs : List Val} {vl vu vs : Value} {l u st : Option Int} {value slice : Expr} {ops : List Value} {Q : VPost} (S : St prog w F B env ρ σ s) (hp : σ p = some (.list xs)) (pl : IsPart vl l) (pu : IsPart vu u) (ps : IsPart vs st) (h : sliceV xs l u st σ Q)
    (hs : subscripted slice false (.ref p) (.ref s.heap.objs.size) = operate ops (getItem (.ref p) (.ref s.heap.objs.size))) :
    wpAny (model prog w) A (subscriptTail value slice (.ref p) (.ref s.heap.objs.size)) (EvP prog w F B env ρ σ s Q) E { s with heap := s.heap.push { cls := .type "slice", data := .fields #[vl, vu, vs] } } := by
  have hc := cap_line
  obtain ⟨S₁, g₁⟩ := S.push { cls := .type "slice", data := .fields #[vl, vu, vs] } s.toks
  obtain ⟨i1, n1, e1, r1, z1⟩ := S₁.listAt hp
  have hl := r1.length
  simp only [Array.length_toList] at hl
  have hL : (s.heap.push { cls := .type "slice", data := .fields #[vl, vu, vs] }).IsList p i1 := ⟨_, e1, rfl, n1, rfl⟩
  have fin : ∀ ys : List Val, ys.length ≤ cap → (∀ h', VRels F h' i1.toList xs → VRels F h' (slicePick i1 l u st).toList ys) → st ≠ some 0 → (∀ c, σ c = none → Q (.ref c) (σ.set c (.list ys))) →
      wpAny (model prog w) A (subscriptTail value slice (.ref p) (.ref s.heap.objs.size)) (EvP prog w F B env ρ σ s Q) E { s with heap := s.heap.push { cls := .type "slice", data := .fields #[vl, vu, vs] } } := by
    intro ys hy hr h0 hq
    refine tail_any (s := { s with heap := s.heap.push { cls := .type "slice", data := .fields #[vl, vu, vs] } }) hL.typeIs slot_list_getitem.lookup
      (wpAny_getItem_list_slice (s := { s with heap := s.heap.push { cls := .type "slice", data := .fields #[vl, vu, vs] } }) hL (Heap.IsSliceOf.new ..) pl pu ps h0 ?_ (by lia)) hs
    refine EvP.back g₁ (EvP.alloc (ao := .list ys) S₁ ⟨_, _, Heap.get?_push_size _ rfl, hr _ (r1.mono fun a o e _ => Heap.get?_push_of_some _ e), hy⟩ hq)
  unfold sliceV at h
  split at h
  · rename_i j
    obtain ⟨⟨h1, h2⟩, h⟩ := h
    refine fin _ ?_ (fun h' r => ?_) (by simp) h
    · split <;> simp <;> lia
    · by_cases hj : 0 ≤ j
      · have e : (some j : Option Int) = some ((j.toNat : Nat) : Int) := by congr 1; lia
        rw [e, slicePick_upto', if_pos hj]; simpa using r.take _
      · have e : j = -((1 : Nat) : Int) := by lia
        rw [e, slicePick_butLast _ _ (Nat.le_refl _), if_neg (by lia), ← hl]; simpa using r.take _
  · rename_i i
    obtain ⟨⟨h1, h2⟩, h⟩ := h
    refine fin _ (by simp; lia) (fun h' r => ?_) (by simp) h
    have e : (some i : Option Int) = some ((i.toNat : Nat) : Int) := by congr 1; lia
    rw [e, slicePick_from']; simpa using r.drop _
  · rename_i k
    obtain ⟨rfl, h⟩ := h
    refine fin _ (by rw [everySecond_length]; lia) (fun h' r => ?_) (by simp) h
    rw [pick2]; exact VRels.every2 _ (Nat.le_refl _) r
  · exact h.elim

theorem snd_call_meth (ih : Snd prog w F B n) {o : Expr} {m : Str} {ap cp : Pos} {args : List Expr} {Q : VPost} (T : Sta prog w F B C A env sc) (S : St prog w F B env ρ σ s)
    (h : (plainBase o = true ∧ fewArgs args = true ∧ (ap.endLine == cp.line) = true) ∧ ev C n sc o ρ σ fun ov σ₁ => match methKind ov m σ₁ with
        | some k => methOk C k m = true ∧ evs C n sc args ρ σ₁ fun vs σ₂ => methV C k m vs σ₂ Q
        | Option.none => False) :
    wpAny (model prog w) A (eval (.Call (.Attribute o m ap) args [] cp) env) (EvP prog w F B env ρ σ s Q) E s := by
  obtain ⟨⟨hb, hf, hl⟩, h⟩ := h
  obtain ⟨f1, f2, f3⟩ := few_all (env := env) (pos := cp) hf
  rw [arm_eval_Call, base_plain hb]
  refine wpAny_bind (EvP.bind (ih.ev T S h) fun v a σ₁ s₁ hv S₁ g hq => wpAny_bind (wpAny_standAt (shiftV g ?_)))
  split at hq
  · rename_i k hk
    obtain ⟨hok, hq⟩ := hq
    have hform : methodCallForm (args.length + ([] : List Keyword).length) (backTo cp (starEach args env)) (backToKw cp (keywordEach [] env)) = true := by
      unfold methodCallForm
      rw [f1]
      simp [keywordEach, backToKw]; lia
    have hpos : methodCallPos true o env ap cp = pure cp := by unfold methodCallPos; simp [hl]
    have ha := ih.evs (E := E) cp T S₁ hf hq
    unfold methodCall
    rw [hform]
    obtain ⟨p, rfl, hkk⟩ := methKind_sees hk
    obtain rfl := hv.toRef
    rcases hkk with ⟨xs, hp, rfl⟩ | ⟨c, dx, fs, hp, hfs, hno, rfl⟩
    · obtain ⟨i1, n1, e1, r1, z1⟩ := S₁.listAt hp
      obtain ⟨id, hid⟩ : ∃ id, listId m = some id := by
        unfold listId; simp only [methOk, Bool.or_eq_true, beq_iff_eq] at hok
        rcases hok with ((e | e) | e) | e <;> subst e
        · exact ⟨_, rfl⟩
        · exact ⟨_, by rw [if_neg (by decide), if_pos rfl]⟩
        · exact ⟨_, by rw [if_neg (by decide), if_neg (by decide), if_pos rfl]⟩
        · exact ⟨_, by rw [if_neg (by decide), if_neg (by decide), if_neg (by decide), if_pos rfl]⟩
      obtain ⟨sl, ty⟩ := listId_slot hid
      refine wpAny_bind (wpAny_holding (getMethod_builtin ⟨_, e1, rfl⟩ PySem.F.plainAttrs_list sl ty (fun a ha => by cases ha; exact ⟨_, e1, rfl⟩) ?_))
      refine wpAny_bind (wpAny_of_eq hpos (Calls.callWith_builtin f2 (evalArgs_any f2 (wpAny_mono ha (fun vs s₂ ⟨_, as, σ₂, q1, q2, q3, q4⟩ => ?_) fun _ _ x => x))))
      exact wpAny_mono (listMeth_sound (E := fun _ _ => False) hid q2 q1 q4) (fun _ _ q => q.back q3) fun _ _ q => q.elim
    · obtain ⟨f, hf1, hf2⟩ := T.meth c m hok
      obtain ⟨ob, fd, h1, h2⟩ := T.methFn c m f hf1
      refine wpAny_bind (wpAny_holding (hf2 env p ρ σ₁ s₁ _ _ _ S₁ hk ?_))
      refine wpAny_bind (wpAny_of_eq hpos (Calls.callWith_function (o := ob) (fd := fd) (evalArgs_any f2 (wpAny_mono ha (fun vs s₂ ⟨_, as, σ₂, q1, q2, q3, q4⟩ => ⟨⟨q2.inv.keep _ _ h1, h2⟩, ?_⟩) fun _ _ x => x))))
      exact shiftV q3 (T.mcall env c m _ ρ σ₂ Q _ q4 s₂ (.ref p :: vs) f hf1 q2 (.cons (.ref p) q1))
  · exact hq.elim
end
end Mine

set_option linter.unusedVariables false
namespace Mine
open PySem PySem.W PyProof.Rows
section
variable {prog : Program} {w : World} {F : Tab} {B : Heap} {env : Env} {sc : Scope} {C : Cx} {ρ : Rho} {σ σ₁ σ' : Store} {s s₁ s' : Shared} {A : Around} {E : Value → Shared → Prop} {n : Nat} {X : VPost}

theorem EvP.tupd {Q : VPost} {vs : List Value} {as : List Val} {tk : Nat} (S : St prog w F B env ρ σ s) (hv : VRels F s.heap vs as) (hz : vs.length ≤ cap) (h : Q (.tup as) σ) :
    EvP prog w F B env ρ σ s Q (.ref s.heap.objs.size) { s with heap := s.heap.push { cls := .type "tuple", data := .seq vs.toArray }, toks := tk } := by
  obtain ⟨S', g⟩ := S.push { cls := .type "tuple", data := .seq vs.toArray } tk
  exact ⟨_, σ, .tup (Heap.get?_push_size _ rfl) rfl rfl (by simpa using S.vals g hv) (by simpa using hz), S', g, h⟩

theorem new_dict (S : St prog w F B env ρ σ s) : (s.heap.push { cls := .type "dict", data := .dict #[] }).DictOfH (tupleKind (intKind prog w)) s.heap.objs.size [] :=
  ⟨_, #[], 0, Heap.get?_push_size _ rfl, ⟨rfl, rfl, rfl⟩, rfl, rfl, fun x hx => by simp at hx, List.nodup_nil⟩

theorem Go.newObj {P : Addr → Prop} {σ σ₂ : Store} {s s₂ : Shared} {d : Addr} {h' : Heap} {tk : Nat} {ao : AObj} (g : Go P σ s σ₂ s₂) (I : Inv prog w F B σ₂ s₂.heap) (hd : s.heap.get? d = none) (hσ : σ₂ d = none)
    (hk : ∀ a o, a ≠ d → s₂.heap.get? a = some o → h'.get? a = some o) : Go P σ s (σ₂.set d ao) { s₂ with heap := h', toks := tk } := by
  have off : ∀ a o, s.heap.get? a = some o → a ≠ d := by rintro a o e rfl; rw [hd] at e; cases e
  refine ⟨?_, fun a o hp e hn => hk a o (off a o e) (g.keep a o hp e hn), fun a o e => ?_, fun a h1 h2 => ?_, fun a h1 => ?_⟩
  · obtain ⟨h1, t1, e⟩ := g.same; exact ⟨h', tk, by rw [e]⟩
  · obtain ⟨o', e'⟩ := g.live a o e; exact ⟨o', hk a o' (off a o e) e'⟩
  · by_cases ha : a = d
    · subst ha; exact hd
    · unfold Store.set at h2; rw [if_neg ha] at h2; exact g.grow a h1 h2
  · unfold Store.set; split
    · simp
    · exact g.dom a h1

noncomputable def CompOk (prog : Program) (w : World) (F : Tab) (B : Heap) (n : Nat) : Prop :=
  ∀ {C : Cx} {A : Around} {env : Env} {sc : Scope} {elt target iter : Expr} {ifs : List Expr} {csc : Scope} {pos : Pos} {ρ : Rho} {σ : Store} {s : Shared} {Q : VPost} {E : Value → Shared → Prop}, Sta prog w F B C A env sc → St prog w F B env ρ σ s →
    ev C (n + 1) sc (.ListComp elt [⟨target, iter, ifs, 0⟩] csc pos) ρ σ Q →
    wpAny (model prog w) A (eval (.ListComp elt [⟨target, iter, ifs, 0⟩] csc pos) env) (EvP prog w F B env ρ σ s Q) E s

theorem snd_ev (ih : Snd prog w F B n) (hcomp : CompOk prog w F B n) : ∀ {C : Cx} {A : Around} {env : Env} {sc : Scope} {e : Expr} {ρ : Rho} {σ : Store} {s : Shared} {Q : VPost} {E : Value → Shared → Prop}, Sta prog w F B C A env sc → St prog w F B env ρ σ s → Mine.ev C (n + 1) sc e ρ σ Q →
    wpAny (model prog w) A (eval e env) (EvP prog w F B env ρ σ s Q) E s := by
  intro C A env sc e ρ σ s Q E T S h
  have hcl := cap_line
  have hc0 : cap = 1000000 := rfl
  cases e with
  | Constant c k p =>
    cases c with
    | none => exact wpAny_Constant_none (EvP.now S .none h)
    | bool b => exact wpAny_Constant_bool (EvP.now S (.bool b) h)
    | int i => exact wpAny_Constant_int (EvP.pure S _ (.int i _) h)
    | str x => exact wpAny_Constant_str (EvP.pure S _ (.str x _) h)
    | _ => exact False.elim h
  | Name x p =>
    rw [ev_Name] at h
    split at h
    · rename_i hk
      split at h
      · rename_i v hv; exact glob_sound T S hk hv h
      · exact h.elim
    · rename_i hk
      split at h
      · rename_i v hv; exact load_sound T S (.inl hk) hv h
      · exact h.elim
    · rename_i hk
      split at h
      · rename_i v hv; exact load_sound T S (.inr (.inl hk)) hv h
      · exact h.elim
    · rename_i hk
      split at h
      · rename_i v hv; exact load_sound T S (.inr (.inr hk)) hv h
      · exact h.elim
    · exact h.elim
  | BinOp l op r p =>
    rw [ev_BinOp] at h
    refine wpAny_BinOp (EvP.bind (ih.ev T S h) fun a va σ₁ s₁ ha S₁ g hq => EvP.bind (ih.ev T S₁ hq) fun b vb σ₂ s₂ hb S₂ g₂ hq₂ => ?_)
    exact wpAny_mono (binop_sound (E := fun _ _ => False) S₂ (S₁.val g₂ ha) hb hq₂) (fun _ _ q => q.back (g.trans g₂)) fun _ _ q => q.elim
  | UnaryOp op x p =>
    rw [ev_UnaryOp] at h
    refine wpAny_UnaryOp (EvP.bind (ih.ev T S h) fun a va σ₁ s₁ ha S₁ g hq => ?_)
    exact wpAny_mono (unop_sound (E := fun _ _ => False) S₁ ha hq) (fun _ _ q => q.back g) fun _ _ q => q.elim
  | BoolOp op vs p => rw [ev_BoolOp] at h; rw [arm_eval_BoolOp]; exact ih.bool p T S h
  | Compare l ops rs p =>
    rw [ev_Compare] at h
    rw [arm_eval_Compare]
    refine wpAny_bind (EvP.bind (ih.ev T S h) fun a va σ₁ s₁ ha S₁ g hq => ?_)
    exact wpAny_mono (ih.cmp p T S₁ ha hq) (fun _ _ z => by obtain ⟨r, rfl, σ₂, S₂, g₂, hq₂⟩ := z; exact ⟨_, σ₂, .bool r, S₂, g.trans g₂, hq₂⟩) fun _ _ q => q
  | List es p =>
    rw [ev_List] at h
    have hl := (few_all (env := env) (pos := p) h.1).2.2
    refine wpAny_List (wpAny_mono (ih.evs p T S h.1 h.2) (fun vs s₁ z => ?_) fun _ _ x => x)
    obtain ⟨hk, as, σ₁, hv, S₁, g, hq⟩ := z
    refine ⟨by lia, ?_⟩
    have hvl := hv.length
    exact EvP.back g (EvP.alloc (ao := .list as) S₁ ⟨_, _, Heap.get?_push_size _ rfl, by simpa using hv.mono fun a o e _ => Heap.get?_push_of_some _ e, by lia⟩ hq)
  | Tuple es k p =>
    rw [ev_Tuple] at h
    have hl := (few_all (env := env) (pos := p) h.1).2.2
    refine wpAny_Tuple (wpAny_mono (ih.evs p T S h.1 h.2) (fun vs s₁ z => ?_) fun _ _ x => x)
    obtain ⟨hk, as, σ₁, hv, S₁, g, hq⟩ := z
    refine ⟨by lia, ?_⟩
    exact EvP.back g (EvP.tupd S₁ hv (by lia) hq)
  | Attribute o a p =>
    rw [ev_Attr] at h
    rw [arm_eval_Attribute, base_plain h.1]
    refine wpAny_bind (EvP.bind (ih.ev T S h.2) fun v va σ₁ s₁ hv S₁ g hq => wpAny_bind (wpAny_standAt (wpAny_bind (wpAny_holding (EvP.bind (T.attr env v va a ρ σ₁ s₁ Q _ S₁ hv hq) fun r ra σ₂ s₂ hr S₂ g₂ hq₂ => ?_)))))
    exact wpAny_bind (wpAny_letTemporaryGo (wpAny_pure ⟨ra, σ₂, hr, S₂, g.trans g₂, hq₂⟩))
  | Subscript o i p =>
    cases i with
    | Slice l u st sp =>
      rw [ev_Slice] at h
      refine Subscript_ (EvP.bind (ih.ev T S h) fun v va σ₁ s₁ hv S₁ g hq => ?_)
      rw [arm_eval_Slice]
      refine wpAny_bind (wpAny_mono (ih.opt T S₁ hq) (fun vl s₂ ⟨lo, σ₂, pl, S₂, g₂, hq₂⟩ => wpAny_bind (wpAny_holding (wpAny_mono (ih.opt T S₂ hq₂) (fun vu s₃ ⟨uo, σ₃, pu, S₃, g₃, hq₃⟩ => wpAny_bind (wpAny_holding
        (wpAny_mono (ih.opt T S₃ hq₃) (fun vs s₄ ⟨so, σ₄, ps, S₄, g₄, hq₄⟩ => ?_) fun _ _ q => q))) fun _ _ q => q))) fun _ _ q => q)
      have gg := g.trans (g₂.trans (g₃.trans g₄))
      cases va with
      | ref pa =>
        dsimp only at hq₄
        split at hq₄
        · rename_i xs hpa
          cases hv
          refine wpAny_newObj_type (wpAny_mono (slice_sound (E := fun _ _ => False) (ops := if st.isNone then [.ref s₄.heap.objs.size, .ref pa] else [.ref pa, .ref s₄.heap.objs.size]) S₄ hpa pl pu ps hq₄ ?_) (fun _ _ q => q.back gg) fun _ _ q => q.elim)
          cases st <;> rfl
        · exact hq₄.elim
      | _ => exact hq₄.elim
    | _ =>
      refine Subscript_ (EvP.bind (ih.ev T S (Q := fun ov σ₁ => ev C n sc _ ρ σ₁ fun iv σ₂ => subscr ov iv σ₂ Q) h) fun v va σ₁ s₁ hv S₁ g hq => EvP.bind (ih.ev T S₁ hq) fun x xa σ₂ s₂ hx S₂ g₂ hq₂ => ?_)
      exact wpAny_mono (subscr_sound (E := fun _ _ => False) S₂ (S₁.val g₂ hv) hx hq₂ (fun _ _ => rfl) T.units) (fun _ _ q => q.back (g.trans g₂)) fun _ _ q => q.elim
  | Call f args ks cp =>
    cases ks with
    | cons _ _ => cases f <;> exact False.elim h
    | nil =>
      cases f with
      | Name x p =>
        rw [ev_CallN] at h
        obtain ⟨f1, f2, f3⟩ := few_all (env := env) (pos := cp) h.1
        refine Call_Name rfl (EvP.bind (ih.ev T S h.2) fun v va σ₁ s₁ hv S₁ g hq => shiftV g ?_)
        exact callV_sound T S₁ hv f2 (ih.evs cp T S₁ h.1 hq)
      | Attribute o m ap =>
        exact snd_call_meth ih T S h
      | _ => exact False.elim h
  | Dict ks vs p =>
    match ks, vs with
    | [], [] =>
      rw [ev_Dict0] at h
      rw [eval_Dict_empty]
      refine wpAny_bind (wpAny_standAt (wpAny_newObj_type ?_))
      exact EvP.alloc (ao := .dictP []) S ⟨[], new_dict S, trivial, by simp⟩ h
    | [], _ :: _ => exact False.elim h
    | _ :: _, _ => exact False.elim h
  | ListComp elt gens csc pos =>
    match gens with
    | [] => exact False.elim h
    | [⟨target, iter, ifs, k⟩] =>
      by_cases hk : k = 0
      · subst hk; exact hcomp T S h
      · cases k with
        | ofNat m => cases m with
          | zero => exact absurd rfl hk
          | succ m => exact False.elim h
        | negSucc m => exact False.elim h
    | g :: g' :: l =>
      obtain ⟨t, i, f, k⟩ := g
      cases k with
      | ofNat m => cases m <;> exact False.elim h
      | negSucc m => exact False.elim h
  | _ => exact False.elim h
end
end Mine

set_option linter.unusedVariables false
namespace Mine
open PySem PySem.W PyProof.Rows

theorem ofInts_get (l : List Int) (i : Nat) : (ofInts l)[i]? = (l[i]?).map Val.int := by simp [ofInts]
theorem rangeL_get {lo hi : Int} {i : Nat} : (rangeL lo hi)[i]? = if i < (hi - lo).toNat then some (lo + i) else none := by
  unfold rangeL
  rw [List.getElem?_map]
  by_cases h : i < (hi - lo).toNat
  · rw [if_pos h, List.getElem?_range h]; rfl
  · rw [if_neg h, List.getElem?_eq_none (by simp; lia)]; rfl
theorem rangeL_length (lo hi : Int) : (rangeL lo hi).length = (hi - lo).toNat := by simp [rangeL]

noncomputable def ItAt (σ : Store) (v : Val) (I : Addr) (i : Nat) (items : List Val) (h : Heap) : Prop :=
  match v with
  | .ref l => h.IsListIter I l i ∧ σ l = some (.list items)
  | .rng lo hi => IsRangeIter h I (lo + i) (((hi - lo).toNat : Int) - i) 1 ∧ items = ofInts (rangeL lo hi) ∧ i ≤ (hi - lo).toNat
  | _ => False

section
variable {prog : Program} {w : World} {F : Tab} {B : Heap} {env : Env} {sc : Scope} {C : Cx} {ρ : Rho} {σ σ₁ σ' : Store} {s s₁ s' : Shared} {A : Around} {E : Value → Shared → Prop} {n : Nat} {X : VPost}

theorem ItAt.at {v : Val} {I : Addr} {i : Nat} {items : List Val} {h h' : Heap} (x : ItAt σ v I i items h) (hk : ∀ o, h.get? I = some o → h'.get? I = some o) (hs : still σ v σ') : ItAt σ' v I i items h' := by
  cases v with
  | ref l => obtain ⟨⟨o, e, r⟩, e2⟩ := x; exact ⟨⟨o, hk o e, r⟩, (show σ' l = σ l from hs).trans e2⟩
  | rng lo hi => exact ⟨hk _ x.1, x.2⟩
  | _ => exact x.elim
theorem ItAt.thaw {v : Val} {I : Addr} {i : Nat} {items : List Val} {h : Heap} (x : ItAt σ v I i items h) : ∃ o, h.get? I = some o ∧ ¬ Frozen o := by
  cases v with
  | ref l => obtain ⟨⟨o, e, c, d⟩, _⟩ := x; exact ⟨o, e, by rintro ⟨q, _⟩; rw [c] at q; simp at q⟩
  | rng lo hi => exact ⟨_, x.1, by simp [Frozen]⟩
  | _ => exact x.elim

theorem iter_start {v : Value} {a : Val} {items : List Val} {Q : Value → Shared → Prop} (S : St prog w F B env ρ σ s) (hv : VRel F s.heap v a) (hi : itemsOf σ a = some items)
    (h : ∀ h', (∀ b o, s.heap.get? b = some o → h'.get? b = some o) → ItAt σ a s.heap.objs.size 0 items h' → Q (.ref s.heap.objs.size) { s with heap := h' }) :
    wpAny (model prog w) A (pyIter v) Q E s := by
  have hc : cap = 1000000 := rfl
  unfold itemsOf at hi
  split at hi
  · split at hi
    · rename_i p xs hp
      cases hi; cases hv
      obtain ⟨i1, n1, e1, r1, z1⟩ := S.listAt hp
      exact wpAny_pyIter_list ⟨_, e1, rfl, n1, rfl⟩ (h _ (fun b o e => Heap.get?_push_of_some _ e) ⟨⟨_, Heap.get?_push_size _ rfl, rfl, rfl⟩, hp⟩)
    · cases hi
  · rename_i lo hi'
    cases hi
    cases hv with
    | rng hr h1 h2 h3 =>
      refine wpAny_pyIter_range hr (small_one (by lia) (by lia) (by lia) (by lia)) (h _ (fun b o e => Heap.get?_push_of_some _ e) ⟨?_, rfl, Nat.zero_le _⟩)
      have e : Builtin.Range.rangeSize lo hi' 1 = (((hi' - lo).toNat : Nat) : Int) := by rw [rangeSize_one]; split <;> lia
      have := Heap.get?_push_size s.heap (o := { cls := .type "range_iterator", data := .fields #[rawInt lo, rawInt (Builtin.Range.rangeSize lo hi' 1), rawInt 1] }) rfl
      rw [e] at this ⊢
      simpa using this
  · cases hi

theorem iter_next {a : Val} {I : Addr} {i : Nat} {items : List Val} {Q : Option Value → Shared → Prop} (S : St prog w F B env ρ σ s) (hI : σ I = none) (x : ItAt σ a I i items s.heap) (hm : items[i]? = none → A.handled = none)
    (hnext : ∀ y b h' tk, items[i]? = some b → VRel F s.heap y b → ItAt σ a I (i + 1) items h' → (∀ b o, b ≠ I → s.heap.get? b = some o → h'.get? b = some o) → Q (some y) { s with heap := h', toks := tk })
    (hend : ∀ h', items[i]? = none → (∀ b o, b ≠ I → s.heap.get? b = some o → h'.get? b = some o) → Q none { s with heap := h' }) :
    wpAny (model prog w) A (pyNext (.ref I)) Q E s := by
  cases a with
  | ref l =>
    obtain ⟨hit, hl⟩ := x
    obtain ⟨i1, n1, e1, r1, z1⟩ := S.listAt hl
    have hL : s.heap.IsList l i1 := ⟨_, e1, rfl, n1, rfl⟩
    cases hx : i1[i]? with
    | some y =>
      obtain ⟨b, hb, hr⟩ := r1.getL (i := i) (v := y) (by simpa using hx)
      refine wpAny_pyNext_list_item hit hL hx fun h' hit' hs' => ?_
      exact hnext y b h' s.toks hb hr ⟨hit', hl⟩ fun b o hne e => hs'.extBut b o hne e
    | none =>
      have hn : items[i]? = none := by
        have := r1.length
        simp only [Array.length_toList] at this
        rw [Array.getElem?_eq_none_iff] at hx
        rw [List.getElem?_eq_none_iff]; lia
      refine wpAny_pyNext_list_end (hm hn) hit hL hx fun h' he' => ?_
      exact hend h' hn fun b o hne e => he' b o hne e
  | rng lo hi =>
    obtain ⟨hit, rfl, hle⟩ := x
    by_cases hlt : i < (hi - lo).toNat
    · refine wpAny_pyNext_range_item hit (by lia) fun h' hit' hs' => ?_
      have hb : (ofInts (rangeL lo hi))[i]? = some (.int (lo + i)) := by rw [ofInts_get, rangeL_get, if_pos hlt]; rfl
      refine hnext _ _ h' (s.toks + 1) hb (.int _ _) ⟨?_, rfl, hlt⟩ fun b o hne e => hs'.extBut b o hne e
      have e1 : lo + (i : Int) + 1 = lo + ((i + 1 : Nat) : Int) := by lia
      have e2 : ((hi - lo).toNat : Int) - (i : Int) - 1 = ((hi - lo).toNat : Int) - ((i + 1 : Nat) : Int) := by lia
      rw [e1, e2] at hit'
      exact hit'
    · have hn : (ofInts (rangeL lo hi))[i]? = none := by rw [ofInts_get, rangeL_get, if_neg hlt]; rfl
      refine wpAny_pyNext_range_end (hm hn) hit (by lia) fun h' he' => ?_
      exact hend h' hn fun b o hne e => he' b o hne e
  | _ => exact x.elim

theorem St.aside {h' : Heap} {tk : Nat} {I : Addr} (S : St prog w F B env ρ σ s) (hk : ∀ a o, a ≠ I → s.heap.get? a = some o → h'.get? a = some o) (hB : B.get? I = none) (hσ : σ I = none) (hL : I ≠ env.locals)
    (hC : ∀ x c, env.cells.lookup x = some c → c ≠ I) (hf : ∀ o, s.heap.get? I = some o → ¬ Frozen o) : St prog w F B env ρ σ { s with heap := h', toks := tk } := by
  have fz : ∀ a o, s.heap.get? a = some o → Frozen o → h'.get? a = some o := fun a o e hfr => hk a o (by rintro rfl; exact hf o e hfr) e
  obtain ⟨m, hm, hl⟩ := S.fra.rho.loc
  refine ⟨⟨fun a o e => hk a o (by rintro rfl; rw [hB] at e; cases e) (S.inv.keep a o e), fun a o e => ⟨(S.inv.obj a o e).1, ?_⟩, S.inv.scr⟩, ⟨⟨⟨m, hm.at' fun o e => hk _ o (Ne.symm hL) e, fun x a h1 h2 => ?_⟩, fun x a h1 h2 => ?_⟩, S.fra.offL, fun x c hc => ?_⟩, S.offB, S.offC⟩
  · obtain ⟨ob, e1, _⟩ := ORel.live prog w F (S.inv.obj a o e).2
    exact ORel.mono prog w F fz ((hk a ob (by rintro rfl; rw [hσ] at e; cases e) e1).trans e1.symm) (S.inv.obj a o e).2
  · obtain ⟨v, h3, h4⟩ := hl x a h1 h2
    exact ⟨v, h3, h4.mono fz⟩
  · obtain ⟨c, v, h3, ⟨oc, h4, h5⟩, h6⟩ := S.fra.rho.cel x a h1 h2
    exact ⟨c, v, h3, ⟨oc, hk _ _ (hC x c h3) h4, h5⟩, h6.mono fz⟩
  · obtain ⟨h1, h2, v, oc, h3, h4⟩ := S.fra.offC x c hc
    exact ⟨h1, h2, v, oc, hk _ _ (hC x c hc) h3, h4⟩
theorem Go.aside {P : Addr → Prop} {σ₀ : Store} {s₀ : Shared} {I : Addr} {h' : Heap} {tk : Nat} (g : Go P σ₀ s₀ σ s) (J : Inv prog w F B σ s.heap) (hd : s₀.heap.get? I = none) (hσ : σ I = none)
    (hk : ∀ a o, a ≠ I → s.heap.get? a = some o → h'.get? a = some o) : Go P σ₀ s₀ σ { s with heap := h', toks := tk } := by
  have off : ∀ a o, s₀.heap.get? a = some o → a ≠ I := by rintro a o e rfl; rw [hd] at e; cases e
  refine ⟨?_, fun a o hp e hn => hk a o (off a o e) (g.keep a o hp e hn), fun a o e => ?_, g.grow, g.dom⟩
  · obtain ⟨h1, t1, e⟩ := g.same; exact ⟨h', tk, by rw [e]⟩
  · obtain ⟨o', e'⟩ := g.live a o e; exact ⟨o', hk a o' (off a o e) e'⟩

theorem St.newAddr {I : Addr} (S : St prog w F B env ρ σ s) (hI : s.heap.get? I = none) : B.get? I = none ∧ σ I = none ∧ I ≠ env.locals ∧ ∀ x c, env.cells.lookup x = some c → c ≠ I := by
  refine ⟨?_, S.freshOf hI, ?_, ?_⟩
  · cases e : B.get? I with
    | none => rfl
    | some o => have := S.inv.keep _ _ e; rw [hI] at this; cases this
  · rintro rfl
    obtain ⟨m, o, _, _, e, _⟩ := S.ns
    rw [hI] at e; cases e
  · rintro x c hc rfl
    obtain ⟨_, _, v, o, e, _⟩ := S.fra.offC x c hc
    rw [hI] at e; cases e
theorem sizeNone (h : Heap) : h.get? h.objs.size = none := by
  cases e : h.get? h.objs.size with
  | none => rfl
  | some o => exact absurd (Heap.lt_size e) (Nat.lt_irrefl _)

theorem ev_notSetIt {e : Expr} {Q : VPost} (h : ev C n sc e ρ σ Q) : ∀ x, foldedSetIterable e env x = pure x := by
  cases n with
  | zero => exact False.elim h
  | succ n => cases e <;> first | exact fun _ => rfl | exact False.elim h

theorem letGo_it {target : Expr} {a : Val} {I : Addr} {i : Nat} {items : List Val} {v : Value} {Q : Unit → Shared → Prop} (x : ItAt σ a I i items s.heap) (h : Q () s) : wpAny (model prog w) A (letOwnedTupleGo target (.ref I) v) Q E s := by
  cases a with
  | ref l => exact letGo_listiter x.1 h
  | rng lo hi =>
    have ho := x.1
    unfold letOwnedTupleGo
    cases target <;> first
      | exact wpAny_pure h
      | (cases v <;> first
          | exact wpAny_pure h
          | (refine wpAny_bind (wpAny_load ho ?_)
             exact wpAny_pure h))
  | _ => exact x.elim

theorem assign_sound {t : Expr} {v : Value} {a : Val} {ρ' : Rho} {Q : Unit → Shared → Prop} {b : Bool} (T : Sta prog w F B C A env sc) (S : St prog w F B env ρ σ s) (hv : VRel F s.heap v a) (hp : b = true → C.pairOk σ) (hb : bindT b sc t a ρ = some ρ')
    (h : ∀ s', St prog w F B env ρ' σ s' → Go (Own env sc) σ s σ s' → Q () s') : wpAny (model prog w) A (assign t env v) Q E s := by
  rcases bindT_is hb with ⟨x, px, rfl, hl, rfl⟩ | ⟨x, px, y, py, k, p, u, w', rfl, rfl, hc, rfl⟩
  · exact wpAny_assign_Name (store_sound T S hl hv h)
  · simp only [Bool.and_eq_true] at hc
    obtain ⟨⟨⟨h1, h2⟩, h3⟩, h4⟩ := hc
    cases hv with
    | tup e c d r z =>
      rename_i ta to items nn
      have hl := r.length
      simp only [Array.length_toList, List.length_cons, List.length_nil] at hl
      refine assign_quiet (items := items) (pair_quiet T S (hp h1)) ⟨_, e, c, nn, d⟩ (by rw [hl]; rfl) rfl fun h' he => ?_
      obtain ⟨q1, q2, q3, q4⟩ := S.newAddr (sizeNone s.heap)
      have hk : ∀ a o, a ≠ s.heap.objs.size → s.heap.get? a = some o → h'.get? a = some o := fun a o hne e => he a o hne e
      have S₁ : St prog w F B env ρ σ { s with heap := h' } := S.aside (tk := s.toks) hk q1 q2 q3 q4 fun o e => by rw [sizeNone] at e; cases e
      have g₁ : Go (Own env sc) σ s σ { s with heap := h' } := Go.aside (tk := s.toks) (Go.refl _ σ s) S.inv (sizeNone _) q2 hk
      have r₁ := r.mono (S.frozenO g₁)
      generalize items.toList = l at r₁
      obtain ⟨vx, vy, rfl, hx, hy⟩ := r₁.two
      · show wpAny _ A (assignInOrder [assign (.Name x px) env, assign (.Name y py) env] [vx, vy]) _ _ _
        refine assignInOrder_cons (wpAny_assign_Name (store_sound T S₁ h2 hx fun s₂ S₂ g₂ => assignInOrder_cons (wpAny_assign_Name (store_sound T S₂ h3 (S₁.valO g₂ hy) fun s₃ S₃ g₃ => assignInOrder_nil ?_))))
        exact h s₃ S₃ (g₁.trans (g₂.trans g₃))
end
end Mine

set_option linter.unusedVariables false
namespace Mine
open PySem PySem.W PyProof.Rows

section
variable {prog : Program} {w : World} {F : Tab} {B : Heap} {env : Env} {sc csc : Scope} {C : Cx} {ρ : Rho} {σ σ₁ σ' : Store} {s s₁ s' : Shared} {A : Around} {E : Value → Shared → Prop} {n : Nat} {X : VPost}

theorem codeAny_compLoop_any {R : Result → Shared → Prop} {elt target iter : Expr} {ifs : List Expr} {scope : Scope} {pos : Pos} {it acc : Value} {env : Env} (I : Nat → Shared → Prop)
    (turn : ∀ n s, I n s → wpAny (model prog w) A (pyNext it) (fun r s₁ => match r with
      | none => R (.ok .next) s₁
      | some v => wpAny (model prog w) A (letOwnedTupleGo target it v) (fun _ s₁' => wpAny (model prog w) A (assign target env v) (fun _ s₂ =>
          wpAny (model prog w) A (forIn ifs true fun c r => if r = true then do let ok ← isTrue c env (eval c env); pure (ForInStep.yield ok) else pure (ForInStep.yield r)) (fun ok s₃ =>
            if ok = true then wpAny (model prog w) A (eval elt env) (fun x s₄ =>
              wpAny (model prog w) A (call (.builtin "list.append") [acc, x]) (fun _ s₅ => ∃ m, m < n ∧ I m s₅) (notedBy (model prog w) A env fun e s' => R (.error e) s') s₄) (notedBy (model prog w) A env fun e s' => R (.error e) s') s₃
            else ∃ m, m < n ∧ I m s₃) (notedBy (model prog w) A env fun e s' => R (.error e) s') s₂) (notedBy (model prog w) A env fun e s' => R (.error e) s') s₁') (notedBy (model prog w) A env fun e s' => R (.error e) s') s₁) (notedBy (model prog w) A env fun e s' => R (.error e) s') s)
    (n : Nat) (h : I n s) :
    codeAny (model prog w) A (.compLoop (.ListComp elt [⟨target, iter, ifs, 0⟩] scope pos) 0 it acc env) R s := by
  refine codeAny_loop rfl I (fun n s hI => ?_) n h
  show wpAny _ A ((compTurn (.ListComp elt [⟨target, iter, ifs, 0⟩] scope pos) 0 it acc env).onRaise (fun x => do noteFrame x env; theTreesLotGoes x)) _ _ s
  refine wpAny_noted ?_
  rw [compTurn_list]
  refine wpAny_bind (wpAny_standAt (wpAny_bind (wpAny_mono (turn n s hI) (fun r s₁ h₁ => ?_) fun _ _ h' => h')))
  cases r with
  | none => exact wpAny_pure h₁
  | some v =>
    refine wpAny_bind (wpAny_mono h₁ (fun _ s₁' h₁' => ?_) fun _ _ h' => h')
    refine wpAny_bind (wpAny_mono h₁' (fun _ s₂ h₂ => wpAny_bind (wpAny_mono h₂ (fun ok s₃ h₃ => ?_) fun _ _ h' => h')) fun _ _ h' => h')
    cases ok with
    | false => exact wpAny_pure ⟨rfl, h₃⟩
    | true =>
      exact wpAny_bind (wpAny_bind (wpAny_mono h₃ (fun x s₄ h₄ => wpAny_bind (wpAny_mono h₄ (fun _ s₅ h₅ => wpAny_pure (wpAny_pure ⟨rfl, h₅⟩)) fun _ _ h' => h')) fun _ _ h' => h'))

theorem St.after {P : Addr → Prop} (S : St prog w F B env ρ σ s) (g : Go P σ s σ' s') (hP : ∀ a o, s.heap.get? a = some o → ¬ P a) (J : Inv prog w F B σ' s'.heap) : St prog w F B env ρ σ' s' := by
  have fz : ∀ a o, s.heap.get? a = some o → Frozen o → s'.heap.get? a = some o := g.frozen S.inv fun a o hp e => absurd hp (hP a o e)
  have hkp : ∀ a o, s.heap.get? a = some o → σ a = none → s'.heap.get? a = some o := fun a o e hn => g.keep a o (hP a o e) e hn
  obtain ⟨m, hm, hl⟩ := S.fra.rho.loc
  have hL : ∃ o, s.heap.get? env.locals = some o := let ⟨o, _, _, e, _⟩ := hm; ⟨o, e⟩
  refine ⟨J, ⟨⟨⟨m, hm.at' fun o e => hkp _ o e S.fra.offL, fun x a h1 h2 => ?_⟩, fun x a h1 h2 => ?_⟩, ?_, fun x c hc => ?_⟩, S.offB, S.offC⟩
  · obtain ⟨v, h3, h4⟩ := hl x a h1 h2
    exact ⟨v, h3, h4.mono fz⟩
  · obtain ⟨c, v, h3, ⟨oc, h4, h5⟩, h6⟩ := S.fra.rho.cel x a h1 h2
    exact ⟨c, v, h3, ⟨oc, hkp _ _ h4 (S.fra.offC x c h3).1, h5⟩, h6.mono fz⟩
  · obtain ⟨o, e⟩ := hL; exact g.off e S.fra.offL
  · obtain ⟨h1, h2, v, oc, h3, h4⟩ := S.fra.offC x c hc
    exact ⟨g.off h3 h1, h2, v, oc, hkp _ _ h3 h1, h4⟩
theorem St.weak {ρ' : Rho} (S : St prog w F B env ρ σ s) (h : ∀ x a, ρ' x = some a → ρ x = some a) : St prog w F B env ρ' σ s := by
  obtain ⟨m, hm, hl⟩ := S.fra.rho.loc
  exact ⟨S.inv, ⟨⟨⟨m, hm, fun x a h1 h2 => hl x a h1 (h x a h2)⟩, fun x a h1 h2 => S.fra.rho.cel x a h1 (h x a h2)⟩, S.fra.offL, S.fra.offC⟩, S.offB, S.offC⟩

theorem clos_loop (f : Str × NameKind → List (Str × Addr) → Sem (ForInStep (List (Str × Addr))))
    (hf : ∀ name kind cs, f (name, kind) cs = if kind == .free then (do let a ← cellOf env name; pure (.yield ((name, a) :: cs))) else pure (.yield cs)) :
    ∀ (names : List (Str × NameKind)) (acc : List (Str × Addr)), (∀ x ∈ names, x.2 = .free → ∃ c, env.cells.lookup x.1 = some c) → (∀ x c, acc.lookup x = some c → env.cells.lookup x = some c) →
    ∃ cl, forIn names acc f = pure cl ∧ (∀ x c, cl.lookup x = some c → env.cells.lookup x = some c) ∧ (∀ x, (∃ c, acc.lookup x = some c) → ∃ c, cl.lookup x = some c) ∧ (∀ x, (x, NameKind.free) ∈ names → ∃ c, cl.lookup x = some c)
  | [], acc, _, h2 => ⟨acc, by rw [List.forIn_nil], h2, fun _ h => h, fun _ h => by simp at h⟩
  | (name, kind) :: r, acc, h1, h2 => by
    by_cases hk : (kind == NameKind.free) = true
    · obtain ⟨c, hc⟩ := h1 (name, kind) (.head _) (by simpa using hk)
      have hacc : ∀ x d, ((name, c) :: acc).lookup x = some d → env.cells.lookup x = some d := by
        intro x d e
        rw [List.lookup_cons] at e
        cases hb : x == name with
        | true => rw [hb] at e; cases e; rw [beq_iff_eq.mp hb]; exact hc
        | false => rw [hb] at e; exact h2 x d e
      obtain ⟨cl, e1, e2, e3, e4⟩ := clos_loop f hf r ((name, c) :: acc) (fun x hx => h1 x (.tail _ hx)) hacc
      refine ⟨cl, ?_, e2, fun x ⟨d, hd⟩ => ?_, fun x hx => ?_⟩
      · rw [List.forIn_cons, hf, if_pos hk]
        simp only [cellOf, hc, pure_bind]
        exact e1
      · apply e3
        rw [List.lookup_cons]
        cases x == name with
        | true => exact ⟨_, rfl⟩
        | false => exact ⟨d, hd⟩
      · rcases List.mem_cons.mp hx with q | q
        · cases q
          exact e3 _ ⟨c, by simp⟩
        · exact e4 x q
    · obtain ⟨cl, e1, e2, e3, e4⟩ := clos_loop f hf r acc (fun x hx => h1 x (.tail _ hx)) h2
      refine ⟨cl, ?_, e2, e3, fun x hx => ?_⟩
      · rw [List.forIn_cons, hf, if_neg hk, pure_bind]; exact e1
      · rcases List.mem_cons.mp hx with q | q
        · cases q; exact absurd rfl hk
        · exact e4 x q
theorem clos_ok (h1 : ∀ x ∈ csc.names, x.2 = .free → ∃ c, env.cells.lookup x.1 = some c) :
    ∃ cl, closureFor csc env = pure cl ∧ (∀ x c, cl.lookup x = some c → env.cells.lookup x = some c) ∧ (∀ x, (x, NameKind.free) ∈ csc.names → ∃ c, cl.lookup x = some c) := by
  obtain ⟨cl, e1, e2, _, e4⟩ := clos_loop (env := env) (fun x cs => match x with | (name, kind) => if kind == .free then (do let a ← cellOf env name; pure (.yield ((name, a) :: cs))) else pure (.yield cs)) (fun _ _ _ => rfl) csc.names [] h1 (fun x c e => by simp at e)
  refine ⟨cl, ?_, e2, e4⟩
  unfold closureFor
  rw [← e1]
  simp only [bind_pure]

theorem relabel_lookup (h : ∀ x ∈ csc.names, x.2 = .free → env.scope.kind = .function ∧ env.kindOf x.1 = some .cell) : ∀ (x : Str), (relabel csc env).names.lookup x = if csc.names.lookup x = some .free then some .cell else csc.names.lookup x := by
  intro x
  unfold relabel
  simp only
  generalize csc.names = names at h
  induction names with
  | nil => rfl
  | cons p r ih =>
    obtain ⟨nm, k⟩ := p
    have ih := ih fun y hy => h y (.tail _ hy)
    rw [List.map_cons]
    cases hx : x == nm with
    | true =>
      have hxe := beq_iff_eq.mp hx
      by_cases hk : k = .free
      · obtain ⟨q1, q2⟩ := h (nm, k) (.head _) hk
        subst hk
        simp [List.lookup_cons, hx, q1, q2]
      · have : (k == NameKind.free) = false := by simpa using hk
        simp [List.lookup_cons, hx, this, hk]
    | false =>
      have e : ∀ (q : Str × NameKind) l, q.1 = nm → List.lookup x (q :: l) = List.lookup x l := by
        intro q l hq; obtain ⟨q1, q2⟩ := q; simp only at hq; subst hq; rw [List.lookup_cons, hx]
      rw [e _ _ (by split <;> rfl), e _ _ rfl]
      exact ih

theorem compOk_facts (T : Sta prog w F B C A env sc) (h : compOk sc csc = true) : csc.kind = .function ∧ csc.names.lookup ("__debug__" : Str) = none ∧ csc.names.lookup ("__classdict__" : Str) = none ∧ (∀ x ∈ csc.names, x.2 ≠ .cell) ∧
    (∀ x ∈ csc.names, x.2 = .local → csc.names.lookup x.1 = some .local) ∧ (∀ x ∈ csc.names, x.2 = .free → env.kindOf x.1 = some .cell ∧ ∃ c, env.cells.lookup x.1 = some c) := by
  unfold compOk at h
  simp only [Bool.and_eq_true, List.all_eq_true, Option.isNone_iff_eq_none, beq_iff_eq, bne_iff_ne, Bool.or_eq_true, ne_eq] at h
  obtain ⟨⟨⟨h1, h2⟩, h3⟩, h4⟩ := h
  refine ⟨by simpa using h1, h2, h3, fun x hx => (h4 x hx).1.1, fun x hx hl => ((h4 x hx).1.2).resolve_left (by simp [hl]), fun x hx hl => ?_⟩
  have q := ((h4 x hx).2).resolve_left (by simp [hl])
  have k : env.kindOf x.1 = some .cell := by
    rcases T.names x.1 with e | ⟨e, _⟩
    · exact e.trans q
    · rw [q] at e; cases e
  exact ⟨k, T.cells _ (.inl k)⟩
theorem mem_free {x : Str} (h : csc.names.lookup x = some .free) : (x, NameKind.free) ∈ csc.names := mem_of_lookup h

theorem comp_kind (T : Sta prog w F B C A env sc) (h : compOk sc csc = true) (cl : List (Str × Addr)) (L : Addr) (x : Str) : (compEnvC csc cl L env).kindOf x = if csc.names.lookup x = some .free then some .cell else csc.names.lookup x := by
  obtain ⟨h1, h2, h3, h4, h5, h6⟩ := compOk_facts T h
  exact relabel_lookup (fun x hx hl => ⟨T.kind, (h6 x hx hl).1⟩) x

theorem comp_sta (T : Sta prog w F B C A env sc) (h : compOk sc csc = true) {cl : List (Str × Addr)} (L : Addr) (hcl : ∀ x c, cl.lookup x = some c → env.cells.lookup x = some c) (hcf : ∀ x, (x, NameKind.free) ∈ csc.names → ∃ c, cl.lookup x = some c) :
    Sta prog w F B C.hush A (compEnvC csc cl L env) csc := by
  obtain ⟨h1, h2, h3, h4, h5, h6⟩ := compOk_facts T h
  have hk := comp_kind T h cl L
  exact { T.hush with
    kind := by simpa [compEnvC, relabel] using h1
    names := fun x => by
      rw [hk]
      by_cases hx : csc.names.lookup x = some .free
      · exact .inr ⟨hx, by rw [if_pos hx]⟩
      · exact .inl (by rw [if_neg hx])
    dbg := h2
    cdict := h3
    cells := fun x hx => by
      rw [hk] at hx
      by_cases hf : csc.names.lookup x = some .free
      · exact hcf x (mem_free hf)
      · rw [if_neg hf] at hx
        rcases hx with hx | hx
        · exact absurd rfl (h4 _ (mem_of_lookup hx))
        · exact absurd hx hf
    apart := fun x y c hx hy => T.apart x y c (hcl x c hx) (hcl y c hy)
    glob := T.glob
    call := T.hush.call
    make := T.hush.make
    attr := T.attr
    sattr := T.sattr
    meth := T.meth
    mcall := T.hush.mcall
    rcall := nofun
    rmake := nofun
    exn := nofun }

theorem comp_st (T : Sta prog w F B C A env sc) (h : compOk sc csc = true) {cl : List (Str × Addr)} {L : Addr} {m : Str → Option Value} (S : St prog w F B env ρ σ s) (hcl : ∀ x c, cl.lookup x = some c → env.cells.lookup x = some c) (hcf : ∀ x, (x, NameKind.free) ∈ csc.names → ∃ c, cl.lookup x = some c)
    (hn : s.heap.Ns L m) (hσ : σ L = none) (hB : B.get? L = none) (hC : ∀ x c, env.cells.lookup x = some c → c ≠ L) : St prog w F B (compEnvC csc cl L env) (compRho csc ρ) σ s := by
  obtain ⟨h1, h2, h3, h4, h5, h6⟩ := compOk_facts T h
  have hk := comp_kind T h cl L
  refine ⟨S.inv, ⟨⟨⟨m, hn, fun x a q1 q2 => ?_⟩, fun x a q1 q2 => ?_⟩, hσ, fun x c hc => ?_⟩, hB, fun x c hc => S.offC x c (hcl x c hc)⟩
  · exfalso
    rw [hk] at q1
    unfold compRho at q2
    split at q2
    · rename_i hf; rw [if_pos hf] at q1; cases q1
    · cases q2
  · unfold compRho at q2
    split at q2
    · rename_i hf
      obtain ⟨c, hc⟩ := hcf x (mem_free hf)
      obtain ⟨c', v, e1, e2, e3⟩ := S.fra.rho.cel x a (.inl (h6 _ (mem_free hf) rfl).1) q2
      rw [hcl x c hc] at e1; cases e1
      exact ⟨c, v, hc, e2, e3⟩
    · cases q2
  · obtain ⟨q1, q2, q3⟩ := S.fra.offC x c (hcl x c hc)
    exact ⟨q1, hC x c (hcl x c hc), q3⟩

theorem itemsOf_cap {v : Value} {a : Val} {items : List Val} (S : St prog w F B env ρ σ s) (hv : VRel F s.heap v a) (hi : itemsOf σ a = some items) : items.length ≤ cap := by
  unfold itemsOf at hi
  split at hi
  · split at hi
    · rename_i hp; cases hi; obtain ⟨_, _, _, _, z⟩ := S.listAt hp; exact z
    · cases hi
  · cases hi
    cases hv with
    | rng hr h1 h2 h3 =>
      have hc : cap = 1000000 := rfl
      have := h3.2
      simp only [ofInts, List.length_map, rangeL_length]; lia
  · cases hi
theorem bindT_keep {calm : Bool} {t : Expr} {a : Val} {ρ₁ ρ₂ : Rho} (hb : bindT calm sc t a ρ₁ = some ρ₂) : ∀ y, isLoc sc y = false → ρ₂ y = ρ₁ y := by
  intro y hy
  rcases bindT_is hb with ⟨x, px, rfl, hl, rfl⟩ | ⟨x, px, z, py, k, p, u, w', rfl, rfl, hc, rfl⟩
  · unfold upd; rw [if_neg]; rintro rfl; rw [hy] at hl; cases hl
  · simp only [Bool.and_eq_true] at hc
    unfold upd
    rw [if_neg (by rintro rfl; rw [hy] at hc; exact absurd hc.1.2 (by simp)), if_neg (by rintro rfl; rw [hy] at hc; exact absurd hc.1.1.2 (by simp))]

theorem comp_core (ih : Snd prog w F B n) {elt target iter : Expr} {ifs : List Expr} {pos : Pos} {use : Option (Value → Sem Unit)} {Q : VPost} {K E : Value → Shared → Prop} (T : Sta prog w F B C A env sc) (S : St prog w F B env ρ σ s)
    (h : ev C (n + 1) sc (.ListComp elt [⟨target, iter, ifs, 0⟩] csc pos) ρ σ Q)
    (fin : ∀ D L σ' s' m, s.heap.get? D = none → s.heap.get? L = none → D ≠ L → s'.heap.Ns L m → σ' L = none → St prog w F B env ρ σ' s' → GoE env σ s σ' s' → Q (.ref D) σ' → compPost (model prog w) A E use K (.ref D) L (.ok .next) s') :
    wpAny (model prog w) A (comprehension (.ListComp elt [⟨target, iter, ifs, 0⟩] csc pos) csc env (firstIterPos [⟨target, iter, ifs, 0⟩] pos) (newList []) false (eval iter env) use) K E s := by
  have hcl0 := cap_line
  rw [ev_Comp] at h
  obtain ⟨⟨hcalm, hok⟩, h⟩ := h
  obtain ⟨h1, h2, h3, h4, h5, h6⟩ := compOk_facts T hok
  obtain ⟨cl, c1, c2, c3⟩ := clos_ok (env := env) (csc := csc) fun x hx hl => (h6 x hx hl).2
  refine wpAny_comprehension_free (use := use) (Q := K) rfl (ev_notSetIt h) c1 h1 h5 (wpAny_mono (ih.ev T S h) (fun x s₁ ⟨xa, σ₁, hx, S₁, g, hq⟩ => ?_) fun _ _ q => q)
  dsimp only at hq
  split at hq
  · rename_i items hitems
    have hcap := itemsOf_cap S₁ hx hitems
    obtain ⟨step, hstep, hq⟩ : ∃ step : Val → Store → (Option Val → Store → Prop) → Prop, (∀ x σ₂ k, step x σ₂ k → ∃ ρ', bindT C.calm csc target x (compRho csc ρ) = some ρ' ∧
        evIfs C.hush n csc ifs ρ' σ₂ fun b σ₃ => (b = true → ev C.hush n csc elt ρ' σ₃ fun y σ₄ => k (some y) σ₄) ∧ (b = false → k Option.none σ₃)) ∧
        compLoop step (still σ₁ xa) items [] σ₁ fun acc σ₂ => ∀ c, σ₂ c = none → Q (.ref c) (σ₂.set c (.list acc)) := by
      refine ⟨_, fun x σ₂ k hs => ?_, hq⟩
      unfold compStep at hs
      split at hs
      · rename_i ρ' hρ; exact ⟨ρ', hρ, hs⟩
      · exact hs.elim
    refine iter_start S₁ hx hitems fun h₂ hk₂ hit => ?_
    refine wpAny_newObj_type (wpAny_newFunctionEnv h4 (by intro y hy; simp at hy) (fun h₄ hns₄ hsb₄ => ?_) h1)
    dsimp only at hns₄ hsb₄ ⊢
    -- the addresses
    have eI : s₁.heap.get? s₁.heap.objs.size = none := sizeNone _
    generalize hI : s₁.heap.objs.size = I at hit eI ⊢
    generalize hD : h₂.objs.size = D at hns₄ hsb₄ ⊢
    generalize hH3 : h₂.push { cls := .type "list", dict := none, data := .seq ([] : List Value).toArray } = H3 at hns₄ hsb₄ ⊢
    generalize hLL : H3.objs.size = L at hns₄ hsb₄ ⊢
    have oldI : ∃ o, h₂.get? I = some o := let ⟨o, e, _⟩ := hit.thaw; ⟨o, e⟩
    have eD2 : h₂.get? D = none := hD ▸ sizeNone _
    have eL3 : H3.get? L = none := hLL ▸ sizeNone _
    have up1 : ∀ b o, s₁.heap.get? b = some o → h₂.get? b = some o := hk₂
    have up2 : ∀ b o, h₂.get? b = some o → H3.get? b = some o := fun b o e => hH3 ▸ Heap.get?_push_of_some _ e
    have up3 : ∀ b o, H3.get? b = some o → h₄.get? b = some o := fun b o e => hsb₄.extBut b o (by rintro rfl; rw [eL3] at e; cases e) (Heap.get?_push_of_some _ e)
    have eD1 : s₁.heap.get? D = none := by
      cases e : s₁.heap.get? D with
      | none => rfl
      | some o => rw [up1 _ _ e] at eD2; cases eD2
    have eL1 : s₁.heap.get? L = none := by
      cases e : s₁.heap.get? L with
      | none => rfl
      | some o => rw [up2 _ _ (up1 _ _ e)] at eL3; cases eL3
    have hID : I ≠ D := by rintro rfl; obtain ⟨o, e⟩ := oldI; rw [eD2] at e; cases e
    have hIL : I ≠ L := by rintro rfl; obtain ⟨o, e⟩ := oldI; rw [up2 _ _ e] at eL3; cases eL3
    have plD : H3.PlainList D #[] := by rw [← hH3, ← hD]; exact ⟨_, Heap.get?_push_size _ rfl⟩
    have hDL : D ≠ L := by rintro rfl; obtain ⟨k, e⟩ := plD; rw [eL3] at e; cases e
    -- the frames
    have S₂ : St prog w F B env ρ σ₁ { s₁ with heap := h₄, toks := s₁.toks + ([] : List (Str × Value)).length } := (S₁.ext (tk := s₁.toks + ([] : List (Str × Value)).length) fun b o e => up3 b o (up2 b o (up1 b o e))).1
    have g₂ : Go (fun a => s₁.heap.get? a = none) σ₁ s₁ σ₁ { s₁ with heap := h₄, toks := s₁.toks + ([] : List (Str × Value)).length } := by
      refine ⟨⟨_, _, rfl⟩, fun a o _ e _ => up3 a o (up2 a o (up1 a o e)), fun a o e => ⟨o, up3 a o (up2 a o (up1 a o e))⟩, fun _ a b => absurd a b, fun _ a => a⟩
    obtain ⟨bI1, bI2, bI3, bI4⟩ := S₁.newAddr eI
    obtain ⟨bD1, bD2, bD3, bD4⟩ := S₁.newAddr eD1
    obtain ⟨bL1, bL2, bL3, bL4⟩ := S₁.newAddr eL1
    have T' := comp_sta T hok L c2 c3
    have Sc := comp_st T hok S₂ c2 c3 hns₄ bL2 bL1 bL4
    have hit₄ : ItAt σ₁ xa I 0 items h₄ := hit.at (fun o e => up3 _ _ (up2 _ _ e)) (by cases xa <;> simp [still])
    have pl₄ : h₄.PlainList D #[] := plD.at fun o e => up3 _ _ e
    have oldD : ∃ o, h₄.get? D = some o := let ⟨k, e⟩ := pl₄; ⟨_, e⟩
    have loop : codeAny (model prog w) A (.compLoop (.ListComp elt [⟨target, iter, ifs, 0⟩] csc pos) 0 (.ref I) (.ref D) (compEnvC csc cl L env)) (compPost (model prog w) A E use K (.ref D) L) { s₁ with heap := h₄, toks := s₁.toks + ([] : List (Str × Value)).length } := by
      refine codeAny_compLoop_any (fun k s' => ∃ i σ' acc ys, k = items.length + 1 - i ∧ i ≤ items.length ∧ ItAt σ' xa I i items s'.heap ∧ St prog w F B (compEnvC csc cl L env) (compRho csc ρ) σ' s' ∧
          Go (fun a => s₁.heap.get? a = none) σ₁ s₁ σ' s' ∧ σ' I = none ∧ σ' D = none ∧ s'.heap.PlainList D ys ∧ VRels F s'.heap ys.toList acc ∧ acc.length ≤ i ∧
          compLoop step (still σ₁ xa) (items.drop i) acc σ' fun acc σ₂ => ∀ c, σ₂ c = none → Q (.ref c) (σ₂.set c (.list acc))) ?_ (items.length + 1)
        ⟨0, σ₁, [], #[], rfl, Nat.zero_le _, hit₄, Sc, g₂, bI2, bD2, pl₄, .nil, Nat.le_refl _, by simpa using hq⟩
      rintro k s' ⟨i, σ', acc, ys, rfl, hi, hit', S', g', zI, zD, pl', hys, hacc, hq'⟩
      have nc : ∀ x c, (compEnvC csc cl L env).cells.lookup x = some c → env.cells.lookup x = some c := c2
      refine iter_next S' zI hit' (fun _ => T.calm hcalm) (fun y b h₅ tk₅ hb hy hit₅ hk₅ => ?_) (fun h₅ hend hk₅ => ?_)
      · -- an item
        have hdrop : items.drop i = b :: items.drop (i + 1) := by
          obtain ⟨hlt, e⟩ := List.getElem?_eq_some_iff.mp hb
          rw [← e]; exact List.drop_eq_getElem_cons hlt
        have hlt : i < items.length := (List.getElem?_eq_some_iff.mp hb).1
        rw [hdrop, compLoop] at hq'
        obtain ⟨ρ', hρ', hq'⟩ := hstep _ _ _ hq'
        obtain ⟨oI, eoI, thI⟩ := hit'.thaw
        have S₅ : St prog w F B (compEnvC csc cl L env) (compRho csc ρ) σ' { s' with heap := h₅, toks := tk₅ } := S'.aside hk₅ bI1 zI hIL (fun x c hc => bI4 x c (c2 x c hc)) fun o e => by rw [eoI] at e; cases e; exact thI
        have g₅ := Go.aside (tk := tk₅) g' S'.inv eI zI hk₅
        have pl₅ : h₅.PlainList D ys := pl'.at fun o e => hk₅ _ o (Ne.symm hID) e
        have fz₅ : ∀ a o, s'.heap.get? a = some o → Frozen o → h₅.get? a = some o := fun a o e hf => hk₅ a o (by rintro rfl; rw [eoI] at e; cases e; exact thI hf) e
        have hlast : ∀ σ₆ (s₆ : Shared) acc₆ ys₆, ItAt σ₆ xa I (i + 1) items s₆.heap → St prog w F B (compEnvC csc cl L env) (compRho csc ρ) σ₆ s₆ → Go (fun a => s₁.heap.get? a = none) σ₁ s₁ σ₆ s₆ → σ₆ I = none → σ₆ D = none → s₆.heap.PlainList D ys₆ → VRels F s₆.heap ys₆.toList acc₆ → acc₆.length ≤ i + 1 →
            compLoop step (still σ₁ xa) (items.drop (i + 1)) acc₆ σ₆ (fun acc σ₂ => ∀ c, σ₂ c = none → Q (.ref c) (σ₂.set c (.list acc))) →
            ∃ m, m < items.length + 1 - i ∧ ∃ i σ' acc ys, m = items.length + 1 - i ∧ i ≤ items.length ∧ ItAt σ' xa I i items s₆.heap ∧ St prog w F B (compEnvC csc cl L env) (compRho csc ρ) σ' s₆ ∧
              Go (fun a => s₁.heap.get? a = none) σ₁ s₁ σ' s₆ ∧ σ' I = none ∧ σ' D = none ∧ s₆.heap.PlainList D ys ∧ VRels F s₆.heap ys.toList acc ∧ acc.length ≤ i ∧
              compLoop step (still σ₁ xa) (items.drop i) acc σ' fun acc σ₂ => ∀ c, σ₂ c = none → Q (.ref c) (σ₂.set c (.list acc)) :=
          fun σ₆ s₆ acc₆ ys₆ a1 a2 a3 a4 a5 a6 a7 a8 a9 => ⟨_, by lia, i + 1, σ₆, acc₆, ys₆, rfl, hlt, a1, a2, a3, a4, a5, a6, a7, a8, a9⟩
        have wk : ∀ x a, compRho csc ρ x = some a → ρ' x = some a := by
          intro x a hx
          rw [bindT_keep hρ' x ?_]; exact hx
          unfold compRho at hx
          unfold isLoc
          split at hx
          · rename_i hf; rw [hf]
          · cases hx
        refine letGo_it (s := { s' with heap := h₅, toks := tk₅ }) hit₅ (assign_sound (C := C.hush) T' S₅ (hy.mono fz₅) (fun h => .inl h) hρ' fun s₆ S₆ gA => ?_)
        have gA' : GoE (compEnvC csc cl L env) σ' { s' with heap := h₅, toks := tk₅ } σ' s₆ := gA.mono fun a o _ hp => by
          rcases hp with hp | ⟨x, hx, _⟩
          · exact hp
          · exact absurd rfl (h4 _ (mem_of_lookup hx))
        -- what lies beside stays
        have side : ∀ {ρ₇ ρ₈ σ₇ σ₈ s₇ s₈}, St prog w F B (compEnvC csc cl L env) ρ₇ σ₇ s₇ → GoE (compEnvC csc cl L env) σ₇ s₇ σ₈ s₈ → (∃ o, s₇.heap.get? I = some o) → σ₇ I = none → σ₇ D = none → s₇.heap.PlainList D ys → Go (fun a => s₁.heap.get? a = none) σ₁ s₁ σ₇ s₇ →
            St prog w F B (compEnvC csc cl L env) ρ₈ σ₈ s₈ → (∀ o, s₇.heap.get? I = some o → s₈.heap.get? I = some o) ∧ σ₈ I = none ∧ σ₈ D = none ∧ s₈.heap.PlainList D ys ∧ Go (fun a => s₁.heap.get? a = none) σ₁ s₁ σ₈ s₈ := by
          intro ρ₇ ρ₈ σ₇ σ₈ s₇ s₈ S₇ gg it z1 z2 p G S₈
          obtain ⟨o, e⟩ := it
          obtain ⟨kD, eD⟩ := id p
          refine ⟨fun o e => gg.keep I o hIL e z1, gg.off e z1, gg.off eD z2, p.at fun o e => gg.keep D o hDL e z2, G.trans (gg.mono fun a o _ hp => ?_)⟩
          have hp : a = L := hp
          subst hp; exact eL1
        have exI : ∃ o, h₅.get? I = some o := let ⟨o, e, _⟩ := hit₅.thaw; ⟨o, e⟩
        have zz := side S₅ gA' exI zI zD pl₅ g₅ S₆
        have exI₆ : ∃ o, s₆.heap.get? I = some o := let ⟨o, e⟩ := exI; ⟨o, zz.1 o e⟩
        have hit₆ : ItAt σ' xa I (i + 1) items s₆.heap := hit₅.at zz.1 (by cases xa <;> simp [still])
        refine wpAny_mono (ih.ifs T' S₆ hq') (fun ok s₇ ⟨σ₇, S₇, g₇, hq₇⟩ => ?_) fun _ _ q => q
        have z7 := side S₆ g₇ exI₆ zz.2.1 zz.2.2.1 zz.2.2.2.1 zz.2.2.2.2 S₇
        have r₆ : VRels F s₆.heap ys.toList acc := S₅.vals gA' (hys.mono fz₅)
        have exI₇ : ∃ o, s₇.heap.get? I = some o := let ⟨o, e⟩ := exI₆; ⟨o, z7.1 o e⟩
        have stl : ∀ σ₇, still σ₁ xa σ₇ → still σ' xa σ₇ := by
          intro σ₇ hst
          cases xa with
          | ref l => exact (show σ₇ l = σ₁ l from hst).trans (show σ' l = σ₁ l from by
              have a1 := hit₅.2; have a2 := hit₄.2; rw [a1, a2]).symm
          | _ => trivial
        cases ok with
        | false =>
          obtain ⟨hst, hq₈⟩ := hq₇.2 rfl
          have hst' := stl _ hst
          exact hlast σ₇ s₇ acc ys (hit₆.at z7.1 hst') (S₇.weak wk) z7.2.2.2.2 z7.2.1 z7.2.2.1 z7.2.2.2.1 (S₆.vals g₇ r₆) (by lia) hq₈
        | true =>
          show wpAny _ A (eval elt (compEnvC csc cl L env)) _ _ s₇
          refine wpAny_mono (ih.ev T' S₇ (hq₇.1 rfl)) (fun y₈ s₈ ⟨b₈, σ₈, hy₈, S₈, g₈, hst, hq₈⟩ => ?_) fun _ _ q => q
          have z8 := side S₇ g₈ exI₇ z7.2.1 z7.2.2.1 z7.2.2.2.1 z7.2.2.2.2 S₈
          have r₈ : VRels F s₈.heap ys.toList acc := S₇.vals g₈ (S₆.vals g₇ r₆)
          have hl := r₈.length
          simp only [Array.length_toList] at hl
          refine wpAny_list_append_plain (hsz := by lia) z8.2.2.2.1 fun h₉ pl₉ hs₉ => ?_
          have hk₉ : ∀ a o, a ≠ D → s₈.heap.get? a = some o → h₉.get? a = some o := fun a o hne e => hs₉.extBut a o hne e
          have thD : ∀ o, s₈.heap.get? D = some o → ¬ Frozen o := fun o e => by obtain ⟨kD, eD⟩ := z8.2.2.2.1; rw [e] at eD; cases eD; simp [Frozen]
          have S₉ : St prog w F B (compEnvC csc cl L env) ρ' σ₈ { s₈ with heap := h₉ } := S₈.aside (tk := s₈.toks) hk₉ bD1 z8.2.2.1 hDL (fun x c hc => bD4 x c (c2 x c hc)) thD
          have fz₉ : ∀ a o, s₈.heap.get? a = some o → Frozen o → h₉.get? a = some o := fun a o e hf => hk₉ a o (by rintro rfl; exact thD o e hf) e
          refine hlast σ₈ { s₈ with heap := h₉ } (acc ++ [b₈]) (ys.push y₈) (hit₆.at (fun o e => hk₉ _ o hID (z8.1 o (z7.1 o e))) (stl _ hst)) (S₉.weak wk) (Go.aside (tk := s₈.toks) z8.2.2.2.2 S₈.inv eD1 z8.2.2.1 hk₉) z8.2.1 z8.2.2.1 pl₉ ?_ (by simp; lia) hq₈
          simpa using (r₈.mono fz₉).append (.cons (hy₈.mono fz₉) .nil)
      · -- the end
        have hn : items.drop i = [] := List.drop_eq_nil_of_le (List.getElem?_eq_none_iff.mp hend)
        rw [hn, compLoop] at hq'
        obtain ⟨oI, eoI, thI⟩ := hit'.thaw
        have S₅ : St prog w F B (compEnvC csc cl L env) (compRho csc ρ) σ' { s' with heap := h₅ } := S'.aside (tk := s'.toks) hk₅ bI1 zI hIL (fun x c hc => bI4 x c (c2 x c hc)) fun o e => by rw [eoI] at e; cases e; exact thI
        have g₅ := Go.aside (tk := s'.toks) g' S'.inv eI zI hk₅
        have pl₅ : h₅.PlainList D ys := pl'.at fun o e => hk₅ _ o (Ne.symm hID) e
        have fz₅ : ∀ a o, s'.heap.get? a = some o → Frozen o → h₅.get? a = some o := fun a o e hf => hk₅ a o (by rintro rfl; rw [eoI] at e; cases e; exact thI hf) e
        have So : St prog w F B env ρ σ' { s' with heap := h₅ } := S₁.after g₅ (fun a o e hp => by rw [e] at hp; cases hp) S₅.inv
        have eDs : s.heap.get? D = none := by
          cases e : s.heap.get? D with
          | none => rfl
          | some o => obtain ⟨o', e'⟩ := g.live _ o e; rw [eD1] at e'; cases e'
        have eLs : s.heap.get? L = none := by
          cases e : s.heap.get? L with
          | none => rfl
          | some o => obtain ⟨o', e'⟩ := g.live _ o e; rw [eL1] at e'; cases e'
        obtain ⟨kD, eD⟩ := pl₅
        have ho : ORel prog w F h₅ D (.list acc) := ⟨ys, kD, eD, hys.mono fz₅, by lia⟩
        have Sk : St prog w F B env ρ (σ'.set D (.list acc)) { s' with heap := h₅ } := So.know bD1 bD3 bD4 ho
        have gk : GoE env σ s (σ'.set D (.list acc)) { s' with heap := h₅ } := by
          have G1 : GoE env σ₁ s₁ σ' { s' with heap := h₅ } := g₅.mono fun a o e hp => by rw [e] at hp; cases hp
          exact Go.newObj (s₂ := { s' with heap := h₅ }) (tk := s'.toks) (h' := h₅) (g.trans G1) S₅.inv eDs zD (fun a o _ e => e)
        obtain ⟨mL, hmL⟩ := S₅.ns
        exact fin D L _ _ mL eDs eLs hDL hmL (by unfold Store.set; rw [if_neg (Ne.symm hDL)]; exact S₅.fra.offL) Sk gk (hq' D zD)
    refine codeAny_compStart_list loop ?_
    cases xa with
    | ref l => exact wpAny_pyIter_listiter hit₄.1 loop
    | rng lo hi => exact wpAny_pyIter_rangeiter hit₄.1 loop
    | _ => exact hit₄.elim
  · exact hq.elim

theorem comp_ok (ih : Snd prog w F B n) : CompOk prog w F B n := by
  intro C A env sc elt target iter ifs csc pos ρ σ s Q E T S h
  rw [eval_ListComp]
  refine comp_core ih (use := none) T S h fun D L σ' s' m eD eL hDL hn zL S' g' hq => ⟨m, hn, fun h' hs' => ?_⟩
  obtain ⟨b1, b2, b3, b4⟩ := S.newAddr eL
  have hk : ∀ a o, a ≠ L → s'.heap.get? a = some o → h'.get? a = some o := fun a o hne e => hs'.extBut a o hne e
  exact ⟨_, σ', .ref D, S'.aside (tk := s'.toks) hk b1 zL b3 b4 fun o e => ns_thaw hn o e, Go.aside (tk := s'.toks) g' S'.inv eL zL hk, hq⟩

theorem snd_all_n : ∀ n, Snd prog w F B n
  | 0 => ⟨fun _ _ h => False.elim h, fun {C A env sc es ρ σ s Q E} pos T S hf h => (by
      cases es with
      | nil => exact wpAny_items_nil ⟨rfl, [], σ, .nil, S, Go.refl _ _ _, h⟩
      | cons _ _ => exact False.elim h), fun {C A env sc e ρ σ s Q E} T S h => (by
      cases e with
      | none => exact wpAny_pure ⟨none, σ, .none, S, Go.refl _ _ _, h⟩
      | some _ => exact False.elim h), fun _ _ _ h => False.elim h, fun _ _ _ _ h => False.elim h, fun _ _ _ _ h => False.elim h, fun _ _ h => False.elim h, fun _ _ h => False.elim h, fun _ _ h => False.elim h⟩
  | n + 1 =>
    have ih := snd_all_n n
    ⟨snd_ev ih (comp_ok ih), snd_evs ih, snd_opt ih, snd_bool ih, snd_cmp ih, snd_tcmp ih, snd_tst ih, snd_all ih, snd_ifs ih⟩
end
end Mine

set_option linter.unusedVariables false
namespace Mine
open PySem PySem.W PyProof.Rows

section
variable {prog : Program} {w : World} {F : Tab} {B : Heap} {env : Env} {sc csc : Scope} {C : Cx} {ρ : Rho} {σ σ₁ σ' : Store} {s s₁ s' : Shared} {A : Around} {E : Value → Shared → Prop} {n : Nat}

theorem NxP.back {Q : Fl → Rho → Store → Prop} {f : Flow} (g : Go (Own env sc) σ s σ₁ s₁) (h : NxP prog w F B env sc σ₁ s₁ Q f s') : NxP prog w F B env sc σ s Q f s' := by
  obtain ⟨a, ρ', σ', h1, h2, h3, h4⟩ := h
  exact ⟨a, ρ', σ', h1, h2, g.trans h3, h4⟩
theorem shiftN {m : Sem Flow} {Q : Fl → Rho → Store → Prop} (g : Go (Own env sc) σ s σ₁ s₁) (h : wpAny (model prog w) A m (NxP prog w F B env sc σ₁ s₁ Q) E s') :
    wpAny (model prog w) A m (NxP prog w F B env sc σ s Q) E s' := wpAny_mono h (fun _ _ q => q.back g) (fun _ _ q => q)
theorem evIn {e : Expr} {Q : VPost} {R : Value → Shared → Prop} (T : Sta prog w F B C A env sc) (S : St prog w F B env ρ σ s) (h : ev C n sc e ρ σ Q)
    (k : ∀ v a σ₁ s₁, VRel F s₁.heap v a → St prog w F B env ρ σ₁ s₁ → GoE env σ s σ₁ s₁ → Q a σ₁ → R v s₁) : wpAny (model prog w) A (eval e env) R E s :=
  wpAny_mono ((snd_all_n n).ev T S h) (fun v s₁ ⟨a, σ₁, h1, h2, h3, h4⟩ => k v a σ₁ s₁ h1 h2 h3 h4) fun _ _ q => q

structure ErrOk (prog : Program) (w : World) (F : Tab) (B : Heap) (C : Cx) (A : Around) (env : Env) (sc : Scope) (E : Value → Shared → Prop) (σ : Store) (s : Shared) : Prop where
  own : PassesOwn (model prog w) A env E
  hand : C.calm = true → ∀ e, Sta prog w F B (C.hand e) (A.mark (some (.ref e))) env sc
  top : C.top = true → C.loud = true ∧ A.frames = some [env]
  xm : C.loud = true → ∀ c d K D, F.cls c = some K → F.cls d = some D → (C.up c).contains d = true → ∀ h e o, (∀ a o, B.get? a = some o → h.get? a = some o) → h.get? e = some o → o.cls = .ref K → Looks (model prog w) h (excMatches (.ref e) (.ref D)) true
  fr : C.loud = true → env.frame = some env.locals ∧ ∃ outer, A.frames = some (env :: outer) ∧ FrAt B σ s.heap outer ∧ ∀ e ∈ outer, ∀ L, e.frame = some L → ¬ Own env sc L
  raise : ∀ ρ' σ' s' c K e h' args, St prog w F B env ρ' σ' s' → Go (Own env sc) σ s σ' s' → F.cls c = some K ∧ F.isx c = true → C.loud = true ∧ C.exc c σ' → Heap.MadeExcOf s'.heap h' e (.ref K) args → E (.ref e) { s' with heap := h' }
  pass : ∀ ρ' σ' s' v s'', St prog w F B env ρ' σ' s' → Go (Own env sc) σ s σ' s' → C.loud = true → RaP prog w F B A σ' s' C.exc v s'' → E v s''
theorem FrAt.go {P : Addr → Prop} (g : Go P σ s σ₁ s₁) : ∀ {l : List Env}, (∀ e ∈ l, ∀ L, e.frame = some L → ¬ P L) → FrAt B σ s.heap l → FrAt B σ₁ s₁.heap l
  | [], _, _ => trivial
  | _ :: _, hn, ⟨⟨h1, L, o, h2, h3, h4, h5, h6⟩, h⟩ => ⟨⟨h1, L, o, h2, h3, g.off h5 h4, g.keep L o (hn _ (.head _) L h2) h5 h4, h6⟩, FrAt.go g (fun e he => hn e (.tail _ he)) h⟩
theorem ErrOk.go (X : ErrOk prog w F B C A env sc E σ s) (g : Go (Own env sc) σ s σ₁ s₁) : ErrOk prog w F B C A env sc E σ₁ s₁ :=
  { X with
    fr := fun h => let ⟨a, o, b, c, d⟩ := X.fr h; ⟨a, o, b, c.go g d, d⟩
    raise := fun ρ' σ' s' c K e h' args S g' => X.raise ρ' σ' s' c K e h' args S (g.trans g')
    pass := fun ρ' σ' s' v s'' S g' => X.pass ρ' σ' s' v s'' S (g.trans g') }
theorem ErrOk.frames (X : ErrOk prog w F B C A env sc E σ s) (T : Sta prog w F B C A env sc) (S : St prog w F B env ρ σ s) (h : C.loud = true) : ∃ l, A.frames = some l ∧ FrAt B σ s.heap l := by
  obtain ⟨a, o, b, c, d⟩ := X.fr h
  obtain ⟨m, hm, _⟩ := S.fra.rho.loc
  obtain ⟨ob, es, ep, e, hd, _⟩ := hm
  exact ⟨_, b, ⟨by rw [T.kind]; decide, _, ob, a, S.offB, S.fra.offL, e, fun vs => by rw [hd]; nofun⟩, c⟩

noncomputable def SndX (prog : Program) (w : World) (F : Tab) (B : Heap) (n : Nat) : Prop :=
  ∀ {C : Cx} {A : Around} {env : Env} {sc : Scope} {b : List Stmt} {ρ : Rho} {σ : Store} {s : Shared} {Q : Fl → Rho → Store → Prop} {E : Value → Shared → Prop}, Sta prog w F B C A env sc → ErrOk prog w F B C A env sc E σ s → St prog w F B env ρ σ s → exs C n sc b ρ σ Q →
    wpAny (model prog w) A (execs b env) (NxP prog w F B env sc σ s Q) E s

theorem for_core (ih : SndX prog w F B n) {t : Expr} {b : List Stmt} {I : Addr} {items : List Val} {step : Val → Rho → Store → (Fl → Rho → Store → Prop) → Prop} {ok : Store → Prop} {Q : Fl → Rho → Store → Prop} {At : Nat → Store → Heap → Prop}
    (T : Sta prog w F B C A env sc) (X : ErrOk prog w F B C A env sc E σ₁ s₁) (S : St prog w F B env ρ σ s) (eI : s₁.heap.get? I = none) (S₁ : St prog w F B env ρ σ₁ s₁) (gs : Go (fun x => s₁.heap.get? x = none ∨ Own env sc x) σ₁ s₁ σ s) (zI : σ I = none)
    (hstep : ∀ x ρ' σ' K, step x ρ' σ' K → ∃ bo ρ'', (bo = true → C.pairOk σ') ∧ bindT bo sc t x ρ' = some ρ'' ∧ exs C n sc b ρ'' σ' K)
    (hfr : ∀ i ρ' σ' σ'' (s' s'' : Shared), At i σ' s'.heap → St prog w F B env ρ' σ' s' → Go (Own env sc) σ' s' σ'' s'' → (∀ o, s'.heap.get? I = some o → s''.heap.get? I = some o) → ok σ'' → At i σ'' s''.heap)
    (hnx : ∀ i ρ' σ' (s' : Shared) (Q' : Option Value → Shared → Prop) (E' : Value → Shared → Prop), At i σ' s'.heap → St prog w F B env ρ' σ' s' → σ' I = none → (items[i]? = none → A.handled = none) →
      (∀ y x h' tk, items[i]? = some x → VRel F s'.heap y x → At (i + 1) σ' h' → (∀ a o, a ≠ I → s'.heap.get? a = some o → h'.get? a = some o) → Q' (some y) { s' with heap := h', toks := tk }) →
      (∀ h', items[i]? = none → (∀ a o, a ≠ I → s'.heap.get? a = some o → h'.get? a = some o) → Q' none { s' with heap := h' }) → wpAny (model prog w) A (pyNext (.ref I)) Q' E' s')
    (hth : ∀ i σ' h, At i σ' h → ∃ o, h.get? I = some o ∧ ¬ Frozen o)
    (hlg : ∀ i σ' (s' : Shared) v (Q' : Unit → Shared → Prop) (E' : Value → Shared → Prop), At i σ' s'.heap → Q' () s' → wpAny (model prog w) A (letOwnedTupleGo t (.ref I) v) Q' E' s')
    (hok : ok σ) (h0 : At 0 σ s.heap) (h : forLoop step C.calm ok items ρ σ Q) :
    codeAny (model prog w) A (.forLoop t (.ref I) b [] env) (fun r s' => match r with | .ok f => NxP prog w F B env sc σ₁ s₁ Q f s' | .error e => cameBackBy (model prog w) A env E e s') s := by
  have hP : ∀ a o, s₁.heap.get? a = some o → (s₁.heap.get? a = none ∨ Own env sc a) → Own env sc a := fun a o e hp => hp.resolve_left (by rw [e]; simp)
  obtain ⟨bI1, bI2, bI3, bI4⟩ := S₁.newAddr eI
  have hOI : ¬ Own env sc I := by
    rintro (e | ⟨x, _, hx⟩)
    · exact bI3 e
    · exact bI4 x I hx rfl
  refine codeAny_forLoop_any (fun k s' => ∃ i ρ' σ', k = items.length + 1 - i ∧ i ≤ items.length ∧ At i σ' s'.heap ∧ St prog w F B env ρ' σ' s' ∧ Go (fun x => s₁.heap.get? x = none ∨ Own env sc x) σ₁ s₁ σ' s' ∧ σ' I = none ∧
    forLoop step C.calm ok (items.drop i) ρ' σ' Q) ?_ (items.length + 1) ⟨0, ρ, σ, rfl, Nat.zero_le _, h0, S, gs, zI, by simpa using h⟩
  rintro k s' ⟨i, ρ', σ', rfl, hi, hat, S', g', zI', hq⟩
  obtain ⟨oI, eoI, thI⟩ := hth _ _ _ hat
  refine hnx i ρ' σ' s' _ _ hat S' zI' (fun hn => ?_) (fun y x h₅ tk₅ hb hy hat₅ hk₅ => ?_) (fun h₅ hend hk₅ => ?_)
  · rw [List.drop_eq_nil_of_le (List.getElem?_eq_none_iff.mp hn), forLoop] at hq
    exact T.calm hq.1
  · have hdrop : items.drop i = x :: items.drop (i + 1) := by
      obtain ⟨hlt, e⟩ := List.getElem?_eq_some_iff.mp hb
      rw [← e]; exact List.drop_eq_getElem_cons hlt
    have hlt : i < items.length := (List.getElem?_eq_some_iff.mp hb).1
    rw [hdrop, forLoop] at hq
    obtain ⟨ρ₀, hsub, hq⟩ := hq
    obtain ⟨bo, ρ₅, hbo, hρ₅, hq⟩ := hstep _ _ _ _ hq
    replace S' := S'.weak hsub
    have S₅ : St prog w F B env ρ₀ σ' { s' with heap := h₅, toks := tk₅ } := S'.aside hk₅ bI1 zI' bI3 bI4 fun o e => by rw [eoI] at e; cases e; exact thI
    have g₅ := Go.aside (tk := tk₅) g' S'.inv eI zI' hk₅
    have fz₅ : ∀ a o, s'.heap.get? a = some o → Frozen o → h₅.get? a = some o := fun a o e hf => hk₅ a o (by rintro rfl; rw [eoI] at e; cases e; exact thI hf) e
    refine hlg (i + 1) σ' { s' with heap := h₅, toks := tk₅ } _ _ _ hat₅ (assign_sound T S₅ (hy.mono fz₅) hbo hρ₅ fun s₆ S₆ gA => ?_)
    have G₆ : Go (fun x => s₁.heap.get? x = none ∨ Own env sc x) σ₁ s₁ σ' s₆ := g₅.trans (gA.mono fun a o _ hp => .inr hp)
    refine wpAny_mono (ih T (X.go (G₆.mono hP)) S₆ hq) (fun f s₇ ⟨fl, ρ₇, σ₇, hf, S₇, g₇, hq₇⟩ => ?_) X.own
    have G₇ : Go (fun x => s₁.heap.get? x = none ∨ Own env sc x) σ₁ s₁ σ₇ s₇ := G₆.trans (g₇.mono fun a o _ hp => .inr hp)
    cases hf with
    | next =>
      obtain ⟨hok₇, hq₇⟩ := hq₇
      obtain ⟨oI₅, eoI₅, _⟩ := hth _ _ _ hat₅
      have e6 := gA.keep I oI₅ hOI eoI₅ zI'
      have hk : ∀ o, h₅.get? I = some o → s₇.heap.get? I = some o := fun o e => g₇.keep I o hOI (gA.keep I o hOI e zI') zI'
      exact ⟨_, by lia, i + 1, ρ₇, σ₇, rfl, hlt, hfr (i + 1) ρ₀ σ' σ₇ { s' with heap := h₅, toks := tk₅ } s₇ hat₅ S₅ (gA.trans g₇) hk hok₇, S₇, G₇, g₇.off e6 zI', hq₇⟩
    | ret hv => exact ⟨_, ρ₇, σ₇, .ret hv, S₇, G₇.mono hP, hq₇⟩
  · rw [List.drop_eq_nil_of_le (List.getElem?_eq_none_iff.mp hend), forLoop] at hq
    have S₅ : St prog w F B env ρ' σ' { s' with heap := h₅ } := S'.aside (tk := s'.toks) hk₅ bI1 zI' bI3 bI4 fun o e => by rw [eoI] at e; cases e; exact thI
    have g₅ := Go.aside (tk := s'.toks) g' S'.inv eI zI' hk₅
    obtain ⟨_, ρ₀, hsub, hq⟩ := hq
    exact wpAny_execs_nil ⟨_, ρ₀, σ', .next, S₅.weak hsub, g₅.mono hP, hq⟩
end
end Mine

set_option linter.unusedVariables false
namespace Mine
open PySem PySem.W PyProof.Rows

section
variable {prog : Program} {w : World} {F : Tab} {B : Heap} {env : Env} {sc csc : Scope} {C : Cx} {ρ : Rho} {σ σ₁ σ' : Store} {s s₁ s' : Shared} {A : Around} {E : Value → Shared → Prop} {n : Nat}

theorem isGl_is {x : Str} (hx : isGl sc x = true) : sc.names.lookup x = some .globalImplicit := by
  unfold isGl at hx
  cases h : sc.names.lookup x with
  | none => rw [h] at hx; cases hx
  | some k => rw [h] at hx; cases k <;> first | rfl | cases hx
theorem isLo_is {x : Str} (hx : isLo sc x = true) : sc.names.lookup x = some .local ∧ isLoc sc x = true := by
  unfold isLo at hx
  unfold isLoc
  cases h : sc.names.lookup x with
  | none => rw [h] at hx; cases hx
  | some k => rw [h] at hx; cases k <;> first | exact ⟨rfl, rfl⟩ | cases hx
noncomputable def RxP (prog : Program) (w : World) (F : Tab) (B : Heap) (C : Cx) (A : Around) (env : Env) (ρ : Rho) (σ : Store) (s : Shared) (Y : Str → Store → Prop) (v : Value) (s' : Shared) : Prop :=
  C.loud = true ∧ ∃ σ₁ s₁, St prog w F B env ρ σ₁ s₁ ∧ GoE env σ s σ₁ s₁ ∧ RaP prog w F B A σ₁ s₁ Y v s'
theorem evR_sound {f : Expr} {as : List Expr} {cp : Pos} {Y : Str → Store → Prop} (T : Sta prog w F B C A env sc) (X : ErrOk prog w F B C A env sc E σ s) (S : St prog w F B env ρ σ s) (h : evR C n sc f as cp ρ σ Y) :
    wpAny (model prog w) A (eval (.Call f as [] cp) env) (fun _ _ => False) (RxP prog w F B C A env ρ σ s Y) s := by
  cases f with
  | Name g p =>
    have h : (C.loud = true ∧ fewArgs as = true) ∧ ev C n sc (.Name g p) ρ σ fun fv σ₁ => evs C n sc as ρ σ₁ fun vs σ₂ => rcallV C fv vs σ₂ Y := h
    obtain ⟨⟨hl, hf⟩, h⟩ := h
    obtain ⟨f1, f2, f3⟩ := few_all (env := env) (pos := cp) hf
    refine Call_Name rfl (evIn T S h fun v a σ₁ s₁ hv S₁ g₁ hq => ?_)
    have ha := (snd_all_n n).evs (E := fun _ _ => False) cp T S₁ hf hq
    cases hv with
    | fn e =>
      rename_i m f
      obtain ⟨o, fd, h1, h2⟩ := T.fns m f e
      refine Calls.callWith_function (o := o) (fd := fd) (evalArgs_any f2 (wpAny_mono ha (fun vs s₂ z => ?_) fun _ _ x => x.elim))
      obtain ⟨_, as', σ₂, r1, r2, r3, r4⟩ := z
      obtain ⟨l, l1, l2⟩ := (X.go (g₁.trans r3).owns).frames T r2 hl
      refine ⟨⟨r2.inv.keep _ _ h1, h2⟩, ?_⟩
      exact wpAny_mono (T.rcall hl (.top m) as' ρ σ₂ Y r4 s₂ vs f l e l1 l2 r2 r1) (fun _ _ q => q) fun _ _ q => ⟨hl, σ₂, s₂, r2, g₁.trans r3, q⟩
    | cls e =>
      rename_i m f
      by_cases hx : C.isx m = false
      case neg =>
        exact callWith_dead f2 (wpAny_mono ha (fun vs s₂ z => by obtain ⟨_, as, σ₂, q1, q2, q3, q4⟩ := z; exact hx q4.1) fun _ _ x => x.elim)
      obtain ⟨k, hk, hL⟩ := T.clsK m f e hx
      refine callWith_of (P := fun h => ∀ a o, B.get? a = some o → h.get? a = some o) (by simp [f2]) (fun h hP => ⟨k, hk, hL.keeps hP⟩) (evalArgs_any f2 (wpAny_mono ha (fun vs s₂ z => ?_) fun _ _ x => x.elim))
      obtain ⟨_, as', σ₂, r1, r2, r3, r4⟩ := z
      obtain ⟨l, l1, l2⟩ := (X.go (g₁.trans r3).owns).frames T r2 hl
      refine ⟨r2.inv.keep, ?_⟩
      exact wpAny_mono (T.rmake hl m as' ρ σ₂ Y r4 s₂ vs f l e l1 l2 r2 r1) (fun _ _ q => q) fun _ _ q => ⟨hl, σ₂, s₂, r2, g₁.trans r3, q⟩
    | _ =>
      exact callWith_dead f2 (wpAny_mono ha (fun vs s₂ z => by obtain ⟨_, as, σ₂, q1, q2, q3, q4⟩ := z; exact q4) fun _ _ x => x.elim)
  | Attribute o m ap =>
    have h : (C.loud = true ∧ plainBase o = true ∧ fewArgs as = true ∧ (ap.endLine == cp.line) = true) ∧ ev C n sc o ρ σ fun ov σ₁ => ∃ c p, (methKind ov m σ₁ = some (.inst c p) ∧ C.mth c m = true) ∧ evs C n sc as ρ σ₁ fun vs σ₂ => C.rcall (.meth c m) (.ref p :: vs) σ₂ Y := h
    obtain ⟨⟨hl, hb, hf, hll⟩, h⟩ := h
    obtain ⟨f1, f2, f3⟩ := few_all (env := env) (pos := cp) hf
    rw [arm_eval_Call, base_plain hb]
    refine wpAny_bind (evIn T S h fun v a σ₁ s₁ hv S₁ g hq => wpAny_bind (wpAny_standAt ?_))
    obtain ⟨c, p, ⟨hk, hok⟩, hq⟩ := hq
    have hform : methodCallForm (as.length + ([] : List Keyword).length) (backTo cp (starEach as env)) (backToKw cp (keywordEach [] env)) = true := by
      unfold methodCallForm
      rw [f1]
      simp [keywordEach, backToKw]; lia
    have hpos : methodCallPos true o env ap cp = pure cp := by unfold methodCallPos; simp [hll]
    have ha := (snd_all_n n).evs (E := fun _ _ => False) cp T S₁ hf hq
    unfold methodCall
    rw [hform]
    obtain ⟨p', rfl, hkk⟩ := methKind_sees hk
    obtain rfl := hv.toRef
    have hpp : p' = p := by
      rcases hkk with ⟨xs, hp, e⟩ | ⟨c', dx, fs, hp, hfs, hno, e⟩
      · cases e
      · cases e; rfl
    subst hpp
    obtain ⟨f, hf1, hf2⟩ := T.meth c m hok
    obtain ⟨ob, fd, h1, h2⟩ := T.methFn c m f hf1
    refine wpAny_bind (wpAny_holding (hf2 env p' ρ σ₁ s₁ _ _ _ S₁ hk ?_))
    refine wpAny_bind (wpAny_of_eq hpos (Calls.callWith_function (o := ob) (fd := fd) (evalArgs_any f2 (wpAny_mono ha (fun vs s₂ z => ?_) fun _ _ x => x.elim))))
    obtain ⟨_, as, σ₂, q1, q2, q3, q4⟩ := z
    refine ⟨⟨q2.inv.keep _ _ h1, h2⟩, ?_⟩
    obtain ⟨l, l1, l2⟩ := (X.go (g.trans q3).owns).frames T q2 hl
    exact wpAny_mono (T.rcall hl (.meth c m) _ ρ σ₂ Y q4 s₂ (.ref p' :: vs) f l hf1 l1 l2 q2 (.cons (.ref p') q1)) (fun _ _ q => q) fun _ _ q => ⟨hl, σ₂, s₂, q2, g.trans q3, q⟩
  | _ => exact False.elim h

theorem raise_sound {x : Str} {np cp pos q : Pos} {t : Str} {kk : Nat} {v : Str} {Q : Flow → Shared → Prop} (T : Sta prog w F B C A env sc) (S : St prog w F B env ρ σ s) (hc : C.calm = true) (hl : C.loud = true) (hx : isGl sc x = true) (hg : C.gl x = some (.cls v)) (he : C.isx v = true)
    (k : ∀ K s₁ e h' args, F.cls v = some K → St prog w F B env ρ σ s₁ → GoE env σ s σ s₁ → Heap.MadeExcOf s₁.heap h' e (.ref K) args → E (.ref e) { s₁ with heap := h' }) :
    wpAny (model prog w) A (exec (.Raise (some (.Call (.Name x np) [.Constant (.str t) kk q] [] cp)) none pos) env) Q E s := by
  obtain ⟨K, hK, x', mg, bn, newId, initId, bmB, O, FB⟩ := T.exn hl v he
  obtain ⟨tl, N, nm, qn, bs, hdct, sn, sub, ab, col, dd, k0, k1, k2, k3, k5, mN, hC, hN, hni, OT⟩ := O.obj
  have hxg := isGl_is hx
  refine wpAny_Raise_call_subT (C := K) (nm := nm) (q := qn) (N := N) (bs := bs) (bm := tl) (hdct := hdct) (sn := sn) (sub := sub) (ab := ab) (col := col) (dd := dd) (k0 := k0) (k1 := k1) (k2 := k2) (k3 := k3) (k5 := k5) FB (mN := mN) (OT.hasType FB.hasBase) (T.calm hc) rfl hni ?_
  refine EvP.bind (Q := fun a σ' => a = .cls v ∧ σ' = σ) (glob_sound T S hxg hg ⟨rfl, rfl⟩) fun val a σ₁ s₁ hv S₁ g ⟨e1, e2⟩ => ?_
  subst e1 e2
  cases hv with
  | cls e =>
    rw [hK] at e; cases e
    refine ⟨rfl, evalArgs_any rfl (wpAny_mono ((snd_all_n 2).evs (Q := fun vs σ' => σ' = σ₁) (C := C) (sc := sc) cp T S₁ rfl (show evs C 2 sc [.Constant (.str t) kk q] ρ σ₁ _ from rfl)) (fun vs s₂ ⟨hn, as, σ₂, q1, q2, q3, q4⟩ => ?_) fun _ _ z => z)⟩
    subst q4
    exact ⟨rfl, by rw [hn]; exact (by decide : 1 ≤ sizeLine), q2.inv.keep _ _ hC, hN.keeps q2.inv.keep, OT.keeps q2.inv.keep, fun h' e hm => k K s₂ e h' vs hK q2 (g.trans q3) hm⟩

end
end Mine

set_option linter.unusedVariables false
namespace Mine
open PySem PySem.W PyProof.Rows
section
variable {prog : Program} {w : World} {F : Tab} {B : Heap} {env : Env} {sc csc : Scope} {C : Cx} {ρ : Rho} {σ σ₁ σ' : Store} {s s₁ s' : Shared} {A : Around} {E : Value → Shared → Prop} {n : Nat}

theorem St.moved {ρ' : Rho} (S : St prog w F B env ρ σ s) (J : Inv prog w F B σ' s'.heap) (fz : ∀ a o, s.heap.get? a = some o → Frozen o → s'.heap.get? a = some o) (oL : σ' env.locals = none)
    (hL : ∃ m, s'.heap.Ns env.locals m ∧ ∀ x a, env.kindOf x = some .local → ρ' x = some a → ∃ v, m x = some v ∧ VRel F s'.heap v a) (hC : ∀ x c, env.cells.lookup x = some c → σ' c = none ∧ ∀ o, s.heap.get? c = some o → s'.heap.get? c = some o)
    (hρ : ∀ x a, ρ' x = some a → ρ x = some a) : St prog w F B env ρ' σ' s' := by
  refine ⟨J, ⟨⟨hL, fun x a h1 h2 => ?_⟩, oL, fun x c hc => ?_⟩, S.offB, S.offC⟩
  · obtain ⟨c, v, h3, ⟨oc, h4, h5⟩, h6⟩ := S.fra.rho.cel x a h1 (hρ x a h2)
    exact ⟨c, v, h3, ⟨oc, (hC x c h3).2 oc h4, h5⟩, h6.mono fz⟩
  · obtain ⟨_, h2, v, oc, h3, h4⟩ := S.fra.offC x c hc
    exact ⟨(hC x c hc).1, h2, v, oc, (hC x c hc).2 oc h3, h4⟩

theorem but_sound {x : Str} {pos : Pos} {Q : Unit → Shared → Prop} (T : Sta prog w F B C A env sc) (S : St prog w F B env ρ σ s) (hl : sc.names.lookup x = some .local)
    (h : ∀ s', St prog w F B env (ρ.but x) σ s' → Go (Own env sc) σ s σ s' → Q () s') : wpAny (model prog w) A (do bindName env x .none; unbindBehindTheSuite env x pos) Q E s := by
  have hx : env.kindOf x = some .local := by
    rcases T.names x with e | ⟨e1, e2⟩
    · exact e.trans hl
    · rw [hl] at e1; cases e1
  obtain ⟨m, hm, hlo⟩ := S.fra.rho.loc
  refine wpAny_nameGoes_keeps hx hm (by rw [T.kind]; rfl) fun h' v hn' hs' => ?_
  have hk : ∀ a o, a ≠ env.locals → s.heap.get? a = some o → h'.get? a = some o := fun a o hne e => hs'.extBut a o hne e
  have g : Go (Own env sc) σ s σ { s with heap := h', toks := s.toks + 1 } := by
    refine ⟨⟨_, _, rfl⟩, fun a o hP e _ => hk a o (fun q => hP (.inl q)) e, fun a o e => ?_, fun _ a b => absurd a b, fun _ a => a⟩
    · by_cases ha : a = env.locals
      · subst ha; obtain ⟨o', _, _, e', _⟩ := hn'; exact ⟨o', e'⟩
      · exact ⟨o, hk a o ha e⟩
  have fz := S.frozenO g
  refine h _ (S.moved ⟨fun a o e => hk a o (by rintro rfl; rw [S.offB] at e; cases e) (S.inv.keep a o e), fun a o e => ⟨(S.inv.obj a o e).1, ?_⟩, S.inv.scr⟩ fz S.fra.offL ⟨_, hn', fun y b h1 h2 => ?_⟩ (fun y c hc => ⟨(S.fra.offC y c hc).1, fun o e => hk c o (S.fra.offC y c hc).2.1 e⟩) fun y b e => ?_) g
  · obtain ⟨ob, e1, _⟩ := ORel.live prog w F (S.inv.obj a o e).2
    have hne : a ≠ env.locals := by rintro rfl; rw [S.fra.offL] at e; cases e
    exact ORel.mono prog w F fz ((hk a ob hne e1).trans e1.symm) (S.inv.obj a o e).2
  · unfold Rho.but at h2
    by_cases hy : y = x
    · rw [if_pos hy] at h2; cases h2
    · rw [if_neg hy] at h2
      obtain ⟨v', h3, h4⟩ := hlo y b h1 h2
      exact ⟨v', by rw [if_neg hy]; exact h3, h4.mono fz⟩
  · unfold Rho.but at e
    by_cases hy : y = x
    · rw [if_pos hy] at e; cases e
    · rw [if_neg hy] at e; exact e

theorem landed {base h₅ : Heap} (S : St prog w F B env ρ σ s) (hf : env.frame = some env.locals) (J : Inv prog w F B σ₁ s₁.heap) (g : Go (fun _ => False) σ s σ₁ s₁) (sm : s₁.heap.UpToSlots h₅) (st : base.StaysIn h₅)
    (kb : ∀ b o, s₁.heap.get? b = some o → (∀ e ∈ [env], e.frame ≠ some b) → (σ₁ b ≠ none ∨ Frozen o ∨ ∃ o', s.heap.get? b = some o') → base.get? b = some o) :
    St prog w F B env ρ σ₁ { s₁ with heap := h₅ } ∧ Go (Own env sc) σ s σ₁ { s₁ with heap := h₅ } ∧
      ∀ p, base.get? p = none → (∃ o vs, h₅.get? p = some o ∧ o.data = .fields vs) → s.heap.get? p = none ∧ σ₁ p = none := by
  have S₁ : St prog w F B env ρ σ₁ s₁ := S.after g (fun _ _ _ f => f) J
  have kb' : ∀ b o, s₁.heap.get? b = some o → b ≠ env.locals → (σ₁ b ≠ none ∨ Frozen o ∨ ∃ o', s.heap.get? b = some o') → base.get? b = some o := fun b o e hn => kb b o e fun e' he => by
    rw [List.mem_singleton.mp he, hf]; exact fun q => hn (Option.some.inj q).symm
  have kp : ∀ b o, s₁.heap.get? b = some o → b ≠ env.locals → (σ₁ b ≠ none ∨ Frozen o ∨ ∃ o', s.heap.get? b = some o') → h₅.get? b = some o := fun b o e hn hk => st _ _ (kb' b o e hn hk)
  obtain ⟨m, hm, hlo⟩ := S₁.fra.rho.loc
  have thaw : ∀ b o, s₁.heap.get? b = some o → Frozen o → b ≠ env.locals := by rintro b o e hz rfl; exact ns_thaw hm o e hz
  have fz : ∀ a o, s₁.heap.get? a = some o → Frozen o → h₅.get? a = some o := fun a o e hz => kp a o e (thaw a o e hz) (.inr (.inl hz))
  have hσ : ∀ a o, σ₁ a = some o → a ≠ env.locals := by rintro a o e rfl; rw [S₁.fra.offL] at e; cases e
  have objk : ∀ a o, σ₁ a = some o → h₅.get? a = s₁.heap.get? a := fun a o e => by
    obtain ⟨ob, e1, _⟩ := ORel.live prog w F (J.obj a o e).2
    exact (kp a ob e1 (hσ a o e) (.inl (by rw [e]; nofun))).trans e1.symm
  have hn₅ := sm.ns hm
  refine ⟨S₁.moved (s' := { s₁ with heap := h₅ }) ⟨fun a o e => kp a o (J.keep a o e) (by rintro rfl; rw [S.offB] at e; cases e) (.inr (.inr ⟨o, S.inv.keep a o e⟩)), fun a o e => ⟨(J.obj a o e).1, ORel.mono prog w F fz (objk a o e) (J.obj a o e).2⟩, J.scr⟩ fz S₁.fra.offL
    ⟨m, hn₅, fun x a h1 h2 => let ⟨v, h3, h4⟩ := hlo x a h1 h2; ⟨v, h3, h4.mono fz⟩⟩ (fun x c hc => ⟨(S₁.fra.offC x c hc).1, fun o e => kp c o e (S₁.fra.offC x c hc).2.1 (.inr (.inr (let ⟨_, _, v, oc, h3, h4⟩ := S.fra.offC x c hc; ⟨oc, h3⟩)))⟩) (fun _ _ e => e), ?_, fun p hp hq => ?_⟩
  · refine ⟨?_, fun a o hP e hs => kp a o (g.keep a o id e hs) (fun q => hP (.inl q)) (.inr (.inr ⟨o, e⟩)), fun a o e => ?_, g.grow, g.dom⟩
    · obtain ⟨h1, t1, e⟩ := g.same; exact ⟨h₅, t1, by rw [e]⟩
    · by_cases ha : a = env.locals
      · subst ha; obtain ⟨o', _, _, e', _⟩ := hn₅; exact ⟨o', e'⟩
      · obtain ⟨o', e'⟩ := g.live a o e; exact ⟨o', kp a o' e' ha (.inr (.inr ⟨o, e⟩))⟩
  · have hne : p ≠ env.locals := by
      rintro rfl
      obtain ⟨o, vs, e, hd⟩ := hq
      obtain ⟨o', es, ep, e', hd', _⟩ := hn₅
      rw [e] at e'; cases e'; rw [hd] at hd'; cases hd'
    constructor
    · cases e : s.heap.get? p with
      | none => rfl
      | some o => obtain ⟨o', e'⟩ := g.live p o e; rw [kb' p o' e' hne (.inr (.inr ⟨o, e⟩))] at hp; cases hp
    · cases e : σ₁ p with
      | none => rfl
      | some o =>
        obtain ⟨ob, e1, _⟩ := ORel.live prog w F (J.obj p o e).2
        rw [kb' p ob e1 hne (.inl (by rw [e]; nofun))] at hp; cases hp

theorem try_sound (ih : SndX prog w F B n) {g : Expr} {as : List Expr} {q r xp hp p : Pos} {x nm : Str} {b₀ : Stmt} {rs : List Stmt} {Q : Fl → Rho → Store → Prop} (T : Sta prog w F B C A env sc) (X : ErrOk prog w F B C A env sc E σ s) (S : St prog w F B env ρ σ s)
    (h1 : C.calm = true) (h2 : C.top = true) (h3 : isLo sc nm = true) (h4 : isGl sc x = true)
    (h : ev C n sc (.Call g as [] q) ρ σ (fun _ σ₁ => Q .next ρ σ₁) ∨
        ∃ d, C.gl x = some (.cls d) ∧ evR C n sc g as q ρ σ fun c σ₁ => (C.up c).contains d = true ∧ ∀ a, σ₁ a = none → exs (C.hand a) n sc (b₀ :: rs) (upd ρ nm (.ref a)) (σ₁.set a (.exc c (C.up c))) fun fl ρ' σ' => Q fl (ρ'.but nm) σ') :
    wpAny (model prog w) A (exec (.Try [.Expr (.Call g as [] q) r] [.ExceptHandler (some (.Name x xp)) (some nm) (b₀ :: rs) hp] [] [] p) env) (NxP prog w F B env sc σ s Q) E s := by
  obtain ⟨hloud, hA⟩ := X.top h2
  obtain ⟨hfr, _⟩ := X.fr hloud
  obtain ⟨hlo, hloc⟩ := isLo_is h3
  refine wpAny_Try_except (wpAny_execs_cons ?_)
  rw [exec_Expr env _ r (by unfold interactive; rw [T.kind]; rfl) rfl]
  refine wpAny_bind (wpAny_standAt (wpAny_bind ?_))
  rcases h with h | ⟨d, hd, h⟩
  · exact evIn T S h fun v a σ₁ s₁ hv S₁ g hq => wpAny_dropValue (wpAny_execs_nil (wpAny_execs_nil ⟨_, ρ, σ₁, .next, S₁, g.owns, hq⟩))
  · refine wpAny_mono (evR_sound T X S h) (fun _ _ f => f.elim) fun v s' hx => ?_
    obtain ⟨_, σ₂, s₂, S₂, g₂, c, K, e, σ₁, s₁, base, l, ⟨rfl, hl, ⟨hK, hKx⟩, hup, hq⟩, J, g₁, ⟨h', rfl⟩, sm, fl, kb⟩ := hx
    rw [hA] at hl; cases hl
    refine fly_note (Exo.steady K) hA hfr fl fun h₄ held sm₄ => fly_mark held fun h₅ fl₅ sm₅ => ?_
    obtain ⟨ob, _, eob, ⟨ecls, _⟩, _⟩ := fl₅.there
    have T' := X.hand h1 e
    have L₅ := landed (sc := sc) S₂ hfr J g₁ (sm.trans (sm₄.trans sm₅)) fl₅.stay kb
    have hB₅ := L₅.1.inv.keep
    refine wpAny_handleBy_cons (codeAny_handlers_test (glob_at T' (s := { s₁ with heap := h₅ }) hB₅ (isGl_is h4) hd fun val hv => ?_)) (by intro q; cases q)
    cases hv with
    | cls eD =>
      refine (X.xm hloud c d K _ hK eD hup h₅ e ob hB₅ eob ecls).here (s := { s₁ with heap := h₅ }) (codeAny_handlers_suite_as ?_)
      refine fly_mark fl₅ fun h₆ fl₆ sm₆ => ?_
      obtain ⟨S₆, g₆, fresh⟩ := landed (sc := sc) S₂ hfr J g₁ (sm.trans (sm₄.trans (sm₅.trans sm₆))) fl₆.stay kb
      obtain ⟨oe, vs, eoe, ⟨ecl, edx⟩, edt⟩ := fl₆.there
      obtain ⟨z1, z2⟩ := fresh e fl₆.new ⟨oe, vs, eoe, edt⟩
      obtain ⟨y1, y2, y3, y4⟩ := S₂.newAddr z1
      have S₇ : St prog w F B env ρ (σ₁.set e (.exc c (C.up c))) { s₁ with heap := h₆ } := S₆.know y1 y3 y4 ⟨K, oe, ⟨hK, hKx, by rw [T.up]⟩, eoe, ecl, edx⟩
      have g₇ := Go.newObj (tk := s₁.toks) (ao := .exc c (C.up c)) g₆ S₆.inv z1 z2 fun a o _ e => e
      refine store_sound T' S₇ hloc (.ref e) fun s₈ S₈ g₈ => ?_
      have X' : ErrOk prog w F B (C.hand e) (A.mark (some (.ref e))) env sc (fun _ _ => False) (σ₁.set e (.exc c (C.up c))) s₈ := ⟨.never, nofun, nofun, nofun, nofun, fun _ _ _ _ _ _ _ _ _ _ _ q => Bool.noConfusion q.1, fun _ _ _ _ _ _ _ q => Bool.noConfusion q⟩
      refine wpAny_mono (ih T' X' S₈ (hq e z2)) (fun f s₉ ⟨fl, ρ₉, σ₉, hf, S₉, g₉, hq₉⟩ => ?_) fun _ _ f => f.elim
      refine but_sound T S₉ hlo fun s₁₀ S₁₀ g₁₀ => ⟨fl, _, σ₉, ?_, S₁₀, g₂.owns.trans (g₇.trans (g₈.trans (g₉.trans g₁₀))), hq₉⟩
      cases hf with
      | next => exact .next
      | ret hv => exact .ret (S₉.valO g₁₀ hv)
end
end Mine

set_option linter.unusedVariables false
namespace Mine
open PySem PySem.W PyProof.Rows

section
variable {prog : Program} {w : World} {F : Tab} {B : Heap} {env : Env} {sc csc : Scope} {C : Cx} {ρ : Rho} {σ σ₁ σ' : Store} {s s₁ s' : Shared} {A : Around} {E : Value → Shared → Prop} {n : Nat}

theorem came_mono {E E' : Value → Shared → Prop} (h : ∀ v s', E v s' → E' v s') {e : Value} (q : cameBackBy (model prog w) A env E e s') : cameBackBy (model prog w) A env E' e s' :=
  wpAny_mono q (fun _ s'' x => h _ _ x) fun _ _ x => h _ _ x

theorem for_plain (ih : SndX prog w F B n) {t : Expr} {b : List Stmt} {v : Value} {a : Val} {items : List Val} {step : Val → Rho → Store → (Fl → Rho → Store → Prop) → Prop} {Q : Fl → Rho → Store → Prop} {E' : Value → Shared → Prop} (T : Sta prog w F B C A env sc) (X : ErrOk prog w F B C A env sc E σ s) (S : St prog w F B env ρ σ s)
    (hv : VRel F s.heap v a) (hi : itemsOf σ a = some items) (hstep : ∀ x ρ' σ' K, step x ρ' σ' K → ∃ bo ρ'', (bo = true → C.pairOk σ') ∧ bindT bo sc t x ρ' = some ρ'' ∧ exs C n sc b ρ'' σ' K) (h : forLoop step C.calm (still σ a) items ρ σ Q) :
    wpAny (model prog w) A (pyIter v) (fun it s₂ => codeAny (model prog w) A (.forLoop t it b [] env) (fun r s' => match r with | .ok f => NxP prog w F B env sc σ s Q f s' | .error e => cameBackBy (model prog w) A env E e s') s₂) E' s := by
  refine iter_start S hv hi fun h' hk hit => ?_
  have S' : St prog w F B env ρ σ { s with heap := h' } := (S.ext (tk := s.toks) hk).1
  have g' : Go (fun x => s.heap.get? x = none ∨ Own env sc x) σ s σ { s with heap := h' } := (S.ext (tk := s.toks) hk).2.mono fun a o _ hp => .inr (.inl hp)
  refine for_core ih (At := fun i σ' h => ItAt σ' a s.heap.objs.size i items h) (ok := still σ a) T X S' (sizeNone _) S g' (S.freshOf (sizeNone _)) hstep (fun i ρ' σ' σ'' s' s'' x S' g hk hok => ?_) (fun i ρ' σ' s' Q' E' x S' z hm h1 h2 => iter_next S' z x hm h1 h2) (fun i σ' h x => x.thaw)
    (fun i σ' s' v Q' E' x hq => letGo_it x hq) (by cases a <;> simp [still]) hit h
  refine x.at hk ?_
  cases a with
  | ref l => exact (show σ'' l = σ l from hok).trans (show σ' l = σ l from by rw [x.2, hit.2]).symm
  | _ => trivial

theorem Raw_same {h : Heap} {d : Addr} {es es' : Array DictEntry} {ep ep' : Nat} (x : RawDict h d es ep) (y : RawDict h d es' ep') : es = es' ∧ ep = ep' := by
  obtain ⟨o, e, _, d1⟩ := x
  obtain ⟨o', e', _, d2⟩ := y
  rw [e] at e'; cases e'; rw [d1] at d2; cases d2; exact ⟨rfl, rfl⟩

theorem swaps_no {v : Expr} {o i : Expr} {p : Pos} {l : Nat} : swapsWith v (some (.Subscript o i p)) l env = pure false := by cases v <;> rfl
theorem swaps_noA {v : Expr} {o : Expr} {a : Str} {p : Pos} {l : Nat} : swapsWith v (some (.Attribute o a p)) l env = pure false := by cases v <;> rfl
theorem inter_no (T : Sta prog w F B C A env sc) : interactive env = false := by unfold interactive; rw [T.kind]; rfl

theorem assign_name (T : Sta prog w F B C A env sc) (S : St prog w F B env ρ σ s) {x : Str} {px p : Pos} {e : Expr} {Q : Fl → Rho → Store → Prop} (hl : isLoc sc x = true) (h : ev C n sc e ρ σ fun v σ₁ => Q .next (upd ρ x v) σ₁) :
    wpAny (model prog w) A (exec (.Assign [.Name x px] e p) env) (NxP prog w F B env sc σ s Q) E s := by
  have plain : swapsWith e (some (.Name x px)) p.line env = pure false → wpAny (model prog w) A (exec (.Assign [.Name x px] e p) env) (NxP prog w F B env sc σ s Q) E s := fun hs =>
    wpAny_Assign_Name (evIn T S h fun v a σ₁ s₁ hv S₁ g hq => store_sound T S₁ hl hv fun s₂ S₂ g₂ => ⟨_, _, σ₁, .next, S₂, g.owns.trans g₂, hq⟩) hs
  cases e with
  | ListComp elt gens csc pos =>
    have hsw : swapsWith (.ListComp elt gens csc pos) (some (.Name x px)) p.line env = pure (env.blockKind == .function && env.kindOf x == some .local && px.line == pos.line && !(csc.names.any fun (n, k) => n == x && (k == .local || k == .cell))) := rfl
    cases hb : (env.blockKind == .function && env.kindOf x == some .local && px.line == pos.line && !(csc.names.any fun (n, k) => n == x && (k == .local || k == .cell))) with
    | false => exact plain (hsw.trans (by rw [hb]))
    | true =>
      rw [hb] at hsw
      cases n with
      | zero => exact False.elim h
      | succ n =>
        match gens with
        | [] => exact False.elim h
        | g :: g' :: l =>
          obtain ⟨t, i, f, k⟩ := g
          cases k with
          | ofNat m => cases m <;> exact False.elim h
          | negSucc m => exact False.elim h
        | [⟨target, iter, ifs, k⟩] =>
          by_cases hk : k = 0
          · subst hk
            rw [exec_Assign_Name_used _ _ _ _ hsw]
            refine wpAny_bind (wpAny_standAt (wpAny_bind ?_))
            show wpAny _ A (do let _ ← comprehension (.ListComp elt [⟨target, iter, ifs, 0⟩] csc pos) csc env _ (newList []) false (eval iter env) (some (assign (.Name x px) env))) _ _ s
            refine wpAny_bind (wpAny_mono (comp_core (snd_all_n n) (use := some (assign (.Name x px) env)) (K := fun _ s' => NxP prog w F B env sc σ s Q .next s') T S h fun D L σ' s' m eD eL hDL hn zL S' g' hq => ?_) (fun _ s' hq => wpAny_pure (wpAny_pure hq)) fun _ _ e => e)
            obtain ⟨b1, b2, b3, b4⟩ := S.newAddr eL
            show wpAny _ A (assign (.Name x px) env (.ref D)) _ _ s'
            have oL : ¬ Own env sc L := by
              rintro (e | ⟨y, _, hy⟩)
              · exact b3 e
              · exact b4 y L hy rfl
            refine wpAny_assign_Name (store_sound T S' hl (.ref D) fun s₂ S₂ g₂ => ⟨m, hn.at' fun o e => g₂.keep L o oL e zL, fun h' hs' => ?_⟩)
            have hk : ∀ a o, a ≠ L → s₂.heap.get? a = some o → h'.get? a = some o := fun a o hne e => hs'.extBut a o hne e
            exact ⟨_, _, σ', .next, S₂.aside (tk := s₂.toks) hk b1 zL b3 b4 (fun o e => ns_thaw (hn.at' fun o e => g₂.keep L o oL e zL) o e), Go.aside (tk := s₂.toks) (g'.owns.trans g₂) S₂.inv eL zL hk, hq⟩
          · cases k with
            | ofNat m => cases m with
              | zero => exact absurd rfl hk
              | succ m => exact False.elim h
            | negSucc m => exact False.elim h
  | SetComp => cases n <;> exact False.elim h
  | DictComp => cases n <;> exact False.elim h
  | _ => exact plain rfl

theorem sndx_all : ∀ n, SndX prog w F B n ∧ ∀ {C : Cx} {A : Around} {env : Env} {sc : Scope} {st : Stmt} {ρ : Rho} {σ : Store} {s : Shared} {Q : Fl → Rho → Store → Prop} {E : Value → Shared → Prop}, Sta prog w F B C A env sc → ErrOk prog w F B C A env sc E σ s → St prog w F B env ρ σ s → ex C n sc st ρ σ Q →
    wpAny (model prog w) A (exec st env) (NxP prog w F B env sc σ s Q) E s := by
  intro n
  induction n with
  | zero =>
    refine ⟨fun {C A env sc b ρ σ s Q E} T X S h => ?_, fun T X S h => False.elim h⟩
    cases b with
    | nil => exact wpAny_execs_nil ⟨_, ρ, σ, .next, S, Go.refl _ _ _, h⟩
    | cons _ _ => exact False.elim h
  | succ n ih =>
    obtain ⟨ihs, ih⟩ := ih
    refine ⟨fun {C A env sc b ρ σ s Q E} T X S h => ?_, fun {C A env sc st ρ σ s Q E} T X S h => ?_⟩
    · cases b with
      | nil => exact wpAny_execs_nil ⟨_, ρ, σ, .next, S, Go.refl _ _ _, h⟩
      | cons st r =>
        rw [exs_1] at h
        refine wpAny_execs_cons (wpAny_mono (ih T X S h) (fun f s₁ ⟨fl, ρ₁, σ₁, hf, S₁, g₁, hq⟩ => ?_) fun _ _ q => q)
        cases hf with
        | next => exact shiftN g₁ (ihs T (X.go g₁) S₁ hq)
        | ret hv => exact ⟨_, ρ₁, σ₁, .ret hv, S₁, g₁, hq⟩
    · cases st with
      | Pass p => exact wpAny_Pass ⟨_, ρ, σ, .next, S, Go.refl _ _ _, h⟩
      | Expr e p =>
        cases e with
        | Call f as ks cp =>
          rw [ex_Expr] at h
          rw [exec_Expr env _ p (inter_no T) rfl]
          rcases h with h | ⟨rfl, h⟩
          · exact wpAny_bind (wpAny_standAt (wpAny_bind (evIn T S h fun v a σ₁ s₁ hv S₁ g hq => wpAny_dropValue ⟨_, ρ, σ₁, .next, S₁, g.owns, hq⟩)))
          · exact wpAny_bind (wpAny_standAt (wpAny_bind (wpAny_mono (evR_sound T X S h) (fun _ _ f => f.elim) fun v s' ⟨hl, σ₁, s₁, S₁, g, hx⟩ => X.pass ρ σ₁ s₁ v s' S₁ g.owns hl hx)))
        | _ => exact False.elim h
      | Return e p =>
        cases e with
        | none => exact wpAny_Return_none ⟨_, ρ, σ, .ret .none, S, Go.refl _ _ _, h⟩
        | some e => rw [ex_RetS] at h; exact wpAny_Return_some (evIn T S h fun v a σ₁ s₁ hv S₁ g hq => ⟨_, ρ, σ₁, .ret hv, S₁, g.owns, hq⟩)
      | If t b o p =>
        rw [ex_If] at h
        refine wpAny_If (wpAny_mono ((snd_all_n n).tst T S h) (fun c s₁ ⟨σ₁, S₁, g, hq⟩ => ?_) fun _ _ q => q)
        cases c with
        | true => exact shiftN g.owns (ihs T (X.go g.owns) S₁ (hq.1 rfl))
        | false => exact shiftN g.owns (ihs T (X.go g.owns) S₁ (hq.2 rfl))
      | For t it b o p =>
        cases o with
        | cons _ _ => exact False.elim h
        | nil =>
          rw [ex_For] at h
          refine wpAny_For (evIn T S h fun v a σ₁ s₁ hv S₁ g hq => ?_) (ev_notSetIt h)
          refine wpAny_mono (Q := fun it s₂ => codeAny (model prog w) A (.forLoop t it b [] env) (fun r s' => match r with | .ok f => NxP prog w F B env sc σ₁ s₁ Q f s' | .error e => cameBackBy (model prog w) A env E e s') s₂) (E := fun _ _ => False) ?_ (fun it s₂ q => codeAny_mono q fun r s' hr => by
              cases r with
              | ok f => exact NxP.back g.owns hr
              | error e => exact hr) fun _ _ f => f.elim
          unfold forV at hq
          split at hq
          · rename_i items hi
            refine for_plain ihs T (X.go g.owns) S₁ hv hi (fun x ρ' σ' K hs => ?_) hq
            exact hs
          · exact hq.elim
      | Raise e c p =>
        obtain ⟨x, np, cp, t, k, q, v, ⟨rfl, rfl, h1, h2, h3, h4⟩, h5, h6⟩ := h
        exact raise_sound T S h1 h2 h3 h4 h5 fun K s₁ e h' args hK S₁ g hm => X.raise ρ σ s₁ v K e h' args S₁ g.owns ⟨hK, by rw [← T.isx]; exact h5⟩ ⟨h2, h6⟩ hm
      | Try b hs o f p =>
        obtain ⟨g, as, q, r, x, xp, nm, b₀, rs, hp, ⟨rfl, rfl, rfl, rfl, h1, h2, h3, h4⟩, h⟩ := h
        exact try_sound ihs T X S h1 h2 h3 h4 h
      | Assign ts e p =>
        match ts with
        | [] => exact False.elim h
        | _ :: _ :: _ => exact False.elim h
        | [t] =>
          cases t with
          | Name x px => rw [ex_AName] at h; exact assign_name T S h.1 h.2
          | Subscript o i q =>
            rw [ex_ASub] at h
            refine wpAny_Assign_Subscript (evIn T S h fun v a σ₁ s₁ hv S₁ g hq => (evIn T S₁ hq fun ov oa σ₂ s₂ ho S₂ g₂ hq₂ => (evIn T S₂ hq₂ fun iv ia σ₃ s₃ hi S₃ g₃ hq₃ => ?_))) swaps_no
            exact wpAny_mono (setitem_sound (E := fun _ _ => False) S₃ (S₂.val g₃ ho) hi (S₂.val g₃ (S₁.val g₂ hv)) hq₃ T.units) (fun _ s₄ ⟨σ₄, S₄, g₄, hq₄⟩ => ⟨_, ρ, σ₄, .next, S₄, (g.trans (g₂.trans (g₃.trans g₄))).owns, hq₄⟩) fun _ _ f => f.elim
          | Attribute o a q =>
            rw [ex_AAttr] at h
            refine plainObj_wpAny_Assign_Attribute (evIn T S h fun v va σ₁ s₁ hv S₁ g hq => (evIn T S₁ hq fun ov oa σ₂ s₂ ho S₂ g₂ hq₂ => ?_)) swaps_noA
            exact wpAny_mono (T.sattr env ov oa a v va ρ σ₂ s₂ _ (fun _ _ => False) S₂ ho (S₁.val g₂ hv) hq₂) (fun _ s₄ ⟨σ₄, S₄, g₄, hq₄⟩ => ⟨_, ρ, σ₄, .next, S₄, (g.trans (g₂.trans g₄)).owns, hq₄⟩) fun _ _ f => f.elim
          | Tuple tl k q =>
            have tup : ∀ {x y : Str} {px py : Pos}, (swapsWithSole [.Tuple [.Name x px, .Name y py] k q] e p.line env = pure false) → swappedStores [.Tuple [.Name x px, .Name y py] k q] e env = pure none →
                (ev C n sc e ρ σ fun v σ₁ => match bindT C.calm sc (.Tuple [.Name x px, .Name y py] k q) v ρ with
                  | some ρ' => Q .next ρ' σ₁
                  | Option.none => False) → wpAny (model prog w) A (exec (.Assign [.Tuple [.Name x px, .Name y py] k q] e p) env) (NxP prog w F B env sc σ s Q) E s := by
              intro x y px py h1 h2 h
              refine wpAny_Assign_stores (evIn T S h fun v a σ₁ s₁ hv S₁ g hq => ?_) h1 h2
              split at hq
              · rename_i ρ' hρ
                show wpAny _ A (assign (.Tuple [.Name x px, .Name y py] k q) env v) _ _ _
                exact assign_sound T S₁ hv (fun h => .inl h) hρ fun s₂ S₂ g₂ => ⟨_, ρ', σ₁, .next, S₂, g.owns.trans g₂, hq⟩
              · exact hq.elim
            match tl with
            | [] => exact False.elim h
            | [_] => exact False.elim h
            | _ :: _ :: _ :: _ => exact False.elim h
            | [a, b] =>
              cases a with
              | Name x px =>
                cases b with
                | Name y py =>
                  cases e with
                  | Name z pz => rw [ex_ATupN] at h; exact tup rfl rfl h
                  | Call f as ks pc => rw [ex_ATupC] at h; exact tup rfl rfl h
                  | _ => exact False.elim h
                | _ => exact False.elim h
              | _ => exact False.elim h
          | _ => exact False.elim h
      | _ => exact False.elim h
end
end Mine

set_option linter.unusedVariables false
namespace Mine
open PySem PySem.W PyProof.Rows

noncomputable def Room (A : Around) (d : Nat) : Prop := A.depth + 2 * d < recursionLimit ∧ A.units + 4 * d + 71 < cLine
noncomputable def Room1 (A : Around) (d : Nat) : Prop := A.depth + 1 + 2 * d < recursionLimit ∧ A.units + 1 + 4 * d + 71 < cLine

section
variable (prog : Program) (w : World) (F : Tab) (B : Heap)

noncomputable def CaP (σ : Store) (s : Shared) (Q : VPost) (v : Value) (s' : Shared) : Prop := ∃ a σ', VRel F s'.heap v a ∧ Inv prog w F B σ' s'.heap ∧ Go (fun _ => False) σ s σ' s' ∧ Q a σ'

noncomputable def RetP (Q X : Value → Shared → Prop) (r : Result) (s' : Shared) : Prop := match r with
  | .ok (.ret v) => Q v s'
  | .ok _ => False
  | .error e => X e s'
noncomputable def LCall (d : Nat) (m : Option Addr) (f : Fn) (vs : List Val) (σ : Store) (Q : VPost) : Prop :=
  ∀ (A : Around) (s : Shared) (vals : List Value) (a : Addr), Room A d → A.handled = m.map Value.ref → F.addr f = some a → Inv prog w F B σ s.heap → VRels F s.heap vals vs →
    codeAny (model prog w) A (.call (.ref a) ⟨vals, []⟩) (RetP (CaP prog w F B σ s Q) fun _ _ => False) s
noncomputable def LRaise (d : Nat) (f : Fn) (vs : List Val) (σ : Store) (X : Str → Store → Prop) : Prop :=
  ∀ (A : Around) (s : Shared) (vals : List Value) (a : Addr) (l : List Env), Room A d → A.handled = none → F.addr f = some a → A.frames = some l → FrAt B σ s.heap l → Inv prog w F B σ s.heap → VRels F s.heap vals vs →
    codeAny (model prog w) A (.call (.ref a) ⟨vals, []⟩) (RetP (fun _ _ => False) (RaP prog w F B A σ s X)) s
noncomputable def LTop (d : Nat) (f : Fn) (vs : List Val) (σ : Store) (Q : VPost) : Prop :=
  ∀ (A : Around) (s : Shared) (vals : List Value) (a : Addr), Room A d → A.handled = none → A.frames = some [] → F.addr f = some a → Inv prog w F B σ s.heap → VRels F s.heap vals vs →
    codeAny (model prog w) A (.call (.ref a) ⟨vals, []⟩) (RetP (CaP prog w F B σ s Q) fun _ _ => False) s
theorem RetP.run {prog : Program} {w : World} {A : Around} {a : Addr} {vals : List Value} {s : Shared} {Q X : Value → Shared → Prop} (h : codeAny (model prog w) A (.call (.ref a) ⟨vals, []⟩) (RetP Q X) s) :
    wpAny (model prog w) A (PySem.call (.ref a) vals) Q X s :=
  wpAny_call (codeAny_mono h fun r s' z => by rcases r with e | (v | _ | _ | _) <;> exact z)
noncomputable def langA : Lang := { call := LCall prog w F B, rcall := LRaise prog w F B, tcall := LTop prog w F B, mth := fun c n => (F.meth c n).isSome, isx := F.isx, up := F.up, has := fun f => (F.addr f).isSome }
noncomputable def cxA (gl : Str → Option Val) (d : Nat) (m : Option Addr) (loud top : Bool) (X : Str → Store → Prop) : Cx := (langA prog w F B).cx gl d m loud top X

structure FnAt (a : Addr) (G U : Addr) (params : List Str) (body : List Stmt) (sc : Scope) : Prop where
  fd : ∃ o fd, B.get? a = some o ∧ o.data = .func fd ∧ fd.body = .stmts body ∧ fd.scope = sc ∧ fd.closure = [] ∧ fd.globals = G ∧ fd.builtins = U ∧ B.CodeRec fd.code fd.qualname ∧
    ∀ vals : List Value, vals.length = params.length → bindArgs fd ⟨vals, []⟩ = pure (params.zip vals)
  co : sc.isCoroutine = false
  gen : sc.isGenerator = false
  kind : sc.kind = .function
  dbg : sc.names.lookup ("__debug__" : Str) = none
  cdict : sc.names.lookup ("__classdict__" : Str) = none
  free : ∀ x ∈ sc.names, x.2 ≠ .free
  pars : ∀ x ∈ params, sc.names.lookup x = some .local ∨ sc.names.lookup x = some .cell

structure GlAt (G U : Addr) (gl : Str → Option Val) : Prop where
  ns : ∃ mg mb, B.Ns G mg ∧ B.Ns U mb ∧ ∀ x v, gl x = some v → (∃ val, mg x = some val ∧ VRel F B val v) ∨ (mg x = none ∧ ∃ val, mb x = some val ∧ VRel F B val v)
end

section
variable {prog : Program} {w : World} {F : Tab} {B : Heap} {env : Env} {sc csc : Scope} {C : Cx} {ρ : Rho} {σ σ₁ σ' : Store} {s s₁ s' : Shared} {A : Around} {E : Value → Shared → Prop} {n : Nat}

theorem cellsFrom_mem : ∀ (names : List (Str × NameKind)) (k : Nat) (acc : List (Str × Addr)) (x : Str), ((∃ c, (x, c) ∈ acc) ∨ (x, NameKind.cell) ∈ names) → ∃ c, (cellsFrom k names acc).lookup x = some c
  | [], k, acc, x, h => by
    rcases h with ⟨c, hc⟩ | h
    · unfold cellsFrom
      induction acc with
      | nil => cases hc
      | cons p r ih =>
        rw [List.lookup_cons]
        cases hb : x == p.1 with
        | true => exact ⟨p.2, rfl⟩
        | false =>
          rcases List.mem_cons.mp hc with q | q
          · subst q; simp at hb
          · exact ih q
    · cases h
  | (nm, kd) :: r, k, acc, x, h => by
    unfold cellsFrom
    split
    · rename_i hk
      refine cellsFrom_mem r (k + 1) _ x ?_
      rcases h with ⟨c, hc⟩ | h
      · exact .inl ⟨c, .tail _ hc⟩
      · rcases List.mem_cons.mp h with q | q
        · cases q; exact .inl ⟨k, .head _⟩
        · exact .inr q
    · rename_i hk
      refine cellsFrom_mem r k acc x ?_
      rcases h with h | h
      · exact .inl h
      · rcases List.mem_cons.mp h with q | q
        · cases q; exact absurd rfl hk
        · exact .inr q

theorem CaP.to {Q : VPost} {v : Value} (S : St prog w F B env ρ σ s) (h : CaP prog w F B σ s Q v s') : EvP prog w F B env ρ σ s Q v s' := by
  obtain ⟨a, σ', h1, h2, h3, h4⟩ := h
  exact ⟨a, σ', h1, S.after h3 (fun _ _ _ f => f) h2, h3.mono fun _ _ _ f => f.elim, h4⟩

theorem bind_rel (kindOf : Str → Option NameKind) {h : Heap} : ∀ (ps : List Str) (vals : List Value) (vs : List Val) (m cm : Str → Option Value) (ρ : Rho), vals.length = ps.length → VRels F h vals vs →
    (∀ x ∈ ps, kindOf x = some .local ∨ kindOf x = some .cell) →
    (∀ x a, kindOf x = some .local → ρ x = some a → ∃ v, m x = some v ∧ VRel F h v a) → (∀ x a, (kindOf x = some .cell ∨ kindOf x = some .free) → ρ x = some a → ∃ v, cm x = some v ∧ VRel F h v a) →
    (∀ x a, kindOf x = some .local → bindRho ps vs ρ x = some a → ∃ v, bindL kindOf (ps.zip vals) m x = some v ∧ VRel F h v a) ∧
    (∀ x a, (kindOf x = some .cell ∨ kindOf x = some .free) → bindRho ps vs ρ x = some a → ∃ v, bindC kindOf (ps.zip vals) cm x = some v ∧ VRel F h v a)
  | [], vals, vs, m, cm, ρ, hl, hv, hk, h1, h2 => by simpa [bindRho, bindL, bindC] using ⟨h1, h2⟩
  | p :: ps, [], vs, m, cm, ρ, hl, hv, hk, h1, h2 => by simp at hl
  | p :: ps, v :: vals, _, m, cm, ρ, hl, .cons (a := a) (as := as) hv hvs, hk, h1, h2 => by
    simp only [bindRho, List.zip_cons_cons, bindL, bindC]
    refine bind_rel kindOf ps vals as _ _ _ (by simpa using hl) hvs (fun x hx => hk x (.tail _ hx)) (fun x b q1 q2 => ?_) (fun x b q1 q2 => ?_)
    · unfold upd at q2
      by_cases hx : x = p
      · subst hx; rw [if_pos rfl] at q2; cases q2
        rw [if_pos q1]; exact ⟨v, by simp, hv⟩
      · rw [if_neg hx] at q2
        obtain ⟨u, e1, e2⟩ := h1 x b q1 q2
        refine ⟨u, ?_, e2⟩
        split
        · simp [hx, e1]
        · exact e1
    · unfold upd at q2
      by_cases hx : x = p
      · subst hx; rw [if_pos rfl] at q2; cases q2
        rw [if_neg (by rintro e; rw [e] at q1; simp at q1)]; exact ⟨v, by simp, hv⟩
      · rw [if_neg hx] at q2
        obtain ⟨u, e1, e2⟩ := h2 x b q1 q2
        refine ⟨u, ?_, e2⟩
        split
        · exact e1
        · simp [hx, e1]

structure Aro (prog : Program) (w : World) (F : Tab) (B : Heap) (d : Nat) : Prop where
  sys : ∃ o, B.get? sysModules = some o
  fns : ∀ n a, F.fn n = some a → ∃ o fd, B.get? a = some o ∧ o.data = .func fd
  clsK : ∀ c a, F.cls c = some a → F.isx c = false → ∃ k, (k = Keeper.frame ∨ k = Keeper.machine ∨ k = Keeper.boundFrame) ∧ Looks (model prog w) B (keeperOf (.ref a)) k
  make : ∀ A env m c vs ρ σ Q E, F.isx c = false → Room1 A d → A.handled = m.map Value.ref →
    (∀ p dx, σ p = none → σ dx = none → p ≠ dx → LCall prog w F B d m (.meth c "__init__") (.ref p :: vs) ((σ.set dx (.attrs [])).set p (.inst c dx)) (fun r σ' => r = .none ∧ Q (.ref p) σ')) → ∀ s vals a, F.cls c = some a → St prog w F B env ρ σ s → VRels F s.heap vals vs →
    wpAny (model prog w) A (PySem.call (.ref a) vals) (EvP prog w F B env ρ σ s Q) E s
  rmake : ∀ A env c vs ρ σ X l, F.isx c = false → Room1 A d → A.handled = none →
    (∀ p dx, σ p = none → σ dx = none → p ≠ dx → LRaise prog w F B d (.meth c "__init__") (.ref p :: vs) ((σ.set dx (.attrs [])).set p (.inst c dx)) X) → ∀ s vals a, F.cls c = some a → A.frames = some l → FrAt B σ s.heap l → St prog w F B env ρ σ s → VRels F s.heap vals vs →
    wpAny (model prog w) A (PySem.call (.ref a) vals) (fun _ _ => False) (RaP prog w F B A σ s X) s
  attr : ∀ A env v a n ρ σ s Q E, St prog w F B env ρ σ s → VRel F s.heap v a → getattr a n σ Q → wpAny (model prog w) A (getAttr v n true) (EvP prog w F B env ρ σ s Q) E s
  sattr : ∀ A env v a n x b ρ σ s Q E, St prog w F B env ρ σ s → VRel F s.heap v a → VRel F s.heap x b → setattr a n b σ Q → wpAny (model prog w) A (setAttr v n x) (UnP prog w F B env ρ σ s Q) E s
  meth : ∀ c n f, F.meth c n = some f → ∀ A env p ρ σ s Q E pl, St prog w F B env ρ σ s → methKind (.ref p) n σ = some (.inst c p) → Q (.ref f, [.ref p]) s → wpAny (model prog w) A (getMethod (.ref p) n pl) Q E s
  methFn : ∀ c n f, F.meth c n = some f → ∃ o fd, B.get? f = some o ∧ o.data = .func fd
  lim : B.NoLimit
  xis : XIs prog w F B
  exn : ∀ c, F.isx c = true → ∃ K, F.cls c = some K ∧ ExcAt B K
  xm : ∀ c d K D, F.cls c = some K → F.cls d = some D → (F.up c).contains d = true → ∀ h e o, (∀ a o, B.get? a = some o → h.get? a = some o) → h.get? e = some o → o.cls = .ref K → Looks (model prog w) h (excMatches (.ref e) (.ref D)) true

theorem RaP.back {X : Str → Store → Prop} {v : Value} (g : Go (fun _ => False) σ s σ₁ s₁) (h : RaP prog w F B A σ₁ s₁ X v s') : RaP prog w F B A σ s X v s' := by
  obtain ⟨c, K, p, σ₂, s₂, base, l, q1, q2, q3, q4, q5, q6, q7⟩ := h
  exact ⟨c, K, p, σ₂, s₂, base, l, q1, q2, g.trans q3, q4, q5, q6, fun b o e1 e2 e3 => q7 b o e1 e2 (e3.imp_right fun z => z.imp_right fun ⟨o', e'⟩ => g.live b o' e')⟩
theorem FrAt.mem {h : Heap} {l : List Env} (x : FrAt B σ h l) {e : Env} (he : e ∈ l) {L : Addr} (hL : e.frame = some L) : ∃ o, h.get? L = some o := by
  induction l with
  | nil => cases he
  | cons a r ih =>
    obtain ⟨⟨_, L', o, h2, _, _, h5, _⟩, x⟩ := x
    rcases List.mem_cons.mp he with q | q
    · rw [q, h2] at hL; rw [← Option.some.inj hL]; exact ⟨o, h5⟩
    · exact ih x q
theorem FrAt.funs {h base : Heap} : ∀ {l : List Env}, FrAt B σ h l → (∀ e ∈ l, ∀ L, e.frame = some L → base.get? L = none) → h.FunFrames base l
  | [], _, _ => trivial
  | _ :: _, ⟨⟨h1, L, o, h2, _, _, h5, h6⟩, h⟩, hn => ⟨h1, ⟨L, o, h2, hn _ (.head _) L h2, h5, h6⟩, FrAt.funs h fun e he => hn e (.tail _ he)⟩

structure EnvOk (B : Heap) (G U : Addr) (env : Env) (sc : Scope) : Prop where
  kind : env.scope.kind = .function
  names : ∀ x, env.kindOf x = sc.names.lookup x
  dbg : sc.names.lookup ("__debug__" : Str) = none
  cdict : sc.names.lookup ("__classdict__" : Str) = none
  cells : ∀ x, env.kindOf x = some .cell ∨ env.kindOf x = some .free → ∃ c, env.cells.lookup x = some c
  apart : ∀ x y c, env.cells.lookup x = some c → env.cells.lookup y = some c → x = y
  gs : env.globals = G
  bs : env.builtins = U
theorem sta_of {gl : Str → Option Val} {d : Nat} {m : Option Addr} {loud top : Bool} {X : Str → Store → Prop} {G U : Addr} (R : Aro prog w F B d) (GA : GlAt F B G U gl) (O : EnvOk B G U env sc) (hlc : loud = true → m = none) (hRd : Room A d) (hR1 : Room1 A d) (hm : A.handled = m.map Value.ref) :
    Sta prog w F B (cxA prog w F B gl d m loud top X) A env sc := by
  obtain ⟨mg, mb, n1, n2, n3⟩ := GA.ns
  exact
      { kind := O.kind
        names := fun x => .inl (O.names x)
        dbg := O.dbg
        cdict := O.cdict
        cells := O.cells
        apart := O.apart
        glob := fun x v hx s' Q' E' hk hq => by
          rcases n3 x v hx with ⟨val, q1, q2⟩ | ⟨q0, val, q1, q2⟩
          · exact Calls.loadGlobal_global (by rw [O.gs]; exact n1.keeps hk) q1 (hq val (q2.mono fun a o e _ => hk a o e))
          · exact Calls.loadGlobal_builtin (by rw [O.gs]; exact n1.keeps hk) q0 (by rw [O.bs]; exact n2.keeps hk) q1 (hq val (q2.mono fun a o e _ => hk a o e))
        units := by have := hRd.2; lia
        calm := fun h => by
          have h : m.isNone = true := h
          rw [hm, Option.isNone_iff_eq_none.mp h]; rfl
        hd := fun e h => by
          have h : m = some e := h
          rw [hm, h]; rfl
        sys := R.sys
        fns := R.fns
        call := fun env' n vs ρ σ Q E hc s vals a ha S hv => wpAny_mono (RetP.run (hc A s vals a hRd hm ha S.inv hv)) (fun _ _ q => q.to S) fun _ _ q => q.elim
        clsK := R.clsK
        make := fun env' c vs ρ σ Q E hc => R.make A env' m c vs ρ σ Q E hc.1 hR1 hm hc.2
        attr := R.attr A
        sattr := R.sattr A
        meth := fun c n hc => by obtain ⟨f, q1⟩ := Option.isSome_iff_exists.mp hc; exact ⟨f, q1, R.meth c n f q1 A⟩
        methFn := R.methFn
        mcall := fun env' c n vs ρ σ Q E hc s vals a ha S hv => wpAny_mono (RetP.run (hc A s vals a hRd hm ha S.inv hv)) (fun _ _ q => q.to S) fun _ _ q => q.elim
        xis := R.xis
        isx := rfl
        up := rfl
        qcall := fun _ _ _ _ h => h
        rcall := fun hl f vs ρ σ Y hc s vals a l ha hA hfr S hv => RetP.run (hc A s vals a l hRd (by rw [hm, hlc hl]; rfl) ha hA hfr S.inv hv)
        rmake := fun hl c vs ρ σ Y hc s vals a l ha hA hfr S hv => R.rmake A env c vs ρ σ Y l hc.1 hR1 (by rw [hm, hlc hl]; rfl) hc.2 s vals a ha hA hfr S hv
        exn := fun _ => R.exn }

theorem call_any {d : Nat} {f : Fn} {a G U : Addr} {gl : Str → Option Val} {params : List Str} {body : List Stmt} {vs : List Val} {Q : VPost} {m : Option Addr} {loud top : Bool} {Y : Str → Store → Prop} (fuel : Nat) (R : Aro prog w F B d) (hf : F.addr f = some a) (FA : FnAt B a G U params body sc) (GA : GlAt F B G U gl)
    (hlen : vs.length = params.length) (hlc : loud = true → m = none)
    (h : exs (cxA prog w F B gl d m loud top Y) fuel sc body (bindRho params vs fun _ => none) σ (endQ Q))
    {vals : List Value} (hR : Room A (d + 1)) (hm : A.handled = m.map Value.ref) (hfr : loud = true → ∃ l, A.frames = some l ∧ FrAt B σ s.heap l) (htop : top = true → loud = true ∧ A.frames = some []) (J : Inv prog w F B σ s.heap) (hv : VRels F s.heap vals vs) :
    codeAny (model prog w) A (.call (.ref a) ⟨vals, []⟩) (RetP (CaP prog w F B σ s Q) fun e s' => loud = true ∧ RaP prog w F B A σ s Y e s') s := by
  obtain ⟨o, fd, e1, e2, e3, e4, e5, e6, e7, e8, e9⟩ := FA.fd
  subst e4
  have hvl := hv.length
  refine (codeAny_call_cells (by have := hR.1; lia) (J.keep _ _ e1) e2 (R.lim.keeps J.keep) (e8.keeps J.keep) e3 (e9 vals (by lia)) e5 (fun x hx => ?_) (fun s₁ IC => ?_) FA.co FA.gen FA.kind)
  · have hm : x.1 ∈ params := (List.of_mem_zip hx).1
    rcases FA.pars x.1 hm with q | q
    · exact .inl q
    · obtain ⟨c, hc⟩ := cellsFrom_mem fd.scope.names (s.heap.objs.size + 1) [] x.1 (.inr (mem_of_lookup q))
      exact .inr ⟨q, by rw [hc]; rfl⟩
  · generalize hE : callEnvC fd s.heap.objs.size a = env at IC ⊢
    have ek : ∀ x, env.kindOf x = fd.scope.names.lookup x := fun x => by rw [← hE]; rfl
    have eL : env.locals = s.heap.objs.size := by rw [← hE]; rfl
    have eC : env.cells = cellsFrom (s.heap.objs.size + 1) fd.scope.names [] := by rw [← hE]; rfl
    have eG : env.globals = G := by rw [← hE]; exact e6
    have eU : env.builtins = U := by rw [← hE]; exact e7
    have kp := IC.toInCall.keep
    have J₁ : Inv prog w F B σ s₁.heap := ⟨fun b o e => kp b o (J.keep b o e), fun b o e => ⟨(J.obj b o e).1, by
      obtain ⟨ob, e', _⟩ := ORel.live prog w F (J.obj b o e).2
      exact ORel.mono prog w F (fun a o e _ => kp a o e) ((kp _ _ e').trans e'.symm) (J.obj b o e).2⟩, J.scr⟩
    have offσ : ∀ b, s.heap.get? b = none → σ b = none := fun b hb => by
      cases hs : σ b with
      | none => rfl
      | some ao => obtain ⟨ob, e', _⟩ := ORel.live prog w F (J.obj b ao hs).2; rw [hb] at e'; cases e'
    have offB : ∀ b, s.heap.get? b = none → B.get? b = none := fun b hb => by
      cases hs : B.get? b with
      | none => rfl
      | some ao => have := J.keep _ _ hs; rw [hb] at this; cases this
    have nL : s.heap.get? env.locals = none := by rw [eL]; exact sizeNone _
    have nC : ∀ x c, env.cells.lookup x = some c → s.heap.get? c = none ∧ c ≠ env.locals := fun x c hc => by
      have h1 : env.locals < c := IC.above x c (mem_of_lookup hc)
      have h2 : s.heap.objs.size ≤ env.locals := IC.toInCall.fresh
      exact ⟨Heap.get?_none_of_le (Nat.le_of_lt (Nat.lt_of_le_of_lt h2 h1)), Nat.ne_of_gt h1⟩
    have hkinds : ∀ x ∈ params, env.kindOf x = some .local ∨ env.kindOf x = some .cell := fun x hx => by rw [ek]; exact FA.pars x hx
    have hv₁ : VRels F s₁.heap vals vs := hv.mono fun a o e _ => kp a o e
    have br := bind_rel (F := F) env.kindOf params vals vs (fun _ => none) (fun _ => none) (fun _ => none) (by lia) hv₁ hkinds (fun _ _ _ e => by cases e) (fun _ _ _ e => by cases e)
    have cells : ∀ x, env.kindOf x = some .cell ∨ env.kindOf x = some .free → ∃ c, env.cells.lookup x = some c := fun x hx => by
      rw [ek] at hx
      rcases hx with hx | hx
      · rw [eC]; exact cellsFrom_mem _ _ _ _ (.inr (mem_of_lookup hx))
      · exact absurd rfl (FA.free _ (mem_of_lookup hx))
    have S : St prog w F B env (bindRho params vs fun _ => none) σ s₁ := by
      refine ⟨J₁, ⟨⟨⟨_, IC.toInCall.ns, br.1⟩, fun x b q1 q2 => ?_⟩, offσ _ nL, fun x c hc => ⟨offσ _ (nC x c hc).1, (nC x c hc).2, _, IC.cell x c hc⟩⟩, offB _ nL, fun x c hc => offB _ (nC x c hc).1⟩
      obtain ⟨c, hc⟩ := cells x q1
      obtain ⟨v, r1, r2⟩ := br.2 x b q1 q2
      exact ⟨c, v, hc, r1 ▸ IC.cell x c hc, r2⟩
    have g₁ : Go (fun _ => False) σ s σ s₁ := by
      exact ⟨IC.toInCall.same, fun b o _ e _ => kp b o e, fun b o e => ⟨o, kp b o e⟩, fun _ a b => absurd a b, fun _ a => a⟩
    have hRd : Room (A.deeper env) d := ⟨by show A.depth + 1 + 2 * d < _; have := hR.1; lia, by show A.units + 3 + 4 * d + 71 < _; have := hR.2; lia⟩
    have hR1 : Room1 (A.deeper env) d := ⟨by show A.depth + 1 + 1 + 2 * d < _; have := hR.1; lia, by show A.units + 3 + 1 + 4 * d + 71 < _; have := hR.2; lia⟩
    have O : EnvOk B G U env fd.scope := ⟨by rw [← hE]; exact FA.kind, ek, FA.dbg, FA.cdict, cells, fun x y c hx hy => name_of_addr IC.apart (mem_of_lookup hx) (mem_of_lookup hy), eG, eU⟩
    have T : Sta prog w F B (cxA prog w F B gl d m loud top Y) (A.deeper env) env fd.scope := sta_of R GA O hlc hRd hR1 hm
    have eF : env.frame = some env.locals := by rw [← hE]; rfl
    have ownNew : ∀ b o, s.heap.get? b = some o → ¬ Own env fd.scope b := by
      rintro b o e (rfl | ⟨x, _, hx⟩)
      · rw [nL] at e; cases e
      · rw [(nC x b hx).1] at e; cases e
    have goE : ∀ {σ' s'}, Go (Own env fd.scope) σ s₁ σ' s' → Go (fun _ => False) σ s σ' s' := fun g' => ((g₁.mono (P' := Own env fd.scope) fun _ _ _ f => f.elim).trans g').mono fun b o e hp => absurd hp (ownNew b o e)
    have XE : ErrOk prog w F B (cxA prog w F B gl d m loud top Y) (A.deeper env) env fd.scope (fun e s' => wpAny (model prog w) (A.deeper env) (leaving env e) (fun _ s'' => loud = true ∧ RaP prog w F B A σ s Y e s'') (fun e' s'' => loud = true ∧ RaP prog w F B A σ s Y e' s'') s') σ s₁ := by
      refine ⟨PassesOwn.leaving (Q₁ := fun e s'' => loud = true ∧ RaP prog w F B A σ s Y e s''), fun _ e => sta_of (m := some e) (loud := false) (top := false) R GA O nofun hRd hR1 rfl, fun ht => ⟨(htop ht).1, by show A.frames.map _ = _; rw [(htop ht).2]; rfl⟩, fun _ => R.xm, fun hl => ?_, fun ρ' σ' s' c K e h' args S' g' hK hx hmx => ?_, fun ρ' σ' s' v s'' S' g' hl hra => ?_⟩
      · obtain ⟨l, l1, l2⟩ := hfr hl
        exact ⟨eF, l, by show A.frames.map _ = _; rw [l1]; rfl, l2.go g₁ fun _ _ _ _ f => f, fun e he L hL => let ⟨o, q⟩ := l2.mem he hL; ownNew L o q⟩
      · obtain ⟨hl, hx⟩ := hx
        obtain ⟨l, l1, l2⟩ := hfr hl
        have gE := goE g'
        obtain ⟨m, hmn, _⟩ := S'.fra.rho.loc
        obtain ⟨ob, es, ep, eob, edt, _⟩ := id hmn
        have l3 : FrAt B σ' s'.heap (env :: l) := ⟨⟨by rw [O.kind]; decide, _, ob, eF, S'.offB, S'.fra.offL, eob, fun vs => by rw [edt]; nofun⟩, l2.go gE fun _ _ _ _ f => f⟩
        obtain ⟨t, he, htn, ht⟩ := hmx.there
        have fresh : (hideAll s'.heap ((env :: l).filterMap (·.frame))).get? e = none := by
          cases hq : (hideAll s'.heap ((env :: l).filterMap (·.frame))).get? e with
          | none => rfl
          | some o' => have := of_hideAll _ hq; rw [hmx.new] at this; cases this
        refine fly_first (A := A.deeper env) (base := hideAll s'.heap ((env :: l).filterMap (·.frame))) (Exo.steady K) (by show A.frames.map _ = _; rw [l1]; rfl) (slots_funs (Heap.UpToSlots.of_keeps hmx.keeps) (l3.funs fun e he L hL => hideAll_none _ (List.mem_filterMap.mpr ⟨e, he, hL⟩))) eF he ⟨rfl, _, rfl, rfl⟩ (fun b o q => hmx.keeps b o (of_hideAll _ q)) fresh rfl rfl fun h'' fl sm => ?_
        refine ⟨hl, c, K, e, σ', s', _, l, ⟨rfl, l1, hK, hx⟩, S'.inv, gE, ⟨h'', rfl⟩, (Heap.UpToSlots.of_keeps hmx.keeps).trans sm, fl, fun b o e0 hne hk => hideAll_get _ e0 fun hmem => ?_⟩
        obtain ⟨e', he', hL⟩ := List.mem_filterMap.mp hmem
        rcases List.mem_cons.mp he' with rfl | he'
        · rw [eF] at hL; cases hL
          rcases hk with hk | hk | ⟨o', hk⟩
          · exact hk S'.fra.offL
          · exact ns_thaw hmn o e0 hk
          · exact ownNew _ o' hk (.inl rfl)
        · exact hne e' he' hL
      · obtain ⟨l, l1, l2⟩ := hfr hl
        have gE := goE g'
        obtain ⟨c, K, p, σ₂, s₂, base, l', ⟨rfl, q1, q2, q3⟩, q4, q5, ⟨h', rfl⟩, q7, q8, q9⟩ := hra
        have hA : (A.deeper env).frames = some (env :: l) := by show A.frames.map _ = _; rw [l1]; rfl
        rw [hA] at q1; cases q1
        obtain ⟨m, hmn, _⟩ := S'.fra.rho.loc
        obtain ⟨ob, es, ep, eob, edt, _⟩ := id hmn
        refine fly_on (Exo.steady K) hA eF q8 fun h'' fl sm => ⟨hl, c, K, p, σ₂, s₂, base, l, ⟨rfl, l1, q2, q3⟩, q4, gE.trans q5, ⟨h'', rfl⟩, q7.trans sm, fl, fun b o e0 hne hk => q9 b o e0 (fun e' he' hL => ?_) (hk.imp_right fun z => z.imp_right fun ⟨o', e'⟩ => gE.live b o' e')⟩
        rcases List.mem_cons.mp he' with rfl | he'
        · rw [eF] at hL; cases hL
          rcases hk with hk | hk | ⟨o', hk⟩
          · exact hk (q5.off eob S'.fra.offL)
          · rw [q5.keep _ ob id eob S'.fra.offL] at e0; cases e0
            exact ns_thaw hmn ob eob hk
          · exact ownNew _ o' hk (.inl rfl)
        · exact hne e' he' hL
    refine wpAny_mono ((sndx_all fuel).1 T XE S h) (fun f s₂ ⟨fl, ρ₂, σ₂, q1, q2, q3, q4⟩ => ?_) fun e s₂ q => q
    have g₂ := goE q3
    cases q1 with
    | next => exact ⟨.none, σ₂, .none, q2.inv, g₂, q4⟩
    | ret hv => exact ⟨_, σ₂, hv, q2.inv, g₂, q4⟩
end
end Mine

set_option linter.unusedVariables false
namespace Mine
open PySem PySem.W PyProof.Rows

noncomputable def simpleArgs (a : Arguments) : Bool := a.posonlyargs.isEmpty && a.vararg.isNone && a.kwonlyargs.isEmpty && a.kwarg.isNone && decide ((a.args.map (·.arg)).Nodup) && decide (a.args.length ≤ 6)
noncomputable def scopeOk (sc : Scope) (ps : List Str) : Bool := !sc.isCoroutine && !sc.isGenerator && sc.kind == .function && (sc.names.lookup ("__debug__" : Str)).isNone && (sc.names.lookup ("__classdict__" : Str)).isNone &&
  sc.names.all (fun x => x.2 != .free) && ps.all (fun x => sc.names.lookup x == some .local || sc.names.lookup x == some .cell)

theorem lookup_zip : ∀ (ps : List Str) (vals : List Value) (q : List (Str × Value)), ps.Nodup → vals.length = ps.length → (∀ x ∈ ps, q.lookup x = none) → ps.filterMap (fun n => ((q ++ ps.zip vals).lookup n).map (n, ·)) = ps.zip vals
  | [], _, _, _, _, _ => rfl
  | p :: ps, [], _, _, h, _ => by simp at h
  | p :: ps, v :: vals, q, hn, hl, hq => by
    have hn' := List.nodup_cons.mp hn
    have e : ∀ (l : List (Str × Value)), (q ++ (p, v) :: l).lookup p = some v := by
      intro l
      rw [List.lookup_append, hq p (.head _)]; simp
    simp only [List.zip_cons_cons, List.filterMap_cons, e, Option.map_some]
    congr 1
    have := lookup_zip ps vals (q ++ [(p, v)]) hn'.2 (by simpa using hl) (fun x hx => by
      rw [List.lookup_append, hq x (.tail _ hx)]
      have : (x == p) = false := by rw [beq_eq_false_iff_ne]; rintro rfl; exact hn'.1 hx
      simp [List.lookup_cons, this])
    rw [List.append_assoc] at this
    simpa using this

theorem lookup_some : ∀ (ps : List Str) (vals : List Value), vals.length = ps.length → ∀ x ∈ ps, ((ps.zip vals).lookup x).isNone = false
  | p :: ps, [], h, _, _ => by simp at h
  | p :: ps, v :: vals, h, x, hx => by
    rw [List.zip_cons_cons, List.lookup_cons]
    cases hb : x == p with
    | true => rfl
    | false =>
      rcases List.mem_cons.mp hx with q | q
      · subst q; simp at hb
      · exact lookup_some ps vals (by simpa using h) x q

theorem bind_simple {name qn : Str} {a : Arguments} {fd : FuncData} (hp : fd.params = a) (hd : fd.defaults = .none) (ha : simpleArgs a = true) (vals : List Value) (hl : vals.length = (a.args.map (·.arg)).length) :
    bindArgs fd ⟨vals, []⟩ = pure ((a.args.map (·.arg)).zip vals) := by
  subst hp
  unfold simpleArgs at ha
  simp only [Bool.and_eq_true, List.isEmpty_iff, Option.isNone_iff_eq_none, decide_eq_true_eq] at ha
  obtain ⟨⟨⟨⟨⟨h1, h2⟩, h3⟩, h4⟩, h5⟩, h6⟩ := ha
  have hz := lookup_zip (fd.params.args.map (·.arg)) vals [] h5 hl (fun _ _ => rfl)
  have hs := lookup_some (fd.params.args.map (·.arg)) vals hl
  have hlt : ¬ (vals.length > (fd.params.args.map (·.arg)).length) := by lia
  have hm : ((fd.params.args.map (·.arg)).filter fun n => ((((fd.params.args.map (·.arg)).zip vals)).lookup n).isNone) = [] := by
    rw [List.filter_eq_nil_iff]; intro x hx; rw [hs x hx]; simp
  have hseq : seqItems? .none = pure none := rfl
  unfold bindArgs
  dsimp only
  simp only [hseq, hd, h1, h2, h3, h4, List.map_nil, List.nil_append, List.forIn_nil, pure_bind, Option.getD_none, Array.toList_empty, List.drop_nil, List.length_nil, Nat.zero_sub, Nat.sub_zero, List.take_length, hlt, decide_false, Bool.false_and, Bool.false_eq_true, if_false, List.append_nil, List.drop_length, List.zip_nil_right, hm, List.isEmpty_nil, Bool.not_true]
  simp only [List.nil_append] at hz
  exact congrArg pure hz

end Mine

set_option linter.unusedVariables false
namespace Mine
open PySem PySem.W PyProof.Rows

theorem getattr_is {a : Val} {n : Str} {σ : Store} {Q : VPost} (h : getattr a n σ Q) : ∃ p c dx fs v, a = .ref p ∧ σ p = some (.inst c dx) ∧ σ dx = some (.attrs fs) ∧ lookS n fs = some v ∧ Q v σ := by
  unfold getattr at h
  split at h
  · split at h
    · split at h
      · split at h
        · exact ⟨_, _, _, _, _, rfl, ‹_›, ‹_›, ‹_›, h⟩
        · exact h.elim
      · exact h.elim
    · exact h.elim
  · exact h.elim
theorem setattr_is {a : Val} {n : Str} {b : Val} {σ : Store} {Q : Store → Prop} (h : setattr a n b σ Q) : ∃ p c dx fs, a = .ref p ∧ σ p = some (.inst c dx) ∧ σ dx = some (.attrs fs) ∧
    (okAtt n = true ∧ plainV b = true ∧ (putS n b fs).length ≤ 8) ∧ Q (σ.set dx (.attrs (putS n b fs))) := by
  unfold setattr at h
  split at h
  · split at h
    · split at h
      · exact ⟨_, _, _, _, rfl, ‹_›, ‹_›, h⟩
      · exact h.elim
    · exact h.elim
  · exact h.elim
theorem methKind_is {p : Addr} {n : Str} {σ : Store} {c : Str} {q : Addr} (h : methKind (.ref p) n σ = some (.inst c q)) : q = p ∧ ∃ dx fs, σ p = some (.inst c dx) ∧ σ dx = some (.attrs fs) ∧ lookS n fs = none := by
  obtain ⟨p', e, hk⟩ := methKind_sees h
  cases e
  rcases hk with ⟨xs, _, e⟩ | ⟨c', dx, fs, h1, h2, h3, e⟩
  · cases e
  · cases e; exact ⟨rfl, dx, fs, h1, h2, h3⟩

section
variable {P : Params} {F : Tab} {h : Heap}
theorem SRel.find {n : Str} : ∀ {es : List DictEntry} {fs : List (Str × Val)}, SRel P F h es fs →
    (∀ v, lookS n fs = some v → ∃ e, es.find? (·.key.isStr n) = some e ∧ VRel F h e.val v) ∧ (lookS n fs = none → es.find? (·.key.isStr n) = none) ∧ es.any (·.refKey) = false
  | [], [], _ => ⟨fun v e => (by cases e), fun _ => rfl, rfl⟩
  | e :: es, f :: fs, ⟨⟨t, hk⟩, hv, r⟩ => by
    obtain ⟨h1, h2, h3⟩ := SRel.find (n := n) r
    have hr : e.refKey = false := by unfold DictEntry.refKey; rw [hk]
    by_cases hn : f.1 = n
    · have hs : e.key.isStr n = true := by rw [hk]; subst hn; simp [Value.isStr]
      refine ⟨fun v q => ?_, fun q => ?_, by rw [List.any_cons, hr, h3]; rfl⟩
      · obtain ⟨j, u⟩ := f
        dsimp only at hn hv
        unfold lookS at q; rw [if_pos hn] at q
        cases q
        exact ⟨e, by rw [List.find?_cons, hs], hv⟩
      · obtain ⟨j, u⟩ := f
        dsimp only at hn
        unfold lookS at q; rw [if_pos hn] at q; cases q
    · have hs : e.key.isStr n = false := by rw [hk]; simpa [Value.isStr] using hn
      obtain ⟨j, u⟩ := f
      dsimp only at hn
      refine ⟨fun v q => ?_, fun q => ?_, by rw [List.any_cons, hr, h3]; rfl⟩
      · unfold lookS at q; rw [if_neg hn] at q
        obtain ⟨e', q1, q2⟩ := h1 v q
        exact ⟨e', by rw [List.find?_cons, hs]; exact q1, q2⟩
      · unfold lookS at q; rw [if_neg hn] at q
        rw [List.find?_cons, hs]; exact h2 q
end

structure ClsOk (prog : Program) (w : World) (F : Tab) (B : Heap) (K : Frag) (c : Str) (C : Addr) : Prop where
  X : K.In B
  makes : makesIn K C = true
  init : ∃ f, F.meth c "__init__" = some f
  ga : findIn K (.ref C) "__getattribute__" = some (some (.builtin "object.__getattribute__"))
  gx : findIn K (.ref C) "__getattr__" = some none
  sa : findIn K (.ref C) "__setattr__" = some (some (.builtin "object.__setattr__"))
  over : plainOver K C = true
  own : (clsIn K C).any (·.hasDict) = true
  att : ∀ n, okAtt n = true → findIn K (.ref C) n = some none
  meth : ∀ n f, F.meth c n = some f → okAtt n = false ∧ findIn K (.ref C) n = some (some (.ref f)) ∧ typeIn K (.ref f) = some (.type "function") ∧ ∃ o fd, B.get? f = some o ∧ o.data = .func fd
  kept : ∃ k, (k = Keeper.frame ∨ k = Keeper.machine ∨ k = Keeper.boundFrame) ∧ Looks (model prog w) B (keeperOf (.ref C)) k

section
variable {prog : Program} {w : World} {F : Tab} {B : Heap} {env : Env} {ρ : Rho} {σ : Store} {s : Shared} {A : Around} {E : Value → Shared → Prop} {K : Frag} {c : Str} {C : Addr}

theorem lookS_mem {n : Str} {v : Val} : ∀ {fs : List (Str × Val)}, lookS n fs = some v → (n, v) ∈ fs
  | (j, u) :: fs, h => by
    unfold lookS at h
    by_cases hj : j = n
    · rw [if_pos hj] at h; cases h; subst hj; exact .head _
    · rw [if_neg hj] at h; exact .tail _ (lookS_mem h)

theorem St.instAt (S : St prog w F B env ρ σ s) {p dx : Addr} {fs : List (Str × Val)} (hp : σ p = some (.inst c dx)) (hd : σ dx = some (.attrs fs)) (hc : F.cls c = some C) :
    ∃ es n, InstAt s.heap p { cls := .ref C, dict := some dx, data := .plain } C (some { cls := .type "dict", data := .dict es n }) ∧ s.heap.get? dx = some { cls := .type "dict", data := .dict es n } ∧
      SRel w.params F s.heap es.toList fs ∧ (∀ e ∈ fs, okAtt e.1 = true ∧ plainV e.2 = true) ∧ fs.length ≤ 8 := by
  obtain ⟨C', ⟨h1, _⟩, h2⟩ := (S.inv.obj _ _ hp).2
  rw [hc] at h1; cases h1
  obtain ⟨es, n, e, r, r2⟩ := (S.inv.obj _ _ hd).2
  exact ⟨es, n, ⟨h2, rfl, rfl, e⟩, e, r, r2⟩

theorem plain_handed {h : Heap} {v : Value} {a : Val} (hv : VRel F h v a) (hp : plainV a = true) : handedIn v = true := by
  cases hv <;> first | rfl | cases hp

theorem attr_sound (O : ClsOk prog w F B K c C) (hc : F.cls c = some C) {p dx : Addr} {fs : List (Str × Val)} {n : Str} {v : Val} {Q : VPost} (S : St prog w F B env ρ σ s) (hp : σ p = some (.inst c dx)) (hd : σ dx = some (.attrs fs))
    (hl : lookS n fs = some v) (h : Q v σ) : wpAny (model prog w) A (getAttr (.ref p) n true) (EvP prog w F B env ρ σ s Q) E s := by
  obtain ⟨es, m, I, e, r, r2, _⟩ := S.instAt hp hd hc
  have hmem := r2 _ (lookS_mem hl)
  obtain ⟨en, q1, q2⟩ := (r.find (n := n)).1 v hl
  have X : K.In s.heap := O.X.keeps S.inv.keep
  obtain ⟨cd, hcd, hhd⟩ := any_some O.own
  refine get_value X I O.ga ?_ (plain_handed q2 hmem.2) (EvP.pure S _ q2 h)
  unfold findObj
  rw [hcd]
  simp only [Option.bind_some, O.att n hmem.1]
  unfold W.ownOf lookIn
  rw [if_pos hhd]
  simp only [q1, Option.bind_some]

theorem meth_sound (O : ClsOk prog w F B K c C) (hc : F.cls c = some C) {p dx f : Addr} {fs : List (Str × Val)} {n : Str} {pl : Sem Bool} {Q : Value × List Value → Shared → Prop} (S : St prog w F B env ρ σ s) (hp : σ p = some (.inst c dx)) (hd : σ dx = some (.attrs fs))
    (hl : lookS n fs = none) (hf : F.meth c n = some f) (h : Q (.ref f, [.ref p]) s) : wpAny (model prog w) A (getMethod (.ref p) n pl) Q E s := by
  obtain ⟨es, m, I, e, r, r2, _⟩ := S.instAt hp hd hc
  obtain ⟨m1, m2, m3, _⟩ := O.meth n f hf
  have X : K.In s.heap := O.X.keeps S.inv.keep
  refine method_fn X I O.ga O.gx m2 m3 ?_ h
  have q := (r.find (n := n)).2
  show (lookIn n _).map _ = some false
  unfold lookIn
  simp only [q.1 hl, q.2]
  rfl

noncomputable def lput (n : Str) (new : DictEntry) (x : Value) (l : List DictEntry) : List DictEntry := match l.findIdx? (·.key.isStr n) with
  | some i => l.modify i fun e => { e with val := x }
  | none => l ++ [new]
theorem lput_rel {P : Params} {h : Heap} {n : Str} {new : DictEntry} {x : Value} {b : Val} (hv : VRel F h x b) (hn : ∃ t, new.key = .str n t) (hx : new.val = x) : ∀ {l : List DictEntry} {fs : List (Str × Val)}, SRel P F h l fs → SRel P F h (lput n new x l) (putS n b fs)
  | [], [], _ => ⟨hn, hx ▸ hv, trivial⟩
  | e :: l, (j, u) :: fs, ⟨⟨t, hk⟩, hv', r⟩ => by
    have ih := lput_rel hv hn hx r
    unfold putS
    by_cases hj : j = n
    · have hs : e.key.isStr n = true := by rw [hk]; subst hj; simp [Value.isStr]
      rw [if_pos hj]
      unfold lput
      rw [List.findIdx?_cons, hs]
      exact ⟨⟨t, hk⟩, hv, r⟩
    · have hs : e.key.isStr n = false := by rw [hk]; simpa [Value.isStr] using hj
      rw [if_neg hj]
      unfold lput at ih ⊢
      rw [List.findIdx?_cons, hs]
      cases hf : l.findIdx? (·.key.isStr n) with
      | none => rw [hf] at ih; exact ⟨⟨t, hk⟩, hv', ih⟩
      | some i => rw [hf] at ih; exact ⟨⟨t, hk⟩, hv', ih⟩
theorem putName_list {n : Str} {hh : Int} {key x : Value} {es : Array DictEntry} {m : Nat} : ∃ es' m', Obj.putName n hh key x { cls := .type "dict", data := .dict es m } = { cls := .type "dict", data := .dict es' m' } ∧ es'.toList = lput n ⟨hh, key, x⟩ x es.toList := by
  rw [Obj.putName_eq]
  unfold Obj.putNameByArray lput
  dsimp only
  have e : Array.findIdx? (fun x => x.key.isStr n) es = List.findIdx? (fun x => x.key.isStr n) es.toList := by
    obtain ⟨l⟩ := es; simp
  rw [e]
  cases es.toList.findIdx? (·.key.isStr n) with
  | none => exact ⟨_, _, rfl, by simp⟩
  | some i => exact ⟨_, _, rfl, by simp [Array.toList_modify]⟩
theorem putS_names {n : Str} {b : Val} {p : Str × Val → Prop} (hn : p (n, b)) (hb : ∀ j u, p (j, u) → j = n → p (j, b)) : ∀ {fs : List (Str × Val)}, (∀ e ∈ fs, p e) → ∀ e ∈ putS n b fs, p e
  | [], _, e, he => by
    have : e = (n, b) := by simpa [putS] using he
    subst this; exact hn
  | (j, u) :: fs, h, e, he => by
    unfold putS at he
    by_cases hj : j = n
    · rw [if_pos hj] at he
      rcases List.mem_cons.mp he with rfl | he
      · exact hb j u (h _ (.head _)) hj
      · exact h e (.tail _ he)
    · rw [if_neg hj] at he
      rcases List.mem_cons.mp he with rfl | he
      · exact h _ (.head _)
      · exact putS_names hn hb (fun e he => h e (.tail _ he)) e he

theorem sattr_sound (O : ClsOk prog w F B K c C) (hc : F.cls c = some C) {p dx : Addr} {fs : List (Str × Val)} {n : Str} {x : Value} {b : Val} {Q : Store → Prop} (S : St prog w F B env ρ σ s) (hx : VRel F s.heap x b) (hp : σ p = some (.inst c dx)) (hd : σ dx = some (.attrs fs))
    (hn : okAtt n = true ∧ plainV b = true ∧ (putS n b fs).length ≤ 8) (h : Q (σ.set dx (.attrs (putS n b fs)))) : wpAny (model prog w) A (setAttr (.ref p) n x) (UnP prog w F B env ρ σ s Q) E s := by
  obtain ⟨es, m, I, D, r, r2, r3⟩ := S.instAt hp hd hc
  have X : K.In s.heap := O.X.keeps S.inv.keep
  obtain ⟨cd, hcd, hhd⟩ := any_some O.own
  have ht : takerIn K C n = some none := by unfold takerIn; rw [O.att n hn.1]; rfl
  refine set_plain X I O.sa (osa_open (s := { s with toks := s.toks + 1 }) X I O.over ht fun _ => ?_)
  have hI := I.at_
  refine wpAny_bind (wpAny_pure (wpAny_bind (wpAny_bind (wpAny_loadPart hI (wpAny_bind (Looks.here (s := { s with toks := s.toks + 1 }) (looks_clsIn X hcd) ?_))))))
  rw [hhd]
  refine wpAny_pure (a := some dx) (wpAny_bind (wpAny_pure (wpAny_bind ?_)))
  unfold nsSet
  refine wpAny_bind (wpAny_bind (wpAny_askSetting (wpAny_pure (wpAny_bind (wpAny_mkText (wpAny_bind (wpAny_loadPart D ?_)))))))
  have hnr : (!es.any (·.key.isStr n) && es.any (·.refKey)) = false := by
    rw [← Array.any_toList, ← Array.any_toList, ((r.find (n := n)).2).2, Bool.and_false]
  dsimp only
  rw [aRefKeyMayBeTheName_at, hnr]
  obtain ⟨es', m', ep, el⟩ := putName_list (n := n) (hh := PyData.keyHash w.params n) (key := .str n (s.toks + 1)) (x := x) (es := es) (m := m)
  have D' : (s.heap.update dx (Obj.putName n (PyData.keyHash w.params n) (.str n (s.toks + 1)) x)).get? dx = some { cls := .type "dict", data := .dict es' m' } := by
    have h1 := ((Heap.get?_eq_some s.heap dx _).mp D).1
    exact (Heap.get?_eq_some _ _ _).mpr ⟨by rw [Heap.objs_update_self, h1, Option.map_some, ep], rfl⟩
  have hk : ∀ a o, a ≠ dx → s.heap.get? a = some o → (s.heap.update dx (Obj.putName n (PyData.keyHash w.params n) (.str n (s.toks + 1)) x)).get? a = some o := fun a o hne e => (Heap.get?_update_ne _ _ _ _ hne).trans e
  have fz : ∀ a o, s.heap.get? a = some o → Frozen o → (s.heap.update dx (Obj.putName n (PyData.keyHash w.params n) (.str n (s.toks + 1)) x)).get? a = some o := fun a o e hf => hk a o (by rintro rfl; rw [D] at e; cases e; simp [Frozen] at hf) e
  have rel : SRel w.params F (s.heap.update dx (Obj.putName n (PyData.keyHash w.params n) (.str n (s.toks + 1)) x)) es'.toList (putS n b fs) := by
    rw [el]; exact lput_rel (hx.mono fz) ⟨_, rfl⟩ rfl (r.mono fz)
  have hlen : es'.size ≤ 8 := by
    have : ∀ {l : List DictEntry} {fs : List (Str × Val)} {h : Heap}, SRel w.params F h l fs → l.length = fs.length := by
      intro l
      induction l with
      | nil => intro fs h q; cases fs with
        | nil => rfl
        | cons _ _ => exact q.elim
      | cons e l ih => intro fs h q; cases fs with
        | nil => exact q.elim
        | cons f fs => simp [ih q.2.2]
    have := this rel
    rw [Array.length_toList] at this
    lia
  refine wpAny_updatePart D ?_
  refine wpAny_bind (wpAny_lookBehind D' (pastItsLine_dict (by rw [sizeLine_eq]; lia)) ?_)
  refine wpAny_pure ?_
  obtain ⟨S', g⟩ := S.turn (tk := s.toks + 1 + 1) hd hk (ao := .attrs (putS n b fs)) ⟨es', m', D', rel, putS_names (p := fun e => okAtt e.1 = true ∧ plainV e.2 = true) ⟨hn.1, hn.2.1⟩ (fun j u q e => ⟨q.1, hn.2.1⟩) r2, hn.2.2⟩
  exact ⟨_, S', g, h⟩

theorem Room1.under {A : Around} {d : Nat} {C : Addr} {vals : List Value} (h : Room1 A d) : Room (A.under (.builtin "type.__call__" ⟨.ref C :: vals, []⟩)) d := ⟨h.1, h.2⟩

theorem make_sound {Q : VPost} {vs : List Val} {d : Nat} {m : Option Addr} (O : ClsOk prog w F B K c C) (hc : F.cls c = some C) (hx : F.isx c = false) (hR : Room1 A d) (hcalm : A.handled = m.map Value.ref)
    (h : ∀ p dx, σ p = none → σ dx = none → p ≠ dx → LCall prog w F B d m (.meth c "__init__") (.ref p :: vs) ((σ.set dx (.attrs [])).set p (.inst c dx)) (fun r σ' => r = .none ∧ Q (.ref p) σ'))
    {vals : List Value} (S : St prog w F B env ρ σ s) (hv : VRels F s.heap vals vs) :
    wpAny (model prog w) A (PySem.call (.ref C) vals) (EvP prog w F B env ρ σ s Q) E s := by
  obtain ⟨f, hf⟩ := O.init
  obtain ⟨m1, m2, m3, _⟩ := O.meth _ f hf
  have X0 : K.In s.heap := O.X.keeps S.inv.keep
  obtain ⟨hh, g, dr, tk, os⟩ := s
  have n0 : hh.get? hh.objs.size = none := sizeNone hh
  have hz1 : (hh.push emptyDict).objs.size = hh.objs.size + 1 := Heap.size_push ..
  obtain ⟨a1, a2, a3⟩ := S.alloc (tk := tk) (h' := hh.push emptyDict) (c := hh.objs.size) (ao := .attrs []) (fun a o _ e => Heap.get?_push_of_some _ e) (fun m hn => hn.push _) n0
    ⟨#[], 0, Heap.get?_push_size _ rfl, trivial, by simp, by simp⟩
  have n1 : (hh.push emptyDict).get? (hh.objs.size + 1) = none := hz1 ▸ sizeNone (hh.push emptyDict)
  have hpx : ((hh.push emptyDict).push (instObj C hh.objs.size)).get? (hh.objs.size + 1) = some (instObj C hh.objs.size) := by
    rw [← hz1]; exact Heap.get?_push_size _ rfl
  obtain ⟨b1, b2, b3⟩ := a2.alloc (tk := tk) (h' := (hh.push emptyDict).push (instObj C hh.objs.size)) (c := hh.objs.size + 1) (ao := .inst c hh.objs.size) (fun a o _ e => Heap.get?_push_of_some _ e) (fun m hn => hn.push _) n1
    ⟨C, ⟨hc, hx⟩, hpx⟩
  have hσ : σ (hh.objs.size + 1) = none := S.freshOf (Heap.get?_none_of_le (Nat.le_succ _))
  refine wpAny_call (make_core (makes_of X0 O.makes) (looks_findIn X0 m2) (fun self => bind_fn X0 self m3) (.inl rfl) ?_)
  have hl := h (hh.objs.size + 1) hh.objs.size hσ a1 (Nat.succ_ne_self _) (A.under (.builtin "type.__call__" ⟨.ref C :: vals, []⟩)) _ (.ref (hh.objs.size + 1) :: vals) f hR.under hcalm hf b2.inv
    (.cons (.ref _) (hv.mono fun a o e _ => Heap.get?_push_of_some _ (Heap.get?_push_of_some _ e)))
  refine codeAny_mono hl fun r s' z => ?_
  have gg := a3.trans b3
  cases r with
  | error e => exact False.elim z
  | ok fl =>
    cases fl with
    | ret v =>
      obtain ⟨a, σ', q1, q2, q3, rfl, q4⟩ := z
      refine ⟨q1.toNone, ?_⟩
      exact EvP.back gg (CaP.to b2 ⟨.ref _, σ', .ref _, q2, q3, q4⟩)
    | _ => exact z.elim
theorem RaP.at {A A' : Around} {X : Str → Store → Prop} {v : Value} (h : RaP prog w F B A' σ s X v s') (e : A'.frames = A.frames) : RaP prog w F B A σ s X v s' := by
  obtain ⟨c, K, p, σ₂, s₂, base, l, ⟨q0, q1, q2⟩, q⟩ := h
  exact ⟨c, K, p, σ₂, s₂, base, l, ⟨q0, e ▸ q1, q2⟩, q⟩
theorem rmake_sound {X : Str → Store → Prop} {vs : List Val} {d : Nat} {l : List Env} (O : ClsOk prog w F B K c C) (hc : F.cls c = some C) (hx : F.isx c = false) (hR : Room1 A d) (hcalm : A.handled = none)
    (h : ∀ p dx, σ p = none → σ dx = none → p ≠ dx → LRaise prog w F B d (.meth c "__init__") (.ref p :: vs) ((σ.set dx (.attrs [])).set p (.inst c dx)) X)
    {vals : List Value} (hA : A.frames = some l) (hfr : FrAt B σ s.heap l) (S : St prog w F B env ρ σ s) (hv : VRels F s.heap vals vs) :
    wpAny (model prog w) A (PySem.call (.ref C) vals) (fun _ _ => False) (RaP prog w F B A σ s X) s := by
  obtain ⟨f, hf⟩ := O.init
  obtain ⟨m1, m2, m3, _⟩ := O.meth _ f hf
  have X0 : K.In s.heap := O.X.keeps S.inv.keep
  obtain ⟨hh, g, dr, tk, os⟩ := s
  have n0 : hh.get? hh.objs.size = none := sizeNone hh
  have hz1 : (hh.push emptyDict).objs.size = hh.objs.size + 1 := Heap.size_push ..
  obtain ⟨a1, a2, a3⟩ := S.alloc (tk := tk) (h' := hh.push emptyDict) (c := hh.objs.size) (ao := .attrs []) (fun a o _ e => Heap.get?_push_of_some _ e) (fun m hn => hn.push _) n0
    ⟨#[], 0, Heap.get?_push_size _ rfl, trivial, by simp, by simp⟩
  have n1 : (hh.push emptyDict).get? (hh.objs.size + 1) = none := hz1 ▸ sizeNone (hh.push emptyDict)
  have hpx : ((hh.push emptyDict).push (instObj C hh.objs.size)).get? (hh.objs.size + 1) = some (instObj C hh.objs.size) := by
    rw [← hz1]; exact Heap.get?_push_size _ rfl
  obtain ⟨b1, b2, b3⟩ := a2.alloc (tk := tk) (h' := (hh.push emptyDict).push (instObj C hh.objs.size)) (c := hh.objs.size + 1) (ao := .inst c hh.objs.size) (fun a o _ e => Heap.get?_push_of_some _ e) (fun m hn => hn.push _) n1
    ⟨C, ⟨hc, hx⟩, hpx⟩
  have hσ : σ (hh.objs.size + 1) = none := S.freshOf (Heap.get?_none_of_le (Nat.le_succ _))
  have G1 : Go (fun _ => False) σ ⟨hh, g, dr, tk, os⟩ (σ.set hh.objs.size (.attrs [])) ⟨hh.push emptyDict, g, dr, tk, os⟩ := Go.newObj (s₂ := ⟨hh, g, dr, tk, os⟩) (Go.refl _ _ _) S.inv n0 a1 fun a o _ e => Heap.get?_push_of_some _ e
  have G2 : Go (fun _ => False) σ ⟨hh, g, dr, tk, os⟩ ((σ.set hh.objs.size (.attrs [])).set (hh.objs.size + 1) (.inst c hh.objs.size)) ⟨(hh.push emptyDict).push (instObj C hh.objs.size), g, dr, tk, os⟩ :=
    Go.newObj (s₂ := ⟨hh.push emptyDict, g, dr, tk, os⟩) G1 a2.inv (Heap.get?_none_of_le (Nat.le_succ _)) b1 fun a o _ e => Heap.get?_push_of_some _ e
  refine wpAny_call (make_core (makes_of X0 O.makes) (looks_findIn X0 m2) (fun self => bind_fn X0 self m3) (.inl rfl) ?_)
  have hl := h (hh.objs.size + 1) hh.objs.size hσ a1 (Nat.succ_ne_self _) (A.under (.builtin "type.__call__" ⟨.ref C :: vals, []⟩)) _ (.ref (hh.objs.size + 1) :: vals) f l hR.under hcalm hf hA (hfr.go G2 fun _ _ _ _ f => f) b2.inv
    (.cons (.ref _) (hv.mono fun a o e _ => Heap.get?_push_of_some _ (Heap.get?_push_of_some _ e)))
  refine codeAny_mono hl fun r s' z => ?_
  cases r with
  | error e => exact RaP.back G2 (RaP.at z rfl)
  | ok fl => cases fl <;> exact False.elim z
end
end Mine

set_option linter.unusedVariables false
namespace Mine
open PySem PySem.W PyProof.Rows

structure SupC (prog : Program) (w : World) (F : Tab) (B : Heap) (gl : Str → Option Val) : Prop where
  fns : ∀ n a, F.fn n = some a → FnAt B a mainGlobals builtinsNs (fnOf prog n).1 (fnOf prog n).2.1 (fnOf prog n).2.2
  gl : GlAt F B mainGlobals builtinsNs gl
  sys : ∃ o, B.get? sysModules = some o
  lim : B.NoLimit
  cls : ∃ K, ∀ c C, F.cls c = some C → F.isx c = false → ClsOk prog w F B K c C
  mcls : ∀ c n f, F.meth c n = some f → ∃ C, F.cls c = some C ∧ F.isx c = false
  xis : XIs prog w F B
  exn : ∀ c, F.isx c = true → ∃ K, F.cls c = some K ∧ ExcAt B K
  xm : ∀ c d K D, F.cls c = some K → F.cls d = some D → (F.up c).contains d = true → ∀ h e o, (∀ a o, B.get? a = some o → h.get? a = some o) → h.get? e = some o → o.cls = .ref K → Looks (model prog w) h (excMatches (.ref e) (.ref D)) true
structure SupM (prog : Program) (F : Tab) (B : Heap) : Prop where
  mfn : ∀ c n f, F.meth c n = some f → FnAt B f mainGlobals builtinsNs (methIn (clsBody prog c) n).1 (methIn (clsBody prog c) n).2.1 (methIn (clsBody prog c) n).2.2

section
variable {prog : Program} {w : World} {F : Tab} {B : Heap} {σ : Store} {gl : Str → Option Val}
theorem SupC.aro (U : SupC prog w F B gl) (d : Nat) : Aro prog w F B d := by
  obtain ⟨K, hc⟩ := U.cls
  exact {
    sys := U.sys
    fns := fun n a h => by obtain ⟨o, fd, e1, e2, _⟩ := (U.fns n a h).fd; exact ⟨o, fd, e1, e2⟩
    clsK := fun c a h hx => (hc c a h hx).kept
    make := fun A env m c vs ρ σ Q E hx hR hcalm h s vals a ha S hv => make_sound (hc c a ha hx) ha hx hR hcalm h S hv
    rmake := fun A env c vs ρ σ X l hx hR hcalm h s vals a ha hA hfr S hv => rmake_sound (hc c a ha hx) ha hx hR hcalm h hA hfr S hv
    attr := fun A env v a n ρ σ s Q E S hv h => by
      obtain ⟨p, c, dx, fs, x, rfl, h1, h2, h3, h4⟩ := getattr_is h
      obtain rfl := hv.toRef
      obtain ⟨C, ⟨h5, h6⟩, _⟩ := (S.inv.obj _ _ h1).2
      exact attr_sound (hc c C h5 h6) h5 S h1 h2 h3 h4
    sattr := fun A env v a n x b ρ σ s Q E S hv hx h => by
      obtain ⟨p, c, dx, fs, rfl, h1, h2, h3, h4⟩ := setattr_is h
      obtain rfl := hv.toRef
      obtain ⟨C, ⟨h5, h6⟩, _⟩ := (S.inv.obj _ _ h1).2
      exact sattr_sound (hc c C h5 h6) h5 S hx h1 h2 h3 h4
    meth := fun c n f hf A env p ρ σ s Q E pl S hk hq => by
      obtain ⟨_, dx, fs, h1, h2, h3⟩ := methKind_is hk
      obtain ⟨C, ⟨h5, h6⟩, _⟩ := (S.inv.obj _ _ h1).2
      exact meth_sound (hc c C h5 h6) h5 S h1 h2 h3 hf hq
    methFn := fun c n f h => by
      obtain ⟨C, h5, h6⟩ := U.mcls c n f h
      exact ((hc c C h5 h6).meth n f h).2.2.2
    lim := U.lim
    xis := U.xis
    exn := U.exn
    xm := U.xm }
theorem SupC.at (U : SupC prog w F B gl) (V : SupM prog F B) {f : Fn} {ps : List Str} {b : List Stmt} {sc : Scope} (hf : (langA prog w F B).has f = true) (hb : bodyOf prog f = (ps, b, sc)) : ∃ a, F.addr f = some a ∧ FnAt B a mainGlobals builtinsNs ps b sc := by
  obtain ⟨a, ha⟩ := Option.isSome_iff_exists.mp hf
  refine ⟨a, ha, ?_⟩
  cases f with
  | top n =>
    have FA := U.fns n a ha
    rw [show fnOf prog n = (ps, b, sc) from hb] at FA
    exact FA
  | meth c n =>
    have FA := V.mfn c n a ha
    rw [show methIn (clsBody prog c) n = (ps, b, sc) from hb] at FA
    exact FA
theorem SupC.runs (U : SupC prog w F B gl) (V : SupM prog F B) : Runs prog (langA prog w F B) gl where
  run := fun fuel {d m f vs σ Q ps b sc} hd hf hb hl h A s vals a' hR hm ha' J hv => by
    obtain ⟨d, rfl⟩ : ∃ d', d = d' + 1 := ⟨d - 1, by omega⟩
    obtain ⟨a, ha, FA⟩ := U.at V hf hb
    rw [ha] at ha'; cases ha'
    exact codeAny_mono (call_any (loud := false) (top := false) fuel (U.aro d) ha FA U.gl hl nofun h hR hm nofun nofun J hv) fun r s' z => by
      rcases r with e | (v | _ | _ | _)
      · exact Bool.noConfusion z.1
      all_goals exact z
  raises := fun fuel {d f vs σ X ps b sc} hd hf hb hl h A s vals a' l hR hm ha' hA hfr J hv => by
    obtain ⟨d, rfl⟩ : ∃ d', d = d' + 1 := ⟨d - 1, by omega⟩
    obtain ⟨a, ha, FA⟩ := U.at V hf hb
    rw [ha] at ha'; cases ha'
    have e : (fun (_ : Fl) (_ : Rho) (_ : Store) => False) = endQ fun _ _ => False := by funext fl ρ σ; cases fl <;> rfl
    rw [e] at h
    exact codeAny_mono (call_any (Q := fun _ _ => False) (loud := true) (top := false) (m := none) fuel (U.aro d) ha FA U.gl hl (fun _ => rfl) h hR hm (fun _ => ⟨l, hA, hfr⟩) nofun J hv) fun r s' z => by
      cases r with
      | error e => exact z.2
      | ok fl => cases fl with
        | ret v => obtain ⟨_, _, _, _, _, q⟩ := z; exact q
        | _ => exact z
  tops := fun fuel {d f vs σ Q ps b sc} hd hf hb hl h A s vals a' hR hm hA ha' J hv => by
    obtain ⟨d, rfl⟩ : ∃ d', d = d' + 1 := ⟨d - 1, by omega⟩
    obtain ⟨a, ha, FA⟩ := U.at V hf hb
    rw [ha] at ha'; cases ha'
    exact codeAny_mono (call_any (loud := true) (top := true) (m := none) fuel (U.aro d) ha FA U.gl hl (fun _ => rfl) h hR hm (fun _ => ⟨[], hA, trivial⟩) (fun _ => ⟨rfl, hA⟩) J hv) fun r s' z => by
      rcases r with e | (v | _ | _ | _)
      · obtain ⟨_, _, _, _, _, _, _, _, ⟨_, _, _, q⟩, _⟩ := z; exact q
      all_goals exact z
end

/-! what the written heap says of defs -/
noncomputable def fnIn? (K : Frag) (a : Addr) : Option FuncData := match K.lookup a with
  | some ⟨_, _, .func fd, _⟩ => some fd
  | _ => none
noncomputable def codeOk (K : Frag) (fd : FuncData) : Bool := match fd.code with
  | .ref c => (match K.lookup c with
    | some ⟨_, _, .fields vs, _⟩ => (match (vs.toList[1]? : Option Value) with
      | some (Value.str q _) => q == fd.qualname
      | _ => false)
    | _ => false)
  | _ => false
noncomputable def fdOk (K : Frag) (fd : FuncData) : Bool := codeOk K fd && simpleArgs fd.params && scopeOk fd.scope (fd.params.args.map (·.arg)) && fd.defaults == .none && fd.closure.isEmpty && fd.globals == mainGlobals && fd.builtins == builtinsNs
noncomputable def stmtsOf : FuncBody → List Stmt
  | .stmts b => b
  | .expr _ => []
theorem fnAt_K {K : Frag} {B : Heap} {a : Addr} {fd : FuncData} {t : List Str × List Stmt × Scope} (X : K.In B) (h : fnIn? K a = some fd) (ok : fdOk K fd = true) (hb : fd.body = .stmts t.2.1) (ht : t = (fd.params.args.map (·.arg), t.2.1, fd.scope)) :
    FnAt B a mainGlobals builtinsNs t.1 t.2.1 t.2.2 := by
  obtain ⟨t1, t2, t3⟩ := t
  simp only [Prod.mk.injEq] at ht
  obtain ⟨rfl, -, rfl⟩ := ht
  dsimp only at hb ⊢
  unfold fdOk at ok
  simp only [Bool.and_eq_true, beq_iff_eq, List.isEmpty_iff] at ok
  obtain ⟨⟨⟨⟨⟨⟨k1, k2⟩, k3⟩, k4⟩, k5⟩, k6⟩, k7⟩ := ok
  have hg : ∃ o, B.get? a = some o ∧ o.data = .func fd := by
    unfold fnIn? at h
    split at h
    · rename_i ho; cases h; exact ⟨_, X _ _ ho, rfl⟩
    · cases h
  obtain ⟨o, ho, hd⟩ := hg
  have hc : B.CodeRec fd.code fd.qualname := by
    unfold codeOk at k1
    split at k1
    · rename_i c hc
      split at k1
      · rename_i ho'
        split at k1
        · rename_i q t hq
          exact ⟨c, _, _, t, hc, X _ _ ho', rfl, by rw [← Array.getElem?_toList, hq, beq_iff_eq.mp k1]⟩
        · cases k1
      · cases k1
    · cases k1
  unfold scopeOk at k3
  simp only [Bool.and_eq_true, Option.isNone_iff_eq_none, List.all_eq_true, bne_iff_ne, Bool.or_eq_true, beq_iff_eq, Bool.not_eq_true'] at k3
  obtain ⟨⟨⟨⟨⟨⟨q1, q2⟩, q3⟩, q4⟩, q5⟩, q6⟩, q7⟩ := k3
  exact ⟨⟨o, fd, ho, hd, hb, rfl, k5, k6, k7, hc, fun vals hl => bind_simple (name := fd.name) (qn := fd.name) rfl k4 k2 vals hl⟩, q1, q2, by simpa using q3, q4, q5, q6, q7⟩
theorem ns_some_of {K : Frag} {h : Heap} {N : Addr} {mg : Str → Option Value} {n : Str} {v : Value} (X : K.In h) (G : h.Ns N mg) (e : nsIn K N n = some (some v)) : mg n = some v := by
  obtain ⟨o, es, ep, ho, hd, _, hf⟩ := G
  unfold nsIn at e
  split at e
  · rename_i c d es' n' sl q
    have := X _ _ q
    rw [ho] at this
    cases this
    cases hd
    split at e
    · rename_i en he
      cases e
      rw [← hf]
      unfold nsFind findBy
      rw [← Array.find?_toList, he]
      rfl
    · split at e <;> cases e
  · cases e
end Mine

set_option linter.unusedVariables false
set_option maxRecDepth 100000
namespace Mine
open PySem PySem.W PyProof.Rows PySem.Spec PySem.Calls PySem.Builtin PySem.Builtin.Getset_descriptor
noncomputable def OfCls (x D : Addr) (h : Heap) : Prop := ∃ o, h.get? x = some o ∧ o.cls = .ref D
section
variable {prog : Program} {w : World} {A : Around} {E : Value → Shared → Prop} {s : Shared} {K : Frag} {x D : Addr}
theorem OfCls.type {M : Model} {h : Heap} (I : OfCls x D h) : Looks M h (typeOf (.ref x)) (.ref D) := by
  obtain ⟨o, e, c⟩ := I
  exact c ▸ (Looks.ld e).andThen .now
structure XcOk (K : Frag) (D : Addr) : Prop where
  cls : (clsIn K D).isSome = true
  ga : findIn K (.ref D) "__getattribute__" = some (some (.builtin "BaseException.__getattribute__"))
  gx : findIn K (.ref D) "__getattr__" = some none
  sb : subIn K (.ref D) (.type "BaseException") = some true
  ha : findIn K (.ref D) "__class__" = some (some (.builtin "object.__class__"))
  hn : specialIn K (.builtin "object.__class__") "__get__" = some (some (.builtin "getset_descriptor.__get__"))
  ht : takesIn K (.builtin "object.__class__") = some true
  hm : mroIn K D (.type "object") = some true
open PySem.Builtin in
theorem x_find {M : Model} {h : Heap} (X : K.In h) (I : OfCls x D h) (O : XcOk K D) : Looks M h (ObjectAttr.find (.ref x) (.ref D) "__class__") (.bind (.builtin "getset_descriptor.__get__") (.builtin "object.__class__")) := by
  have L1 := looks_findIn (M := M) X O.ha
  have L2 := looks_specialIn (M := M) X O.hn
  have L3 := looks_takesIn (M := M) X O.ht
  exact L1.andThen (L2.andThen ((show Looks M h (ObjectAttr.dataDescriptor? (some (.builtin "object.__class__")) (some (.builtin "getset_descriptor.__get__"))) (some (.builtin "getset_descriptor.__get__", .builtin "object.__class__")) from L3.andThen .now).andThen (Looks.tag .now)))
theorem x_get {R : Result → Shared → Prop} {tp : Value} (X : K.In s.heap) (I : OfCls x D s.heap) (O : XcOk K D) (h : R (.ok (.ret (.ref D))) s) :
    codeAny (model prog w) A (.call (.builtin "getset_descriptor.__get__") ⟨[.builtin "object.__class__", .ref x, tp], []⟩) R s := by
  obtain ⟨hh, g, dr, t, os⟩ := s
  have L0 := I.type (M := model prog w)
  have L1 := looks_mroIn (M := model prog w) X O.hm
  refine codeAny_call_builtin KF.slot_gs.plain KF.entry_gs (KF.slot_gs.check _ _ _ _ _ _ _ _ KF.type_class (KF.args_gs _ _ _) ?_)
  unfold Builtin.«getset_descriptor.__get__» descrGet
  rw [dga_obj]
  refine wpAny_bind (wpAny_pure ?_)
  unfold descrGetter descrCheckInstance descrNameAndClass isInstance
  simp only [KF.owner_class]
  repeat lk
  refine ⟨Code.quiet_builtin _ (by decide +kernel), codeAny_builtin KF.entry_class ?_⟩
  unfold Builtin.«object.__class__» shownTypeOf
  repeat lk
  exact h
theorem x_attr {tk : Tok} {R : Result → Shared → Prop} (X : K.In s.heap) (I : OfCls x D s.heap) (O : XcOk K D) (h : R (.ok (.ret (.ref D))) s) :
    codeAny (model prog w) A (.call (.builtin "BaseException.__getattribute__") ⟨[.ref x, .str "__class__" tk], []⟩) R s := by
  obtain ⟨hh, g, d, t, os⟩ := s
  have L0 := I.type (M := model prog w)
  have L2 := x_find (M := model prog w) X I O
  have LS : Looks (model prog w) hh (isInstance (.ref x) (.type "BaseException")) true := L0.andThen (looks_subIn X O.sb)
  have hk : builtinKind "BaseException.__getattribute__" = some .slot := by decide +kernel
  have hsplit : splitId "BaseException.__getattribute__" = some ("BaseException", "__getattribute__") := by decide +kernel
  have ha := F.args_bexc_ga (.ref x) (.str "__class__" tk)
  refine codeAny_call_builtin F.excAttr_ValueError.ga.plain F.entry_bexc_ga ?_
  simp only [checkBuiltinCall, hk, hsplit]
  refine wpAny_bind (LS.at ?_)
  rw [if_neg (by decide)]
  refine wpAny_of_eq (a := ()) ha ?_
  unfold Builtin.«object.__getattribute__»
  refine wpAny_bind (wpAny_pure (wpAny_bind (wpAny_pure (wpAny_bind (L0.at (wpAny_bind (L2.at ?_)))))))
  show wpAny _ _ (do ret (← holding [_] (call _ [_, _, _]))) _ _ _
  exact wpAny_bind (wpAny_holding (wpAny_call (x_get (s := ⟨hh, g, d, t, os⟩) X I O (wpAny_pure h))))
theorem x_class {Q : Option Value → Shared → Prop} (X : K.In s.heap) (I : OfCls x D s.heap) (O : XcOk K D) (h : Q (some (.ref D)) { s with toks := s.toks + 1 }) : wpAny (model prog w) A (getAttr? (.ref x) "__class__") Q E s := by
  obtain ⟨hh, g, d, t, os⟩ := s
  have L0 := I.type (M := model prog w)
  have L1 := looks_findIn (M := model prog w) X O.ga
  have L3 := looks_findIn (M := model prog w) X O.gx
  have hx2 : (Value.builtin "BaseException.__getattribute__" == Value.builtin "object.__getattribute__") = false := by decide +kernel
  have f3 := F.excAttr_ValueError.ga.bind (.ref x)
  unfold getAttr? getAttrBy? getAttrBy
  refine wpAny_bind (wpAny_mkText (wpAny_bind (wpAny_attempt (wpAny_holding (wpAny_bind (L0.at (wpAny_bind (L1.at ?_))))))))
  dsimp only
  rw [hx2, Bool.and_false, if_neg Bool.false_ne_true]
  unfold getAttrByItsOwn hookBefore
  refine wpAny_bind (L3.at (wpAny_bind (wpAny_attempt (wpAny_holding ?_))))
  unfold callGetattribute boundAndCalled
  rw [Bool.false_and, if_neg Bool.false_ne_true, f3]
  refine wpAny_bind (wpAny_pure (wpAny_call (x_attr (s := ⟨hh, g, d, t + 1, os⟩) X I O ?_)))
  exact handed_on (A := A) rfl (wpAny_pure h)
theorem x_kit (O : XcOk K D) : KitX K (.ref x) (.ref D) (OfCls x D) where
  ty := fun _ _ _ I => I.type
  it := fun _ _ X _ => by
    have hc := O.cls
    unfold clsIn at hc
    split at hc
    · rename_i ho
      intro A' Q' E' s' k q
      unfold isType loadHead
      exact wpAny_bind (wpAny_loadPart (k _ _ (X _ _ ho)) (wpAny_pure q))
    · cases hc
  ne := fun h tp dd its n sl X htp => by
    have hc := O.cls
    refine Bool.eq_false_iff.mpr fun q => ?_
    have e : D = tp := Value.ref.inj (beq_iff_eq.mp q)
    subst e
    unfold clsIn at hc
    split at hc
    · rename_i ho
      have z := (X _ _ ho).symm.trans htp
      cases z
    · cases hc
  ca := fun X I k => x_class X I O k
theorem x_isi {c : Value} {b : Bool} {Q : Value → Shared → Prop} (X : K.In s.heap) (I : OfCls x D s.heap) (O : XcOk K D) (e : kitOne K (.ref D) c = some b) (h : ∀ tk, Q (.bool b) { s with toks := tk }) :
    wpAny (model prog w) A (call (.builtin "isinstance") [.ref x, c]) Q E s := kia_one (x_kit O) X I e nofun h
end
end Mine

set_option linter.unusedVariables false
namespace Mine
open PySem
theorem mem_lk {α β : Type} [BEq α] [LawfulBEq α] {a : α} {b : β} : ∀ {l : List (α × β)}, l.lookup a = some b → (a, b) ∈ l
  | (x, y) :: l, h => by
    rw [List.lookup_cons] at h
    cases e : a == x with
    | true => rw [e] at h; cases h; rw [eq_of_beq e]; exact .head _
    | false => rw [e] at h; exact .tail _ (mem_lk h)
noncomputable def seqK (C : Cx) (n : Nat) (sc : Scope) (r : List Stmt) (R : Fl → Rho → Store → Prop) (fl : Fl) (ρ₁ : Rho) (σ₁ : Store) : Prop :=
  match fl with
  | .next => exs C n sc r ρ₁ σ₁ R
  | .ret v => R (.ret v) ρ₁ σ₁
noncomputable def lk (E : List (Str × Val)) : Rho := fun x => E.lookup x
noncomputable def setL : List (Str × Val) → Str → Val → List (Str × Val)
  | [], x, v => [(x, v)]
  | (y, u) :: r, x, v => match x == y with
    | true => (y, v) :: r
    | false => (y, u) :: setL r x v
theorem upd_lk (x : Str) (v : Val) : ∀ E, upd (lk E) x v = lk (setL E x v)
  | [] => by
    funext y
    show (if y = x then some v else none) = (match y == x with | true => some v | false => none)
    by_cases h : y = x
    · rw [if_pos h, beq_iff_eq.mpr h]
    · rw [if_neg h, beq_eq_false_iff_ne.mpr h]
  | (z, u) :: r => by
    have ih := upd_lk x v r
    funext y
    have ih := congrFun ih y
    unfold upd lk at ih ⊢
    rw [List.lookup_cons]
    unfold setL
    by_cases hz : x = z
    · rw [beq_iff_eq.mpr hz]
      subst hz
      dsimp only
      rw [List.lookup_cons]
      by_cases h : y = x
      · rw [if_pos h, beq_iff_eq.mpr h]
      · rw [if_neg h, beq_eq_false_iff_ne.mpr h]
    · rw [beq_eq_false_iff_ne.mpr hz]
      dsimp only
      rw [List.lookup_cons]
      by_cases h : y = x
      · rw [if_pos h] at ih ⊢
        rw [beq_eq_false_iff_ne.mpr (by rintro rfl; exact hz h.symm)]
        exact ih
      · rw [if_neg h] at ih ⊢
        rw [← ih]
theorem sub_lk {E E' : List (Str × Val)} (h : E.map (fun e => E'.lookup e.1) = E.map fun e => some e.2) : Sub (lk E) (lk E') := by
  intro x v hx
  have hm : (x, v) ∈ E := mem_lk hx
  clear hx
  induction E with
  | nil => cases hm
  | cons e r ih =>
    rw [List.map_cons, List.map_cons, List.cons.injEq] at h
    rcases List.mem_cons.mp hm with rfl | hm
    · exact h.1
    · exact ih h.2 hm

noncomputable def kindIs (sc : Scope) (x : Str) : Nat := match sc.names.lookup x with
  | some k => (match k with
    | .globalImplicit => 1
    | .local => 2
    | .cell => 2
    | .free => 2
    | _ => 0)
  | none => 0
noncomputable def pI (f : Int → Int → Int) (a b : Val) : Option Val := a.int?.bind fun x => b.int?.map fun y => .int (f x y)
noncomputable def intLit (e : Expr) : Option Int := match e with
  | .Constant c _ _ => (match c with
    | .int i => some i
    | _ => none)
  | _ => none
noncomputable def litOk (e : Expr) : Bool := match intLit e with
  | some i => Nat.blt i.natAbs 18446744073709551616
  | none => false
noncomputable def litPos (e : Expr) : Bool := match intLit e with
  | some i => decide (0 < i) && Nat.blt i.natAbs 18446744073709551616
  | none => false
noncomputable def pbin (l : Expr) (op : Operator) (r : Expr) (a b : Val) : Option Val := match op with
  | .Add => pI (· + ·) a b
  | .Sub => pI (· - ·) a b
  | .Mult => if litOk r then pI (· * ·) a b else none
  | .FloorDiv => if litPos r then pI (· / ·) a b else none
  | .Mod => if litPos r then pI (· % ·) a b else none
  | _ => none
noncomputable def pcmp (op : CmpOp) (a b : Val) : Option Bool := match op with
  | .Lt => cmpI (fun x y => decide (x < y)) a b
  | .LtE => cmpI (fun x y => decide (x ≤ y)) a b
  | .Gt => cmpI (fun x y => decide (x > y)) a b
  | .GtE => cmpI (fun x y => decide (x ≥ y)) a b
  | .Eq => cmpI (fun x y => x == y) a b
  | .NotEq => cmpI (fun x y => !(x == y)) a b
  | _ => none
noncomputable def Val.tup? (v : Val) : Option (List Val) := match v with
  | .tup vs => some vs
  | _ => Option.none
theorem Val.tup_is {v : Val} {vs : List Val} (h : v.tup? = some vs) : v = .tup vs := by
  cases v with
  | tup j => exact congrArg Val.tup (Option.some.inj h)
  | _ => exact no_some h
noncomputable def psub (a b : Val) : Option Val := a.tup?.bind fun vs => b.int?.bind fun k => (normIdx k vs.length).bind fun j => vs[j]?
noncomputable def pconst (c : Const) : Option Val := match c with
  | .int i => some (.int i)
  | .bool b => some (.bool b)
  | .none => some .none
  | .str s => some (.str s)
  | _ => none
noncomputable def isSl (e : Expr) : Bool := match e with
  | .Slice _ _ _ _ => true
  | _ => false
noncomputable def ptruth (v : Val) : Option Bool := match v with
  | .none => some false
  | .bool b => some b
  | .int i => some (i != 0)
  | _ => none
noncomputable def pun (op : UnaryOp) (a : Val) : Option Val := match op with
  | .USub => a.int?.map fun x => .int (-x)
  | .Not => (ptruth a).map fun b => .bool !b
  | _ => none
noncomputable def plen (v : Val) : Option Val := match v with
  | .tup vs => some (.int vs.length)
  | .scr l => some (.int l.length)
  | _ => none
noncomputable def p1 (f : Val → Option Val) (vs : List Val) : Option Val := match vs with
  | [] => none
  | v :: r => match r with
    | [] => f v
    | _ :: _ => none
noncomputable def p2 (f : Val → Val → Option Val) (vs : List Val) : Option Val := match vs with
  | [] => none
  | v :: r => p1 (f v) r
noncomputable def pisi (v c : Val) : Option Bool := match v with
  | .int _ => (match c with
    | .typ T => if T = "int" then some true else if T = "bool" then some false else none
    | _ => none)
  | _ => none
theorem pisi_is {σ : Store} {v c : Val} {b : Bool} {Q : Bool → Prop} (h : pisi v c = some b) (k : Q b) : isInst σ v c Q := by
  cases v with
  | int i =>
    cases c with
    | typ T =>
      have h : (if T = "int" then some true else if T = "bool" then some false else none) = some b := h
      by_cases h1 : T = "int"
      · rw [if_pos h1] at h; cases h; exact .inl ⟨i, rfl, .inl ⟨by rw [h1], k⟩⟩
      · rw [if_neg h1] at h
        by_cases h2 : T = "bool"
        · rw [if_pos h2] at h; cases h; exact .inl ⟨i, rfl, .inr (.inl ⟨by rw [h2], k⟩)⟩
        · rw [if_neg h2] at h; exact no_some h
    | _ => exact no_some h
  | _ => exact no_some h
noncomputable def pblt (id : String) (vs : List Val) : Option Val :=
  if id = "len" then p1 plen vs else if id = "isinstance" then p2 (fun v c => (pisi v c).map .bool) vs else none
noncomputable def ptyp (T : String) (vs : List Val) : Option Val :=
  if T = "int" then p1 (fun v => v.bool?.map fun b => .int (if b then 1 else 0)) vs else none
noncomputable def pcall (fv : Val) (vs : List Val) : Option Val := match fv with
  | .blt id => pblt id vs
  | .typ T => ptyp T vs
  | _ => none
mutual
noncomputable def pv (gl : Str → Option Val) (sc : Scope) (ρ : Rho) : Nat → Expr → Option Val
  | 0, _ => none
  | n + 1, e => match e with
    | .Constant c _ _ => pconst c
    | .Name x _ => (match kindIs sc x with
      | 1 => gl x
      | 2 => ρ x
      | _ => none)
    | .BinOp l op r _ => (pv gl sc ρ n l).bind fun a => (pv gl sc ρ n r).bind fun b => pbin l op r a b
    | .UnaryOp op x _ => (pv gl sc ρ n x).bind (pun op)
    | .Compare l ops rs _ => (pv gl sc ρ n l).bind fun a => (pcm gl sc ρ n a ops rs).map .bool
    | .BoolOp op es _ => pbl gl sc ρ n op es
    | .Tuple es _ _ => if fewArgs es then (pvs gl sc ρ n es).map .tup else none
    | .Subscript o i _ => if isSl i then none else (pv gl sc ρ n o).bind fun a => (pv gl sc ρ n i).bind fun b => psub a b
    | .Call f args ks _ => (match f with
      | .Name g p => (match ks with
        | [] => if fewArgs args then (pv gl sc ρ n (.Name g p)).bind fun fv => (pvs gl sc ρ n args).bind fun vs => pcall fv vs else none
        | _ :: _ => none)
      | _ => none)
    | _ => none
noncomputable def pvs (gl : Str → Option Val) (sc : Scope) (ρ : Rho) : Nat → List Expr → Option (List Val)
  | _, [] => some []
  | 0, _ :: _ => none
  | n + 1, e :: r => (pv gl sc ρ n e).bind fun v => (pvs gl sc ρ n r).map (v :: ·)
noncomputable def pcm (gl : Str → Option Val) (sc : Scope) (ρ : Rho) : Nat → Val → List CmpOp → List Expr → Option Bool
  | 0, _, _, _ => none
  | n + 1, a, ops, rs => match ops with
    | [] => none
    | op :: ops => match rs with
      | [] => none
      | r :: rs => (pv gl sc ρ n r).bind fun b => (pcmp op a b).bind fun c => match ops with
        | [] => (match rs with
          | [] => some c
          | _ :: _ => none)
        | op' :: ops => match rs with
          | [] => none
          | r' :: rs => (pcm gl sc ρ n b (op' :: ops) (r' :: rs)).map fun d => c && d
noncomputable def pbl (gl : Str → Option Val) (sc : Scope) (ρ : Rho) : Nat → BoolOp → List Expr → Option Val
  | 0, _, _ => none
  | n + 1, op, es => match es with
    | [] => none
    | e :: r => match r with
      | [] => pv gl sc ρ n e
      | e' :: r => (pv gl sc ρ n e).bind fun v => v.bool?.bind fun b => (pbl gl sc ρ n op (e' :: r)).bind fun u => u.bool?.map fun c => match op with
        | .And => .bool (b && c)
        | .Or => .bool (b || c)
end
mutual
noncomputable def pt (gl : Str → Option Val) (sc : Scope) (ρ : Rho) : Nat → Expr → Option Bool
  | 0, _ => none
  | n + 1, e => match e with
    | .UnaryOp op x _ => (match op with
      | .Not => (pt gl sc ρ n x).map (!·)
      | _ => none)
    | .BoolOp op es _ => ptl gl sc ρ n op es
    | .Compare l ops rs _ => (pv gl sc ρ n l).bind fun a => pcm gl sc ρ n a ops rs
    | .Name x p => (pv gl sc ρ n (.Name x p)).bind ptruth
    | .Call f as ks p => (pv gl sc ρ n (.Call f as ks p)).bind ptruth
    | .Subscript o i p => (pv gl sc ρ n (.Subscript o i p)).bind ptruth
    | _ => none
noncomputable def ptl (gl : Str → Option Val) (sc : Scope) (ρ : Rho) : Nat → BoolOp → List Expr → Option Bool
  | 0, _, _ => none
  | n + 1, op, es => match es with
    | [] => (match op with
      | .And => some true
      | .Or => some false)
    | e :: r => (pt gl sc ρ n e).bind fun b => (ptl gl sc ρ n op r).map fun c => match op with
      | .And => b && c
      | .Or => b || c
end
theorem litOk_short {e : Expr} (h : litOk e = true) : ∃ i k p, e = .Constant (.int i) k p ∧ short i := by
  unfold litOk at h
  cases hi : intLit e with
  | none => rw [hi] at h; cases h
  | some i =>
    rw [hi] at h
    cases e with
    | Constant c k p =>
      cases c with
      | int j =>
        have : j = i := Option.some.inj hi
        subst this
        exact ⟨j, k, p, rfl, Nat.le_of_ble_eq_true h⟩
      | _ => exact no_some hi
    | _ => exact no_some hi
theorem litPos_short {e : Expr} (h : litPos e = true) : ∃ i k p, e = .Constant (.int i) k p ∧ 0 < i ∧ short i := by
  unfold litPos at h
  cases hi : intLit e with
  | none => rw [hi] at h; cases h
  | some i =>
    rw [hi] at h
    have h := Bool.and_eq_true_iff.mp h
    cases e with
    | Constant c k p =>
      cases c with
      | int j =>
        have : j = i := Option.some.inj hi
        subst this
        exact ⟨j, k, p, rfl, of_decide_eq_true h.1, Nat.le_of_ble_eq_true h.2⟩
      | _ => exact no_some hi
    | _ => exact no_some hi
theorem pI_is {f : Int → Int → Int} {a b v : Val} (h : pI f a b = some v) : ∃ x y, a = .int x ∧ b = .int y ∧ v = .int (f x y) := by
  obtain ⟨x, h1, h⟩ := Option.bind_eq_some_iff.mp h
  obtain ⟨y, h2, h⟩ := Option.map_eq_some_iff.mp h
  exact ⟨x, y, Val.int_is h1, Val.int_is h2, h.symm⟩
theorem pcmp_is {op : CmpOp} {a b : Val} {c : Bool} (h : pcmp op a b = some c) (σ : Store) (K : BPost) (hk : K c σ) : cmpop op a b σ K := by
  cases op with
  | Lt | LtE | Gt | GtE =>
    obtain ⟨x, y, rfl, rfl, rfl⟩ := cmpI_is h
    exact hk
  | Eq =>
    obtain ⟨x, y, rfl, rfl, rfl⟩ := cmpI_is h
    exact .inl hk
  | NotEq =>
    obtain ⟨x, y, rfl, rfl, rfl⟩ := cmpI_is h
    exact hk
  | _ => exact no_some h
theorem p1_is {f : Val → Option Val} {vs : List Val} {v : Val} (h : p1 f vs = some v) : ∃ x, vs = [x] ∧ f x = some v := by
  cases vs with
  | nil => exact no_some h
  | cons x r => cases r with
    | nil => exact ⟨x, rfl, h⟩
    | cons _ _ => exact no_some h
theorem truth_of {v : Val} {b : Bool} {σ : Store} {K : BPost} (h : ptruth v = some b) (k : K b σ) : truth v σ K := by
  cases v with
  | none => cases h; exact .inl ⟨rfl, k⟩
  | bool c => cases h; exact .inr (.inl ⟨_, rfl, k⟩)
  | int i => cases h; exact .inr (.inr (.inl ⟨i, rfl, k⟩))
  | _ => exact no_some h
theorem pcall_is {C : Cx} {fv : Val} {vs : List Val} {v : Val} {σ : Store} {Q : VPost} (h : pcall fv vs = some v) (k : Q v σ) : callV C fv vs σ Q := by
  cases fv with
  | blt id =>
    have h : pblt id vs = some v := h
    show callBlt C.calm id vs σ Q
    unfold pblt at h
    unfold callBlt
    by_cases h1 : id = "len"
    · rw [if_pos h1] at h ⊢
      obtain ⟨x, rfl, h⟩ := p1_is h
      cases x with
      | tup ys => cases h; exact k
      | scr ys => cases h; exact k
      | _ => exact no_some h
    · rw [if_neg h1] at h ⊢
      by_cases h2 : id = "isinstance"
      · rw [if_pos h2] at h ⊢
        cases vs with
        | nil => exact no_some h
        | cons x r =>
          obtain ⟨c, rfl, h⟩ := p1_is h
          obtain ⟨b, h3, rfl⟩ := Option.map_eq_some_iff.mp h
          exact pisi_is (Q := fun b => Q (.bool b) σ) h3 k
      · rw [if_neg h2] at h; exact no_some h
  | typ T =>
    have h : ptyp T vs = some v := h
    show callTyp C.calm T vs σ Q
    unfold ptyp at h
    by_cases h1 : T = "int"
    · rw [if_pos h1] at h
      subst h1
      obtain ⟨x, rfl, h⟩ := p1_is h
      obtain ⟨b, h3, rfl⟩ := Option.map_eq_some_iff.mp h
      rw [Val.bool_is h3]; exact k
    · rw [if_neg h1] at h; exact no_some h
  | _ => exact no_some h
section
variable {C : Cx} {sc : Scope} {ρ : Rho}
structure PvS (C : Cx) (sc : Scope) (ρ : Rho) (n : Nat) : Prop where
  v : ∀ {e v σ} {Q : VPost}, pv C.gl sc ρ n e = some v → Q v σ → ev C n sc e ρ σ Q
  vs : ∀ {es vs σ} {Q : List Val → Store → Prop}, pvs C.gl sc ρ n es = some vs → Q vs σ → evs C n sc es ρ σ Q
  cm : ∀ {a ops rs b σ} {K : BPost}, pcm C.gl sc ρ n a ops rs = some b → K b σ → evCmp C n sc a ops rs ρ σ K
  bl : ∀ {op es v σ} {Q : VPost}, pbl C.gl sc ρ n op es = some v → Q v σ → evBool C n sc op es ρ σ Q
theorem pv_all (C : Cx) (sc : Scope) (ρ : Rho) : ∀ n, PvS C sc ρ n := by
  intro n
  induction n with
  | zero => exact ⟨fun h => no_some h, fun {es vs σ Q} h k => by cases es with
      | nil => cases h; exact k
      | cons _ _ => exact no_some h, fun h => no_some h, fun h => no_some h⟩
  | succ n ih =>
    refine ⟨fun {e v σ Q} h k => ?_, fun {es vs σ Q} h k => ?_, fun {a ops rs b σ K} h k => ?_, fun {op es v σ Q} h k => ?_⟩
    · cases e with
      | Constant c _ _ => cases c <;> first | exact no_some h | (cases h; exact k)
      | Name x p =>
        have h : (match kindIs sc x with | 1 => C.gl x | 2 => ρ x | _ => none) = some v := h
        show (match sc.names.lookup x with
          | some .globalImplicit => match C.gl x with
            | some v => Q v σ
            | Option.none => False
          | some .local | some .cell | some .free => match ρ x with
            | some v => Q v σ
            | Option.none => False
          | _ => False)
        unfold kindIs at h
        cases hl : sc.names.lookup x with
        | none => rw [hl] at h; exact no_some h
        | some kd =>
          rw [hl] at h
          cases kd with
          | globalImplicit => have h : C.gl x = some v := h; dsimp only; rw [h]; exact k
          | «local» => have h : ρ x = some v := h; dsimp only; rw [h]; exact k
          | cell => have h : ρ x = some v := h; dsimp only; rw [h]; exact k
          | free => have h : ρ x = some v := h; dsimp only; rw [h]; exact k
          | _ => exact no_some h
      | BinOp l op r p =>
        obtain ⟨a, h1, h⟩ := Option.bind_eq_some_iff.mp h
        obtain ⟨b, h2, h⟩ := Option.bind_eq_some_iff.mp h
        refine ih.v (v := a) h1 (ih.v (v := b) h2 ?_)
        cases op with
        | Add => obtain ⟨x, y, rfl, rfl, rfl⟩ := pI_is h; exact .inl k
        | Sub => obtain ⟨x, y, rfl, rfl, rfl⟩ := pI_is h; exact k
        | Mult =>
          have h : (if litOk r then pI (· * ·) a b else none) = some v := h
          by_cases hr : litOk r = true
          · rw [if_pos hr] at h
            obtain ⟨x, y, rfl, rfl, rfl⟩ := pI_is h
            obtain ⟨i, kk, pp, rfl, hs⟩ := litOk_short hr
            cases n with
            | zero => exact no_some h2
            | succ n => cases h2; exact .inl ⟨.inr hs, k⟩
          · rw [if_neg hr] at h; exact no_some h
        | FloorDiv =>
          have h : (if litPos r then pI (· / ·) a b else none) = some v := h
          by_cases hr : litPos r = true
          · rw [if_pos hr] at h
            obtain ⟨x, y, rfl, rfl, rfl⟩ := pI_is h
            obtain ⟨i, kk, pp, rfl, hs⟩ := litPos_short hr
            cases n with
            | zero => exact no_some h2
            | succ n => cases h2; exact ⟨hs, k⟩
          · rw [if_neg hr] at h; exact no_some h
        | Mod =>
          have h : (if litPos r then pI (· % ·) a b else none) = some v := h
          by_cases hr : litPos r = true
          · rw [if_pos hr] at h
            obtain ⟨x, y, rfl, rfl, rfl⟩ := pI_is h
            obtain ⟨i, kk, pp, rfl, hs⟩ := litPos_short hr
            cases n with
            | zero => exact no_some h2
            | succ n => cases h2; exact ⟨hs.1, k⟩
          · rw [if_neg hr] at h; exact no_some h
        | _ => exact no_some h
      | UnaryOp op x p =>
        obtain ⟨a, h1, h⟩ := Option.bind_eq_some_iff.mp h
        refine ih.v (v := a) h1 ?_
        cases op with
        | USub => obtain ⟨x, h2, rfl⟩ := Option.map_eq_some_iff.mp h; rw [Val.int_is h2]; exact k
        | Not => obtain ⟨x, h2, rfl⟩ := Option.map_eq_some_iff.mp h; exact truth_of (K := fun b σ' => Q (.bool !b) σ') h2 k
        | _ => exact no_some h
      | Compare l ops rs p =>
        obtain ⟨a, h1, h⟩ := Option.bind_eq_some_iff.mp h
        obtain ⟨b, h2, rfl⟩ := Option.map_eq_some_iff.mp h
        exact ih.v (v := a) h1 (ih.cm (b := b) h2 k)
      | BoolOp op es p => exact ih.bl (v := v) h k
      | Tuple es kk p =>
        have h : (if fewArgs es then (pvs C.gl sc ρ n es).map Val.tup else none) = some v := h
        by_cases hf : fewArgs es = true
        · rw [if_pos hf] at h
          obtain ⟨vs, h1, rfl⟩ := Option.map_eq_some_iff.mp h
          exact ⟨hf, ih.vs (vs := vs) h1 k⟩
        · rw [if_neg hf] at h; exact no_some h
      | Subscript o i p =>
        have h : (if isSl i then none else (pv C.gl sc ρ n o).bind fun a => (pv C.gl sc ρ n i).bind fun b => psub a b) = some v := h
        have hi : isSl i = false := by
          cases hs : isSl i with
          | false => rfl
          | true => rw [hs] at h; exact no_some h
        rw [hi] at h
        obtain ⟨a, h1, h⟩ := Option.bind_eq_some_iff.mp h
        obtain ⟨b, h2, h⟩ := Option.bind_eq_some_iff.mp h
        have key : ev C n sc o ρ σ fun ov σ₁ => ev C n sc i ρ σ₁ fun iv σ₂ => subscr ov iv σ₂ Q := by
          refine ih.v (v := a) h1 (ih.v (v := b) h2 ?_)
          obtain ⟨vs, h3, h⟩ := Option.bind_eq_some_iff.mp h
          obtain ⟨m, h4, h⟩ := Option.bind_eq_some_iff.mp h
          rw [Val.tup_is h3, Val.int_is h4]
          obtain ⟨j, h5, h6⟩ := Option.bind_eq_some_iff.mp h
          exact .inl ⟨vs, m, j, _, ⟨rfl, rfl⟩, h5, h6, k⟩
        cases i <;> first | exact key | cases hi
      | Call f args ks p =>
        cases f with
        | Name g q =>
          cases ks with
          | nil =>
            have h : (if fewArgs args then (pv C.gl sc ρ n (.Name g q)).bind fun fv => (pvs C.gl sc ρ n args).bind fun vs => pcall fv vs else none) = some v := h
            by_cases hf : fewArgs args = true
            · rw [if_pos hf] at h
              obtain ⟨fv, h1, h⟩ := Option.bind_eq_some_iff.mp h
              obtain ⟨vs, h2, h⟩ := Option.bind_eq_some_iff.mp h
              exact ⟨hf, ih.v (v := fv) h1 (ih.vs (vs := vs) h2 (pcall_is h k))⟩
            · rw [if_neg hf] at h; exact no_some h
          | cons _ _ => exact no_some h
        | _ => exact no_some h
      | _ => exact no_some h
    · cases es with
      | nil => cases h; exact k
      | cons e r =>
        obtain ⟨v, h1, h⟩ := Option.bind_eq_some_iff.mp h
        obtain ⟨us, h2, rfl⟩ := Option.map_eq_some_iff.mp h
        exact ih.v (v := v) h1 (ih.vs (vs := us) h2 k)
    · cases ops with
      | nil => exact no_some h
      | cons op ops => cases rs with
        | nil => exact no_some h
        | cons r rs =>
          obtain ⟨v, h1, h⟩ := Option.bind_eq_some_iff.mp h
          obtain ⟨c, h2, h⟩ := Option.bind_eq_some_iff.mp h
          cases ops with
          | nil => cases rs with
            | nil => cases h; exact ih.v (v := v) h1 (pcmp_is h2 _ _ k)
            | cons _ _ => exact no_some h
          | cons op' ops => cases rs with
            | nil => exact no_some h
            | cons r' rs =>
              obtain ⟨d, h3, rfl⟩ := Option.map_eq_some_iff.mp h
              refine ih.v (v := v) h1 (pcmp_is h2 _ _ ⟨fun hc => ?_, fun hc => ?_⟩)
              · subst hc; exact ih.cm (b := d) h3 k
              · subst hc; exact k
    · cases es with
      | nil => exact no_some h
      | cons e r => cases r with
        | nil => exact ih.v (v := v) h k
        | cons e' r =>
          obtain ⟨a, h1, h⟩ := Option.bind_eq_some_iff.mp h
          obtain ⟨b, h2, h⟩ := Option.bind_eq_some_iff.mp h
          obtain ⟨u, h3, h⟩ := Option.bind_eq_some_iff.mp h
          obtain ⟨c, h4, rfl⟩ := Option.map_eq_some_iff.mp h
          rw [Val.bool_is h2] at h1
          rw [Val.bool_is h4] at h3
          cases op with
          | And =>
            refine ih.v (v := .bool b) h1 ?_
            refine .inr (.inl ⟨b, rfl, ?_⟩)
            show (b = false → Q (.bool b) σ) ∧ (b = true → evBool C n sc .And (e' :: r) ρ σ Q)
            refine ⟨fun hb => ?_, fun hb => ?_⟩
            · subst hb; exact k
            · subst hb; exact ih.bl (v := .bool c) h3 k
          | Or =>
            refine ih.v (v := .bool b) h1 ?_
            refine .inr (.inl ⟨b, rfl, ?_⟩)
            show (b = true → Q (.bool b) σ) ∧ (b = false → evBool C n sc .Or (e' :: r) ρ σ Q)
            refine ⟨fun hb => ?_, fun hb => ?_⟩
            · subst hb; exact k
            · subst hb; exact ih.bl (v := .bool c) h3 k
theorem pt_all (C : Cx) (sc : Scope) (ρ : Rho) : ∀ n, (∀ {e b σ} {K : BPost}, pt C.gl sc ρ n e = some b → K b σ → tst C n sc e ρ σ K) ∧ (∀ {op es b σ} {K : BPost}, ptl C.gl sc ρ n op es = some b → K b σ → tstAll C n sc op es ρ σ K) := by
  intro n
  induction n with
  | zero => exact ⟨fun h => no_some h, fun h => no_some h⟩
  | succ n ih =>
    have pa := pv_all C sc ρ n
    refine ⟨fun {e b σ K} h k => ?_, fun {op es b σ K} h k => ?_⟩
    · cases e with
      | UnaryOp op x p =>
        cases op with
        | Not => obtain ⟨c, h1, rfl⟩ := Option.map_eq_some_iff.mp h; exact ih.1 h1 k
        | _ => exact no_some h
      | BoolOp op es p => exact ih.2 h k
      | Compare l ops rs p =>
        obtain ⟨a, h1, h⟩ := Option.bind_eq_some_iff.mp h
        exact pa.v (v := a) h1 (pa.cm (b := b) h k)
      | Name x p =>
        obtain ⟨a, h1, h⟩ := Option.bind_eq_some_iff.mp h
        exact pa.v (v := a) h1 (truth_of h k)
      | Call f as ks p =>
        obtain ⟨a, h1, h⟩ := Option.bind_eq_some_iff.mp h
        exact pa.v (v := a) h1 (truth_of h k)
      | Subscript o i p =>
        obtain ⟨a, h1, h⟩ := Option.bind_eq_some_iff.mp h
        exact pa.v (v := a) h1 (truth_of h k)
      | _ => exact no_some h
    · cases es with
      | nil => cases op <;> (cases h; exact k)
      | cons e r =>
        obtain ⟨a, h1, h⟩ := Option.bind_eq_some_iff.mp h
        obtain ⟨c, h2, rfl⟩ := Option.map_eq_some_iff.mp h
        cases op with
        | And =>
          refine ih.1 h1 ⟨fun hb => ?_, fun hb => ?_⟩
          · subst hb; exact k
          · subst hb; exact ih.2 h2 k
        | Or =>
          refine ih.1 h1 ⟨fun hb => ?_, fun hb => ?_⟩
          · subst hb; exact k
          · subst hb; exact ih.2 h2 k
variable {E : List (Str × Val)} {σ : Store} {R : Fl → Rho → Store → Prop} {n : Nat} {r : List Stmt} {Q : VPost} {K : BPost}
/-! statements whose expressions are plain -/
theorem w_pv {e : Expr} {v : Val} (h : pv C.gl sc ρ n e = some v) (k : Q v σ) : ev C n sc e ρ σ Q := (pv_all C sc ρ n).v h k
theorem w_pvs {es : List Expr} {vs : List Val} {K : List Val → Store → Prop} (h : pvs C.gl sc ρ n es = some vs) (k : K vs σ) : evs C n sc es ρ σ K := (pv_all C sc ρ n).vs h k
theorem w_pt {e : Expr} {b : Bool} (h : pt C.gl sc ρ n e = some b) (k : K b σ) : tst C n sc e ρ σ K := (pt_all C sc ρ n).1 h k
theorem w_name {x : Str} {q p : Pos} {e : Expr} {v : Val} (h : (isLoc sc x, pv C.gl sc (lk E) n e) = (true, some v)) (k : exs C (n + 1) sc r (lk (setL E x v)) σ R) : exs C (n + 2) sc (.Assign [.Name x q] e p :: r) (lk E) σ R := by
  refine ⟨congrArg (·.1) h, w_pv (congrArg (·.2) h) ?_⟩
  rw [upd_lk]; exact k
theorem w_let {x : Str} {q p : Pos} {e : Expr} (hl : isLoc sc x = true) (k : ev C n sc e (lk E) σ fun v σ₁ => exs C (n + 1) sc r (lk (setL E x v)) σ₁ R) : exs C (n + 2) sc (.Assign [.Name x q] e p :: r) (lk E) σ R := by
  refine ⟨hl, ?_⟩
  have : (fun (v : Val) (σ₁ : Store) => exs C (n + 1) sc r (lk (setL E x v)) σ₁ R) = fun v σ₁ => exs C (n + 1) sc r (upd (lk E) x v) σ₁ R := by funext v σ₁; rw [upd_lk]
  rw [this] at k; exact k
theorem w_ret {p : Pos} {e : Expr} {v : Val} (h : pv C.gl sc ρ n e = some v) (k : R (.ret v) ρ σ) : exs C (n + 2) sc (.Return (some e) p :: r) ρ σ R := w_pv (n := n) h k
theorem w_rete {p : Pos} {e : Expr} (k : ev C n sc e ρ σ fun v σ₁ => R (.ret v) ρ σ₁) : exs C (n + 2) sc (.Return (some e) p :: r) ρ σ R := k
theorem w_if {t : Expr} {b₁ b₂ : List Stmt} {p : Pos} {c : Bool} (h : pt C.gl sc ρ n t = some c) (k₁ : c = true → exs C n sc b₁ ρ σ (seqK C (n + 1) sc r R)) (k₂ : c = false → exs C n sc b₂ ρ σ (seqK C (n + 1) sc r R)) : exs C (n + 2) sc (.If t b₁ b₂ p :: r) ρ σ R :=
  w_pt (n := n) h ⟨k₁, k₂⟩
theorem w_ift {t : Expr} {b₁ b₂ : List Stmt} {p : Pos} (h : tst C n sc t ρ σ fun c σ₁ => (c = true → exs C n sc b₁ ρ σ₁ (seqK C (n + 1) sc r R)) ∧ (c = false → exs C n sc b₂ ρ σ₁ (seqK C (n + 1) sc r R))) : exs C (n + 2) sc (.If t b₁ b₂ p :: r) ρ σ R := h
theorem w_exp {f as ks p q} (k : ev C n sc (.Call f as ks p) ρ σ fun _ σ₁ => exs C (n + 1) sc r ρ σ₁ R) : exs C (n + 2) sc (.Expr (.Call f as ks p) q :: r) ρ σ R := .inl k
theorem w_nil (k : R .next ρ σ) : exs C n sc [] ρ σ R := by cases n <;> exact k
theorem w_next (k : exs C n sc r ρ σ R) : seqK C n sc r R .next ρ σ := k
theorem w_stop {v : Val} (k : R (.ret v) ρ σ) : seqK C n sc r R (.ret v) ρ σ := k
theorem w_fn {f : Str} {p cp : Pos} {args : List Expr} {vs : List Val} (h : (fewArgs args, kindIs sc f, C.gl f, pvs C.gl sc ρ (n + 1) args) = (true, 1, some (.fn f), some vs)) (k : C.call (.top f) vs σ Q) : ev C (n + 2) sc (.Call (.Name f p) args [] cp) ρ σ Q := by
  refine ⟨congrArg (·.1) h, w_pv (v := .fn f) ?_ ((pv_all C sc ρ (n + 1)).vs (vs := vs) (congrArg (·.2.2.2) h) k)⟩
  show (match kindIs sc f with | 1 => C.gl f | 2 => ρ f | _ => none) = _
  rw [show kindIs sc f = 1 from congrArg (·.2.1) h]
  exact congrArg (·.2.2.1) h
theorem w_call {f : Str} {p cp : Pos} {args : List Expr} {fv : Val} (h : (fewArgs args, pv C.gl sc ρ n (.Name f p)) = (true, some fv)) (k : evs C n sc args ρ σ fun vs σ₁ => callV C fv vs σ₁ Q) : ev C (n + 1) sc (.Call (.Name f p) args [] cp) ρ σ Q :=
  ⟨congrArg (·.1) h, w_pv (v := fv) (congrArg (·.2) h) k⟩
theorem w_blt {f : Str} {p cp : Pos} {args : List Expr} {vs : List Val} {fv : Val} (h : (fewArgs args, kindIs sc f, C.gl f, pvs C.gl sc ρ (n + 1) args) = (true, 1, some fv, some vs)) (k : callV C fv vs σ Q) : ev C (n + 2) sc (.Call (.Name f p) args [] cp) ρ σ Q := by
  refine ⟨congrArg (·.1) h, w_pv (v := fv) ?_ ((pv_all C sc ρ (n + 1)).vs (vs := vs) (congrArg (·.2.2.2) h) k)⟩
  show (match kindIs sc f with | 1 => C.gl f | 2 => ρ f | _ => none) = _
  rw [show kindIs sc f = 1 from congrArg (·.2.1) h]
  exact congrArg (·.2.2.1) h
noncomputable def rngOf (vs : List Val) : Option (Int × Int) := match vs with
  | [] => none
  | v :: r => v.int?.bind fun m => match r with
    | [] => some (0, m)
    | u :: r => match r with
      | [] => u.int?.map fun k => (m, k)
      | _ :: _ => none
theorem rngOf_run {vs : List Val} {lo hi : Int} (h : rngOf vs = some (lo, hi)) (hc : 0 ≤ lo ∧ lo ≤ cap ∧ -(cap : Int) ≤ hi ∧ hi ≤ cap) (k : Q (.rng lo hi) σ) : callV C (.typ "range") vs σ Q := by
  cases vs with
  | nil => exact no_some h
  | cons v r =>
    obtain ⟨m, h1, h⟩ := Option.bind_eq_some_iff.mp h
    rw [Val.int_is h1]
    cases r with
    | nil => cases h; exact ⟨hc.2.2, k⟩
    | cons u r =>
      cases r with
      | nil =>
        obtain ⟨m', h2, h⟩ := Option.map_eq_some_iff.mp h
        cases h
        rw [Val.int_is h2]; exact ⟨hc, k⟩
      | cons _ _ => exact no_some h
theorem w_range {t : Expr} {b : List Stmt} {f : Str} {pp cp p : Pos} {args : List Expr} {lo hi : Int} (h : (fewArgs args, kindIs sc f, C.gl f, (pvs C.gl sc ρ (n + 1) args).bind rngOf) = (true, 1, some (.typ "range"), some (lo, hi)))
    (hc : 0 ≤ lo ∧ lo ≤ cap ∧ -(cap : Int) ≤ hi ∧ hi ≤ cap)
    (k : forLoop (forStep (exs C (n + 2) sc b) C.pairOk sc t) C.calm (fun _ => True) (ofInts (rangeL lo hi)) ρ σ (seqK C (n + 3) sc r R)) : exs C (n + 4) sc (.For t (.Call (.Name f pp) args [] cp) b [] p :: r) ρ σ R := by
  obtain ⟨vs, h5, h6⟩ := Option.bind_eq_some_iff.mp (congrArg (·.2.2.2) h)
  refine w_blt (n := n) (cp := cp) (vs := vs) (fv := .typ "range") ?_ (rngOf_run h6 hc k)
  rw [show fewArgs args = true from congrArg (·.1) h, show kindIs sc f = 1 from congrArg (·.2.1) h, show C.gl f = some (.typ "range") from congrArg (·.2.2.1) h, h5]
theorem w_list {t it : Expr} {b : List Stmt} {p : Pos} {a : Addr} {xs : List Val} (h : pv C.gl sc ρ n it = some (.ref a)) (hl : σ a = some (.list xs))
    (k : forLoop (forStep (exs C n sc b) C.pairOk sc t) C.calm (fun σ' => σ' a = some (.list xs)) xs ρ σ (seqK C (n + 1) sc r R)) : exs C (n + 2) sc (.For t it b [] p :: r) ρ σ R := by
  refine w_pv (n := n) h ?_
  show match itemsOf σ (.ref a) with | some items => _ | Option.none => False
  have e : itemsOf σ (.ref a) = some xs := by unfold itemsOf; dsimp only; rw [hl]
  rw [e]
  have e2 : still σ (.ref a) = fun σ' => σ' a = some (.list xs) := by unfold still; dsimp only; rw [hl]
  rw [e2]; exact k
theorem for_env {step : Val → Rho → Store → (Fl → Rho → Store → Prop) → Prop} {ok : Store → Prop} {items : List Val} (I : Nat → List (Str × Val) → Store → Prop) {E₀ : List (Str × Val)} (hE : Sub (lk E₀) ρ) (h0 : I 0 E₀ σ)
    (hs : ∀ i x E σ' K, items[i]? = some x → I i E σ' → (∀ E' ρ'' σ'', I (i + 1) E' σ'' → Sub (lk E') ρ'' → ok σ'' → K .next ρ'' σ'') → (∀ v ρ'' σ'', R (.ret v) ρ'' σ'' → K (.ret v) ρ'' σ'') → step x (lk E) σ' K)
    (he : ∀ E σ', I items.length E σ' → R .next (lk E) σ') : forLoop step true ok items ρ σ R := by
  have gen : ∀ (l : List Val) (i : Nat) E ρ σ, items.drop i = l → i ≤ items.length → Sub (lk E) ρ → I i E σ → forLoop step true ok l ρ σ R := by
    intro l
    induction l with
    | nil =>
      intro i E ρ σ hd hi hs' h
      have : i = items.length := Nat.le_antisymm hi (List.drop_eq_nil_iff.mp hd)
      subst this
      exact ⟨rfl, lk E, hs', he E σ h⟩
    | cons x l ih =>
      intro i E ρ σ hd hi hs' h
      have hlt : i < items.length := Nat.lt_of_not_le fun hn => by rw [List.drop_eq_nil_iff.mpr hn] at hd; cases hd
      have hx : items[i]? = some x := by
        have := List.getElem?_drop (xs := items) (i := i) (j := 0)
        rw [hd] at this; simpa using this.symm
      have hd' : items.drop (i + 1) = l := by rw [← List.drop_drop, hd]; rfl
      exact ⟨lk E, hs', hs i x E σ _ hx h (fun E' ρ'' σ'' hI hs'' hok => ⟨hok, ih (i + 1) E' ρ'' σ'' hd' hlt hs'' hI⟩) (fun v ρ'' σ'' hq => hq)⟩
  exact gen items 0 E₀ ρ σ rfl (Nat.zero_le _) hE h0
theorem w_turn {t : Str} {p : Pos} {b : List Stmt} {x : Val} {ok : Store → Prop} (hl : isLoc sc t = true) (k : exs C n sc b (lk (setL E t x)) σ R) : forStep (exs C n sc b) ok sc (.Name t p) x (lk E) σ R := by
  rw [← upd_lk] at k
  exact ⟨false, _, nofun, by show (if isLoc sc t then some (upd (lk E) t x) else none) = _; rw [if_pos hl], k⟩
theorem w_turn2 {t u : Str} {p q s : Pos} {kk : Nat} {b : List Stmt} {x y : Val} {ok : Store → Prop} (hok : ok σ) (hl : (true && isLoc sc t && isLoc sc u && t != u) = true) (k : exs C n sc b (lk (setL (setL E t x) u y)) σ R) : forStep (exs C n sc b) ok sc (.Tuple [.Name t p, .Name u q] kk s) (.tup [x, y]) (lk E) σ R := by
  rw [← upd_lk, ← upd_lk] at k
  exact ⟨true, _, fun _ => hok, by show (if (true && isLoc sc t && isLoc sc u && t != u) = true then some (upd (upd (lk E) t x) u y) else none) = _; rw [if_pos hl], k⟩
noncomputable def pairK (C : Cx) (n : Nat) (sc : Scope) (r : List Stmt) (R : Fl → Rho → Store → Prop) (ρ : Rho) (t : Expr) (v : Val) (σ₁ : Store) : Prop := match bindT C.calm sc t v ρ with
  | some ρ' => exs C n sc r ρ' σ₁ R
  | Option.none => False
theorem w_pair {x y : Str} {px py q p pc : Pos} {kk : Nat} {f : Expr} {as : List Expr} {ks : List Keyword}
    (k : ev C n sc (.Call f as ks pc) ρ σ (pairK C (n + 1) sc r R ρ (.Tuple [.Name x px, .Name y py] kk q))) : exs C (n + 2) sc (.Assign [.Tuple [.Name x px, .Name y py] kk q] (.Call f as ks pc) p :: r) ρ σ R := k
theorem pairK_is {x y : Str} {px py q : Pos} {kk : Nat} {u w : Val} (hl : (C.calm && isLoc sc x && isLoc sc y && x != y) = true) (k : exs C n sc r (lk (setL (setL E x u) y w)) σ R) : pairK C n sc r R (lk E) (.Tuple [.Name x px, .Name y py] kk q) (.tup [u, w]) σ := by
  show match (if (C.calm && isLoc sc x && isLoc sc y && x != y) = true then some (upd (upd (lk E) x u) y w) else none) with | some ρ' => _ | Option.none => False
  rw [if_pos hl]
  rw [← upd_lk, ← upd_lk] at k; exact k
noncomputable def subK (C : Cx) (n m : Nat) (sc : Scope) (r : List Stmt) (R : Fl → Rho → Store → Prop) (ρ : Rho) (o i : Expr) (v : Val) (σ₁ : Store) : Prop :=
  ev C n sc o ρ σ₁ fun ov σ₂ => ev C n sc i ρ σ₂ fun iv σ₃ => setitem ov iv v σ₃ fun σ₄ => exs C m sc r ρ σ₄ R
theorem w_asub {o i e : Expr} {q p : Pos} (k : ev C n sc e ρ σ (subK C n (n + 1) sc r R ρ o i)) : exs C (n + 2) sc (.Assign [.Subscript o i q] e p :: r) ρ σ R := k
theorem subK_D {m : Nat} {o i : Expr} {v : Val} {t : Addr} {a b : Int} {es : List ((Int × Int) × Val)} (h : (pv C.gl sc ρ n o, pv C.gl sc ρ n i) = (some (.ref t), some (.tup [.int a, .int b]))) (hd : σ t = some (.dictP es)) (hl : es.length < cap)
    (k : exs C m sc r ρ (σ.set t (.dictP (putP (a, b) v es))) R) : subK C n m sc r R ρ o i v σ :=
  w_pv (congrArg (·.1) h) (w_pv (congrArg (·.2) h) (.inr ⟨t, es, a, b, ⟨rfl, rfl, hd⟩, hl, k⟩))
theorem w_bin {l op r p} (h : ev C n sc l ρ σ fun a σ₁ => ev C n sc r ρ σ₁ fun b σ₂ => binop op a b σ₂ Q) : ev C (n + 1) sc (.BinOp l op r p) ρ σ Q := h
theorem w_cmp {l ops rs p} (h : ev C n sc l ρ σ fun a σ₁ => evCmp C n sc a ops rs ρ σ₁ fun b σ₂ => Q (.bool b) σ₂) : ev C (n + 1) sc (.Compare l ops rs p) ρ σ Q := h
theorem w_cm1 {a : Val} {op : CmpOp} {e : Expr} (h : ev C n sc e ρ σ fun b σ₁ => cmpop op a b σ₁ K) : evCmp C (n + 1) sc a [op] [e] ρ σ K := h
theorem w_and {e e' : Expr} {r : List Expr} {p} (h : ev C n sc e ρ σ fun v σ₁ => truth v σ₁ fun b σ₂ => (b = false → Q v σ₂) ∧ (b = true → evBool C n sc .And (e' :: r) ρ σ₂ Q)) : ev C (n + 2) sc (.BoolOp .And (e :: e' :: r) p) ρ σ Q := h
theorem w_and1 {e : Expr} (h : ev C n sc e ρ σ Q) : evBool C (n + 1) sc .And [e] ρ σ Q := h
theorem w_and2 {e e' : Expr} {r : List Expr} (h : ev C n sc e ρ σ fun v σ₁ => truth v σ₁ fun b σ₂ => (b = false → Q v σ₂) ∧ (b = true → evBool C n sc .And (e' :: r) ρ σ₂ Q)) : evBool C (n + 1) sc .And (e :: e' :: r) ρ σ Q := h
theorem w_es0 {K : List Val → Store → Prop} (h : K [] σ) : evs C n sc [] ρ σ K := by cases n <;> exact h
theorem w_es1 {K : List Val → Store → Prop} {e : Expr} {r : List Expr} (h : ev C n sc e ρ σ fun v σ₁ => evs C n sc r ρ σ₁ fun vs σ₂ => K (v :: vs) σ₂) : evs C (n + 1) sc (e :: r) ρ σ K := h
theorem w_tup {es : List Expr} {k : Nat} {p : Pos} (hf : fewArgs es = true) (h : evs C n sc es ρ σ fun vs σ₁ => Q (.tup vs) σ₁) : ev C (n + 1) sc (.Tuple es k p) ρ σ Q := ⟨hf, h⟩
theorem w_lst {es : List Expr} {p : Pos} (hf : fewArgs es = true) (h : evs C n sc es ρ σ fun vs σ₁ => ∀ c, σ₁ c = Option.none → Q (.ref c) (σ₁.set c (.list vs))) : ev C (n + 1) sc (.List es p) ρ σ Q := ⟨hf, h⟩
theorem w_dict {p : Pos} (h : ∀ c, σ c = Option.none → Q (.ref c) (σ.set c (.dictP []))) : ev C (n + 1) sc (.Dict [] [] p) ρ σ Q := h
theorem w_sub {o i : Expr} {p : Pos} (hi : isSl i = false) (h : ev C n sc o ρ σ fun ov σ₁ => ev C n sc i ρ σ₁ fun iv σ₂ => subscr ov iv σ₂ Q) : ev C (n + 1) sc (.Subscript o i p) ρ σ Q := by
  cases i <;> first | exact h | exact absurd hi.symm Bool.false_ne_true
theorem w_attr {o : Expr} {a : Str} {p : Pos} {q dx : Addr} {c : Str} {fs : List (Str × Val)} {v : Val} (h : (plainBase o, pv C.gl sc ρ n o) = (true, some (.ref q))) (h1 : σ q = some (.inst c dx)) (h2 : σ dx = some (.attrs fs)) (h3 : lookS a fs = some v) (k : Q v σ) : ev C (n + 1) sc (.Attribute o a p) ρ σ Q := by
  refine ⟨congrArg (·.1) h, w_pv (v := .ref q) (congrArg (·.2) h) ?_⟩
  unfold getattr; dsimp only; rw [h1]; dsimp only; rw [h2]; dsimp only; rw [h3]; exact k
theorem w_meth {o : Expr} {m : Str} {ap cp : Pos} {args : List Expr} {q : Addr} {xs : List Val} (h : (plainBase o, fewArgs args, (ap.endLine == cp.line), (m == "append" || m == "insert" || m == "clear" || m == "count"), pv C.gl sc ρ n o) = (true, true, true, true, some (.ref q))) (hq : σ q = some (.list xs))
    (k : evs C n sc args ρ σ fun vs σ₂ => listMeth q m vs σ₂ Q) : ev C (n + 1) sc (.Call (.Attribute o m ap) args [] cp) ρ σ Q := by
  refine ⟨⟨congrArg (·.1) h, congrArg (·.2.1) h, congrArg (·.2.2.1) h⟩, w_pv (v := .ref q) (congrArg (·.2.2.2.2) h) ?_⟩
  have e : methKind (.ref q) m σ = some (.list q) := by unfold methKind; dsimp only; rw [hq]
  show match methKind (.ref q) m σ with | some k => _ | Option.none => False
  rw [e]
  exact ⟨congrArg (·.2.2.2.1) h, k⟩
theorem k_insert {p : Addr} {xs : List Val} {i : Int} {v : Val} (h : σ p = some (.list xs)) (hc : xs.length < cap ∧ 0 ≤ i ∧ i ≤ xs.length) (k : Q .none (σ.set p (.list (insertAt xs i.toNat v)))) : listMeth p "insert" [.int i, v] σ Q := by
  unfold listMeth; rw [h]; dsimp only
  rw [if_neg (by decide +kernel), if_pos rfl]
  exact ⟨hc, k⟩
theorem k_count {p : Addr} {bs : List Bool} (h : σ p = some (.list (bs.map .bool))) (k : Q (.int (bs.countP id : Nat)) σ) : listMeth p "count" [.bool true] σ Q := by
  unfold listMeth; rw [h]; dsimp only
  rw [if_neg (by decide +kernel), if_neg (by decide +kernel), if_neg (by decide +kernel), if_pos rfl]
  exact ⟨bs, rfl, rfl, k⟩
theorem k_len {p : Addr} {xs : List Val} {calm : Bool} (h : σ p = some (.list xs)) (k : Q (.int xs.length) σ) : callBlt calm "len" [.ref p] σ Q := by
  show atList σ p _
  rw [atList_eq h]; exact k
theorem k_listD {p : Addr} {es : List ((Int × Int) × Val)} (h : σ p = some (.dictP es)) (k : ∀ c, σ c = Option.none → Q (.ref c) (σ.set c (.list (es.map fun e => pairV e.1)))) : callTyp true "list" [.ref p] σ Q := by
  show listOfV true p σ Q
  unfold listOfV; rw [h]; exact ⟨rfl, k⟩
theorem k_listL {p : Addr} {xs : List Val} {calm : Bool} (h : σ p = some (.list xs)) (k : ∀ c, σ c = Option.none → Q (.ref c) (σ.set c (.list xs))) : callTyp calm "list" [.ref p] σ Q := by
  show listOfV calm p σ Q
  unfold listOfV; rw [h]; exact k
theorem w_slice {o : Expr} {l u s : Option Expr} {q p : Pos} (k : ev C n sc o ρ σ fun ov σ₁ => evOpt C n sc l ρ σ₁ fun lv σ₂ => evOpt C n sc u ρ σ₂ fun uv σ₃ => evOpt C n sc s ρ σ₃ fun sv σ₄ =>
        match ov with
        | .ref p => match σ₄ p with
          | some (.list xs) => sliceV xs lv uv sv σ₄ Q
          | _ => False
        | _ => False) : ev C (n + 1) sc (.Subscript o (.Slice l u s q) p) ρ σ Q := k
theorem w_upto {o e : Expr} {q p : Pos} {a : Addr} {xs : List Val} {j : Int} (h : (pv C.gl sc ρ (n + 1) o, pv C.gl sc ρ n e) = (some (.ref a), some (.int j))) (ha : σ a = some (.list xs)) (hj : 0 ≤ j ∧ j ≤ xs.length)
    (k : ∀ c, σ c = Option.none → Q (.ref c) (σ.set c (.list (xs.take j.toNat)))) : ev C (n + 2) sc (.Subscript o (.Slice none (some e) none q) p) ρ σ Q := by
  refine w_slice (w_pv (n := n + 1) (v := .ref a) (congrArg (·.1) h) ?_)
  refine w_pv (n := n) (v := .int j) (congrArg (·.2) h) ?_
  show match σ a with | some (.list xs) => sliceV xs none (some j) none σ Q | _ => False
  rw [ha]
  refine ⟨⟨by have := hj.1; omega, hj.2⟩, fun c hc => ?_⟩
  rw [if_pos hj.1]; exact k c hc
theorem w_from {o e : Expr} {q p : Pos} {a : Addr} {xs : List Val} {j : Int} (h : (pv C.gl sc ρ (n + 1) o, pv C.gl sc ρ n e) = (some (.ref a), some (.int j))) (ha : σ a = some (.list xs)) (hj : 0 ≤ j ∧ j ≤ xs.length)
    (k : ∀ c, σ c = Option.none → Q (.ref c) (σ.set c (.list (xs.drop j.toNat)))) : ev C (n + 2) sc (.Subscript o (.Slice (some e) none none q) p) ρ σ Q := by
  refine w_slice (w_pv (n := n + 1) (v := .ref a) (congrArg (·.1) h) ?_)
  refine w_pv (n := n) (v := .int j) (congrArg (·.2) h) ?_
  show match σ a with | some (.list xs) => sliceV xs (some j) none none σ Q | _ => False
  rw [ha]
  exact ⟨hj, k⟩
/-! what operators give -/
theorem k_add {x y : Int} (k : Q (.int (x + y)) σ) : binop .Add (.int x) (.int y) σ Q := .inl k
theorem k_sub {x y : Int} (k : Q (.int (x - y)) σ) : binop .Sub (.int x) (.int y) σ Q := k
theorem k_mul {x y : Int} (h : short x ∨ short y) (k : Q (.int (x * y)) σ) : binop .Mult (.int x) (.int y) σ Q := .inl ⟨h, k⟩
theorem k_mod {x y : Int} (h : 0 < y) (k : Q (.int (x % y)) σ) : binop .Mod (.int x) (.int y) σ Q := ⟨h, k⟩
theorem k_div {x y : Int} (h : 0 < y ∧ short y) (k : Q (.int (x / y)) σ) : binop .FloorDiv (.int x) (.int y) σ Q := ⟨h, k⟩
theorem k_pow {y : Int} (h : 0 ≤ y ∧ y ≤ 30) (k : Q (.int (10 ^ y.toNat)) σ) : binop .Pow (.int 10) (.int y) σ Q := ⟨⟨rfl, h⟩, k⟩
theorem k_cat {p q : Addr} {xs ys : List Val} (h1 : σ p = some (.list xs)) (h2 : σ q = some (.list ys)) (hc : xs.length + ys.length ≤ cap) (k : ∀ c, σ c = Option.none → Q (.ref c) (σ.set c (.list (xs ++ ys)))) : binop .Add (.ref p) (.ref q) σ Q := .inr ⟨p, q, xs, ys, ⟨rfl, rfl, h1, h2⟩, hc, k⟩
theorem k_rep {p : Addr} {x : Val} {m : Int} (h1 : σ p = some (.list [x])) (hc : 0 ≤ m ∧ m ≤ cap) (k : ∀ c, σ c = Option.none → Q (.ref c) (σ.set c (.list (List.replicate m.toNat x)))) : binop .Mult (.ref p) (.int m) σ Q := .inr ⟨p, m, x, ⟨rfl, rfl, h1⟩, hc, k⟩
theorem k_at {p : Addr} {xs : List Val} {k : Int} {v : Val} (h1 : σ p = some (.list xs)) (h0 : 0 ≤ k) (hv : xs[k.toNat]? = some v) (q : Q v σ) : subscr (.ref p) (.int k) σ Q := by
  refine .inr (.inr (.inl ⟨p, xs, k, k.toNat, v, ⟨rfl, rfl, h1⟩, ?_, hv, q⟩))
  have := (List.getElem?_eq_some_iff.mp hv).1
  unfold normIdx; rw [if_pos h0, if_pos (by omega)]
theorem k_key {p : Addr} {es : List ((Int × Int) × Val)} {a b : Int} {v : Val} (h1 : σ p = some (.dictP es)) (hv : lookP (a, b) es = some v) (q : Q v σ) : subscr (.ref p) (.tup [.int a, .int b]) σ Q := .inr (.inr (.inr ⟨p, es, a, b, v, ⟨rfl, rfl, h1⟩, hv, q⟩))
theorem k_true {b : Bool} (q : K b σ) : truth (.bool b) σ K := .inr (.inl ⟨b, rfl, q⟩)
theorem k_full {p : Addr} {xs : List Val} (h : σ p = some (.list xs)) (q : K (!xs.isEmpty) σ) : truth (.ref p) σ K := .inr (.inr (.inr ⟨p, xs, ⟨rfl, h⟩, q⟩))
theorem k_eq {x y : Int} (q : K (x == y) σ) : cmpop .Eq (.int x) (.int y) σ K := .inl q
theorem set_self (σ : Store) (a : Addr) (o : AObj) : (σ.set a o) a = some o := if_pos rfl
theorem set_ne (σ : Store) {a b : Addr} (o : AObj) (h : b ≠ a) : (σ.set a o) b = σ b := if_neg h
theorem set_set (σ : Store) (a : Addr) (o o' : AObj) : (σ.set a o).set a o' = σ.set a o' := by
  funext b; unfold Store.set; split <;> rfl
end

noncomputable def bindE : List Str → List Val → List (Str × Val) → List (Str × Val)
  | p :: ps, v :: vs, E => bindE ps vs (setL E p v)
  | _, _, E => E
theorem bindE_lk : ∀ (ps : List Str) (vs : List Val) (E : List (Str × Val)), bindRho ps vs (lk E) = lk (bindE ps vs E)
  | [], _, _ => rfl
  | _ :: _, [], _ => rfl
  | p :: ps, v :: vs, E => by
    show bindRho ps vs (upd (lk E) p v) = lk (bindE ps vs (setL E p v))
    rw [upd_lk]; exact bindE_lk ps vs _
section
variable {prog : Program} {G : Lang} {gl : Str → Option Val} {σ : Store}
theorem Runs.go {d : Nat} {m : Option Addr} {f : Fn} {vs : List Val} {Q : VPost} (fuel : Nat) (U : Runs prog G gl) (hd : 1 ≤ d) (hf : G.has f = true) (E : List (Str × Val)) {ps : List Str} {b : List Stmt} {sc : Scope} (hfn : bodyOf prog f = (ps, b, sc))
    (hk : (vs.length, bindE ps vs []) = (ps.length, E)) (h : exs (G.cx gl (d - 1) m false false fun _ _ => False) fuel sc b (lk E) σ (endQ Q)) : G.call d m f vs σ Q := by
  refine U.run fuel hd hf hfn (congrArg (·.1) hk) ?_
  rw [show (fun _ => none : Rho) = lk [] from rfl, bindE_lk, show bindE ps vs [] = E from congrArg (·.2) hk]; exact h
theorem Runs.tgo {d : Nat} {f : Fn} {vs : List Val} {Q : VPost} (fuel : Nat) (U : Runs prog G gl) (hd : 1 ≤ d) (hf : G.has f = true) (E : List (Str × Val)) {ps : List Str} {b : List Stmt} {sc : Scope} (hfn : bodyOf prog f = (ps, b, sc))
    (hk : (vs.length, bindE ps vs []) = (ps.length, E)) (h : exs (G.cx gl (d - 1) none true true fun _ _ => False) fuel sc b (lk E) σ (endQ Q)) : G.tcall d f vs σ Q := by
  refine U.tops fuel hd hf hfn (congrArg (·.1) hk) ?_
  rw [show (fun _ => none : Rho) = lk [] from rfl, bindE_lk, show bindE ps vs [] = E from congrArg (·.2) hk]; exact h
theorem Runs.rgo {d : Nat} {f : Fn} {vs : List Val} {X : Str → Store → Prop} (fuel : Nat) (U : Runs prog G gl) (hd : 1 ≤ d) (hf : G.has f = true) (E : List (Str × Val)) {ps : List Str} {b : List Stmt} {sc : Scope} (hfn : bodyOf prog f = (ps, b, sc))
    (hk : (vs.length, bindE ps vs []) = (ps.length, E)) (h : exs (G.cx gl (d - 1) none true false X) fuel sc b (lk E) σ fun _ _ _ => False) : G.rcall d f vs σ X := by
  refine U.raises fuel hd hf hfn (congrArg (·.1) hk) ?_
  rw [show (fun _ => none : Rho) = lk [] from rfl, bindE_lk, show bindE ps vs [] = E from congrArg (·.2) hk]; exact h
end
end Mine

set_option linter.unusedVariables false
set_option maxRecDepth 100000
set_option maxHeartbeats 0
namespace Mine
open PySem
abbrev pwL : Program := PySem.Challenge.pw_uf050028_02
noncomputable def fnN : List Str := ["is_whole", "is_point", "need_points", "_law_cell_at", "_law_only", "_law_drawn", "_law_order", "_law_bit", "_law_above", "_law_reached", "_law_ringed", "_law_made", "_law_net", "_law_class", "_law_due", "_law_wrong", "law"]
noncomputable def excN : List Str := ["TieError", "NoPoints", "NoPoint", "NoTie", "TwiceTold", "NoArrow", "Round", "Clash"]
noncomputable def bltN : List (Str × Val) := [("len", .blt "len"), ("isinstance", .blt "isinstance"), ("min", .blt "min"), ("max", .blt "max"), ("range", .typ "range"), ("list", .typ "list"), ("int", .typ "int"), ("bool", .typ "bool"), ("ValueError", .typ "ValueError")]
noncomputable def glT : List (Str × Val) := fnN.map (fun n => (n, Val.fn n)) ++ (excN.map (fun n => (n, Val.cls n)) ++ (((("Net" : Str), Val.cls "Net") :: (("MOST_POINTS" : Str), Val.int 24) :: bltN : List (Str × Val))))
noncomputable def glL (x : Str) : Option Val := glT.lookup x
noncomputable def hasL (f : Fn) : Bool := match f with
  | .top n => fnN.contains n
  | .meth c n => c == "Net" && n == "__init__"
noncomputable def isxL (c : Str) : Bool := excN.contains c
noncomputable def upL (c : Str) : List Str := if isxL c then [c, "TieError"] else []
structure W02 (G : Lang) : Prop where
  U : Runs pwL G glL
  has : G.has = hasL
  isx : G.isx = isxL
  up : G.up = upL
theorem W02.h {G : Lang} (H : W02 G) {f : Fn} (h : hasL f = true) : G.has f = true := (congrFun H.has f).trans h
theorem short_mod {x : Int} : short (x % 1000003) := by
  have h1 := Int.emod_nonneg x (by decide : (1000003 : Int) ≠ 0)
  have h2 := Int.emod_lt_of_pos x (by decide : (0 : Int) < 1000003)
  unfold short; omega
theorem short_mod1 {x : Int} : short (x % 1000003 + 1) := by
  have h1 := Int.emod_nonneg x (by decide : (1000003 : Int) ≠ 0)
  have h2 := Int.emod_lt_of_pos x (by decide : (0 : Int) < 1000003)
  unfold short; omega
section
variable {G : Lang} {d : Nat} {m : Option Addr} {σ : Store} {Q : VPost} (H : W02 G)
include H
theorem s_cell_at {l : List Int} {k : Int} (hd : 1 ≤ d) (hk : 0 ≤ k) (h : ∀ v, Q (.int v) σ) : G.call d m (.top "_law_cell_at") [.scr l, .int k] σ Q := by
  refine H.U.go 20 hd (H.h (by kernel_rfl)) _ (ps := _ :: _) (b := _ :: _) (sc := _) (by with_unfolding_all rfl) rfl ?_
  refine w_if (c := decide (k < l.length)) (by kernel_rfl) (fun hc => ?_) fun hc => ?_
  · have hc := of_decide_eq_true hc
    have hlt : k.toNat < l.length := by omega
    refine w_rete (w_sub rfl (w_pv (v := .scr l) (by kernel_rfl) (w_pv (v := .int k) (by kernel_rfl) (.inr (.inl ⟨l, k, k.toNat, l[k.toNat], ⟨rfl, rfl⟩, ?_, List.getElem?_eq_getElem hlt, h _⟩)))))
    unfold normIdx; rw [if_pos hk, if_pos hc]
  · exact w_nil (w_next (w_ret (v := .int 0) (by kernel_rfl) (h 0)))
theorem s_drawn {cell k : Int} (hd : 1 ≤ d) (h : ∀ v, 0 ≤ v → Q (.int v) σ) : G.call d m (.top "_law_drawn") [.int cell, .int k] σ Q := by
  refine H.U.go 20 hd (H.h (by kernel_rfl)) _ (ps := _ :: _) (b := _ :: _) (sc := _) (by with_unfolding_all rfl) rfl ?_
  refine w_let (by kernel_rfl) (w_bin (w_bin (w_pv (v := .int (cell % 1000003 + 1)) (by kernel_rfl) (w_pv (v := .int (k * 48271 + 11)) (by kernel_rfl) (k_mul (.inl short_mod1) (w_pv (v := .int 1000003) (by kernel_rfl) (k_mod (by decide) ?_)))))))
  generalize hx : (cell % 1000003 + 1) * (k * 48271 + 11) % 1000003 = x
  have sx : short x := hx ▸ short_mod
  refine w_let (by kernel_rfl) (w_bin (w_bin (w_bin (w_bin (w_pv (v := .int x) (by kernel_rfl) (w_pv (v := .int x) (by kernel_rfl) (k_mul (.inl sx) (w_pv (v := .int (k * 7919)) (by kernel_rfl) (k_add (w_pv (v := .int (cell / 1000003)) (by kernel_rfl) (k_add (w_pv (v := .int 1000003) (by kernel_rfl) (k_mod (by decide) ?_)))))))))))))
  generalize hy : (x * x + k * 7919 + cell / 1000003) % 1000003 = y
  have sy : short y := hy ▸ short_mod
  refine w_rete (w_bin (w_bin (w_pv (v := .int y) (by kernel_rfl) (w_pv (v := .int y) (by kernel_rfl) (k_mul (.inl sy) (w_pv (v := .int 1000003) (by kernel_rfl) (k_mod (by decide) (h _ (Int.emod_nonneg _ (by decide))))))))))
theorem s_bit {cell k : Int} (hd : 2 ≤ d) (h : ∀ b, Q (.bool b) σ) : G.call d m (.top "_law_bit") [.int cell, .int k] σ Q := by
  refine H.U.go 20 (by omega) (H.h (by kernel_rfl)) _ (ps := _ :: _) (b := _ :: _) (sc := _) (by with_unfolding_all rfl) rfl ?_
  refine w_rete (w_cmp (w_bin (w_bin (w_fn (vs := [.int (cell + 5), .int (k * 3 + 1)]) (by kernel_rfl) (s_drawn H (by omega) fun v _ => ?_)))))
  exact w_pv (v := .int 5) (by kernel_rfl) (k_div ⟨by decide, by unfold short; decide⟩ (w_pv (v := .int 2) (by kernel_rfl) (k_mod (by decide) (w_cm1 (w_pv (v := .int 1) (by kernel_rfl) (k_eq (h _)))))))
end
end Mine

set_option linter.unusedVariables false
set_option maxRecDepth 100000
set_option maxHeartbeats 0
namespace Mine
open PySem
abbrev nv (x : Str) (v : Val) : Str × Val := (x, v)
theorem range_at {lo hi : Int} {i : Nat} {x : Val} (h : (ofInts (rangeL lo hi))[i]? = some x) : x = .int (lo + i) ∧ lo + i < hi := by
  unfold ofInts rangeL at h
  rw [List.getElem?_map, List.getElem?_map, Option.map_map] at h
  obtain ⟨j, h1, h2⟩ := Option.map_eq_some_iff.mp h
  obtain ⟨h3, h4⟩ := List.getElem?_eq_some_iff.mp h1
  rw [List.getElem_range] at h4
  rw [List.length_range] at h3
  subst h4
  exact ⟨h2.symm, by omega⟩
theorem range_ct (lo hi : Int) : (ofInts (rangeL lo hi)).length = (hi - lo).toNat := by unfold ofInts rangeL; rw [List.length_map, List.length_map, List.length_range]
noncomputable def insInt (xs : List Int) (i : Nat) (v : Int) : List Int := xs.take i ++ v :: xs.drop i
theorem ins_ints (xs : List Int) (i : Nat) (v : Int) : insertAt (ofInts xs) i (.int v) = ofInts (insInt xs i v) := by
  simp only [insertAt, insInt, ofInts, List.map_take, List.map_drop, List.map_append, List.map_cons]
theorem ins_len (xs : List Int) (i : Nat) (v : Int) : (insInt xs i v).length = xs.length + 1 := by
  have := congrArg List.length (List.take_append_drop i xs)
  rw [List.length_append] at this
  simp only [insInt, List.length_append, List.length_cons]; omega
noncomputable def TD (n : Nat) (es : List ((Int × Int) × Val)) : Prop := ∀ e ∈ es, (0 ≤ e.1.1 ∧ e.1.1 < n ∧ 0 ≤ e.1.2 ∧ e.1.2 < n) ∧ ∃ b, e.2 = .bool b
theorem put_mem {k : Int × Int} {v : Val} : ∀ {es : List ((Int × Int) × Val)} {e}, e ∈ putP k v es → e = (k, v) ∨ e ∈ es := by
  intro es
  induction es with
  | nil => intro e h; exact .inl (List.mem_singleton.mp h)
  | cons x r ih =>
    intro e h
    obtain ⟨j, u⟩ := x
    unfold putP at h
    by_cases hj : j = k
    · rw [if_pos hj] at h
      rcases List.mem_cons.mp h with q | q
      · exact .inl (by rw [q, hj])
      · exact .inr (.tail _ q)
    · rw [if_neg hj] at h
      rcases List.mem_cons.mp h with q | q
      · exact .inr (by rw [q]; exact .head _)
      · exact (ih q).imp_right (.tail _)
theorem put_len (k : Int × Int) (v : Val) : ∀ es : List ((Int × Int) × Val), (putP k v es).length ≤ es.length + 1 := by
  intro es
  induction es with
  | nil => exact Nat.le_refl _
  | cons x r ih =>
    obtain ⟨j, u⟩ := x
    unfold putP
    by_cases hj : j = k
    · rw [if_pos hj, List.length_cons, List.length_cons]; omega
    · rw [if_neg hj, List.length_cons, List.length_cons]; omega
theorem TD.put {n : Nat} {es : List ((Int × Int) × Val)} (h : TD n es) {a b : Int} {v : Bool} (ha : 0 ≤ a ∧ a < n ∧ 0 ≤ b ∧ b < n) : TD n (putP (a, b) (.bool v) es) := by
  intro e he
  rcases put_mem he with rfl | he
  · exact ⟨ha, v, rfl⟩
  · exact h e he
theorem look_mem {k : Int × Int} {v : Val} : ∀ {es : List ((Int × Int) × Val)}, lookP k es = some v → (k, v) ∈ es := by
  intro es
  induction es with
  | nil => intro h; exact no_some h
  | cons x r ih =>
    intro h
    obtain ⟨j, u⟩ := x
    unfold lookP at h
    by_cases hj : j = k
    · rw [if_pos hj] at h; rw [← hj, Option.some.inj h]; exact .head _
    · rw [if_neg hj] at h; exact .tail _ (ih h)
section
variable {G : Lang} {d : Nat} {σ : Store} {Q : VPost} (H : W02 G)
include H
theorem s_order {cell : Int} {n : Nat} (hd : 2 ≤ d) (hn : n ≤ 100) (h : ∀ A xs, σ A = none → xs.length = n → Q (.ref A) (σ.set A (.list (ofInts xs)))) : G.call d none (.top "_law_order") [.int cell, .int n] σ Q := by
  refine H.U.go 20 (by omega) (H.h (by kernel_rfl)) _ (ps := _ :: _) (b := _ :: _) (sc := _) (by with_unfolding_all rfl) rfl ?_
  refine w_let (by kernel_rfl) (w_lst (by kernel_rfl) (w_es0 fun A hA => ?_))
  have hc : cap = 1000000 := rfl
  refine w_range (lo := 0) (hi := n) (by kernel_rfl) ⟨by omega, by omega, by omega, by omega⟩ ?_
  refine for_env (fun i E σ' => ∃ xs : List Int, xs.length = i ∧ E = [nv "_law_cell" (.int cell), nv "_law_many" (.int n), nv "_law_found" (.ref A)] ∧ σ' = σ.set A (.list (ofInts xs))) (sub_lk (by kernel_rfl)) ⟨[], rfl, rfl, rfl⟩ (fun i x E σ' K hx hI hn' hr => ?_) fun E σ' hI => ?_
  · obtain ⟨xs, hl, rfl, rfl⟩ := hI
    obtain ⟨rfl, hlt⟩ := range_at hx
    have hol : (ofInts xs).length = i := by unfold ofInts; rw [List.length_map, hl]
    refine w_turn (by kernel_rfl) (w_exp (w_meth (q := A) (xs := ofInts xs) (by kernel_rfl) (set_self _ _ _) (w_es1 (w_bin (w_fn (vs := [.int cell, .int (0 + i)]) (by kernel_rfl) (s_drawn H (by omega) fun v hv => ?_))))))
    have h1 := Int.emod_nonneg v (show (0 + (i : Int) + 1) ≠ 0 by omega)
    have h2 := Int.emod_lt_of_pos v (show (0 : Int) < 0 + i + 1 by omega)
    refine w_pv (v := .int (0 + i + 1)) (by kernel_rfl) (k_mod (by omega) (w_es1 (w_pv (v := .int (0 + i)) (by kernel_rfl) (w_es0 (k_insert (set_self _ _ _) ⟨by omega, h1, by omega⟩ ?_)))))
    exact w_nil (hn' _ _ _ ⟨insInt xs (v % (0 + i + 1)).toNat (0 + i), by rw [ins_len, hl], rfl, by rw [set_set, ins_ints]⟩ (sub_lk (by kernel_rfl)) trivial)
  · obtain ⟨xs, hl, rfl, rfl⟩ := hI
    rw [range_ct] at hl
    exact w_ret (v := .ref A) (by kernel_rfl) (h A xs hA (by omega))
end
end Mine

set_option linter.unusedVariables false
set_option maxRecDepth 100000
set_option maxHeartbeats 0
namespace Mine
open PySem
section
variable {C : Cx} {sc : Scope} {ρ : Rho} {σ : Store} {R : Fl → Rho → Store → Prop} {n : Nat} {r : List Stmt} {Q : VPost} {K : BPost} {E : List (Str × Val)}
theorem k_put {t : Addr} {es : List ((Int × Int) × Val)} {a b : Int} {v : Val} {P : Store → Prop} (h : σ t = some (.dictP es)) (hl : es.length < cap) (k : P (σ.set t (.dictP (putP (a, b) v es)))) : setitem (.ref t) (.tup [.int a, .int b]) v σ P := .inr ⟨t, es, a, b, ⟨rfl, rfl, h⟩, hl, k⟩
theorem k_fn {f : Str} {vs : List Val} (k : C.call (.top f) vs σ Q) : callV C (.fn f) vs σ Q := k
theorem t_and {e : Expr} {es : List Expr} {p : Pos} (h : tst C n sc e ρ σ fun b σ₁ => (b = false → K false σ₁) ∧ (b = true → tstAll C n sc .And es ρ σ₁ K)) : tst C (n + 2) sc (.BoolOp .And (e :: es) p) ρ σ K := h
theorem t_and1 {e : Expr} {es : List Expr} (h : tst C n sc e ρ σ fun b σ₁ => (b = false → K false σ₁) ∧ (b = true → tstAll C n sc .And es ρ σ₁ K)) : tstAll C (n + 1) sc .And (e :: es) ρ σ K := h
theorem t_and0 (h : K true σ) : tstAll C (n + 1) sc .And [] ρ σ K := h
theorem t_or {e : Expr} {es : List Expr} {p : Pos} (h : tst C n sc e ρ σ fun b σ₁ => (b = true → K true σ₁) ∧ (b = false → tstAll C n sc .Or es ρ σ₁ K)) : tst C (n + 2) sc (.BoolOp .Or (e :: es) p) ρ σ K := h
theorem t_or1 {e : Expr} {es : List Expr} (h : tst C n sc e ρ σ fun b σ₁ => (b = true → K true σ₁) ∧ (b = false → tstAll C n sc .Or es ρ σ₁ K)) : tstAll C (n + 1) sc .Or (e :: es) ρ σ K := h
theorem t_or0 (h : K false σ) : tstAll C (n + 1) sc .Or [] ρ σ K := h
theorem t_not {e : Expr} {p : Pos} (h : tst C n sc e ρ σ fun b σ₁ => K (!b) σ₁) : tst C (n + 1) sc (.UnaryOp .Not e p) ρ σ K := h
theorem t_cmp {l ops rs p} (h : ev C n sc l ρ σ fun a σ₁ => evCmp C n sc a ops rs ρ σ₁ K) : tst C (n + 1) sc (.Compare l ops rs p) ρ σ K := h
theorem t_sub {o i : Expr} {p : Pos} (h : ev C n sc (.Subscript o i p) ρ σ fun v σ₁ => truth v σ₁ K) : tst C (n + 1) sc (.Subscript o i p) ρ σ K := h
theorem t_name {x : Str} {p : Pos} (h : ev C n sc (.Name x p) ρ σ fun v σ₁ => truth v σ₁ K) : tst C (n + 1) sc (.Name x p) ρ σ K := h
theorem t_call {f as ks p} (h : ev C n sc (.Call f as ks p) ρ σ fun v σ₁ => truth v σ₁ K) : tst C (n + 1) sc (.Call f as ks p) ρ σ K := h
theorem k_lt {x y : Int} (q : K (decide (x < y)) σ) : cmpop .Lt (.int x) (.int y) σ K := q
theorem k_ge {x y : Int} (q : K (decide (x ≥ y)) σ) : cmpop .GtE (.int x) (.int y) σ K := q
noncomputable def forK (C : Cx) (n m : Nat) (sc : Scope) (t : Expr) (b : List Stmt) (r : List Stmt) (R : Fl → Rho → Store → Prop) (ρ : Rho) (v : Val) (σ₁ : Store) : Prop := match itemsOf σ₁ v with
  | some items => forLoop (forStep (exs C n sc b) C.pairOk sc t) C.calm (still σ₁ v) items ρ σ₁ (seqK C m sc r R)
  | Option.none => False
theorem w_for {t it : Expr} {b : List Stmt} {p : Pos} (k : ev C n sc it ρ σ (forK C n (n + 1) sc t b r R ρ)) : exs C (n + 2) sc (.For t it b [] p :: r) ρ σ R := k
theorem forK_list {t : Expr} {b : List Stmt} {m : Nat} {a : Addr} {xs : List Val} (hl : σ a = some (.list xs)) (k : forLoop (forStep (exs C n sc b) C.pairOk sc t) C.calm (fun σ' => σ' a = some (.list xs)) xs ρ σ (seqK C m sc r R)) : forK C n m sc t b r R ρ (.ref a) σ := by
  have e : itemsOf σ (.ref a) = some xs := by unfold itemsOf; dsimp only; rw [hl]
  unfold forK
  rw [e]
  have e2 : still σ (.ref a) = fun σ' => σ' a = some (.list xs) := by unfold still; dsimp only; rw [hl]
  rw [e2]; exact k
end
theorem short_nat {i : Int} (h0 : 0 ≤ i) (h : i ≤ 100000) : short i := by unfold short; omega
theorem ints_at {xs : List Int} {k : Int} (h0 : 0 ≤ k) (h : k < xs.length) : ∃ v, (ofInts xs)[k.toNat]? = some (.int v) := by
  have : k.toNat < xs.length := by omega
  exact ⟨xs[k.toNat], by unfold ofInts; rw [List.getElem?_map, List.getElem?_eq_getElem this]; rfl⟩
theorem look_put {k k' : Int × Int} {v : Val} : ∀ {es : List ((Int × Int) × Val)}, (k' = k ∨ (lookP k' es).isSome = true) → (lookP k' (putP k v es)).isSome = true := by
  intro es
  induction es with
  | nil =>
    intro h
    rcases h with rfl | h
    · unfold putP lookP; rw [if_pos rfl]; rfl
    · exact absurd h Bool.false_ne_true
  | cons x r ih =>
    intro h
    obtain ⟨j, u⟩ := x
    unfold putP
    by_cases hj : j = k
    · rw [if_pos hj]
      unfold lookP
      by_cases hk : j = k'
      · rw [if_pos hk]; rfl
      · rw [if_neg hk]
        rcases h with rfl | h
        · exact absurd hj hk
        · unfold lookP at h; rw [if_neg hk] at h; exact h
    · rw [if_neg hj]
      unfold lookP
      by_cases hk : j = k'
      · rw [if_pos hk]; rfl
      · rw [if_neg hk]
        refine ih (h.imp_right fun h => ?_)
        unfold lookP at h; rw [if_neg hk] at h; exact h
theorem put_old {k : Int × Int} {v : Val} : ∀ {es : List ((Int × Int) × Val)}, (lookP k es).isSome = true → (putP k v es).length = es.length := by
  intro es
  induction es with
  | nil => intro h; exact absurd h Bool.false_ne_true
  | cons x r ih =>
    intro h
    obtain ⟨j, u⟩ := x
    unfold putP
    unfold lookP at h
    by_cases hj : j = k
    · rw [if_pos hj]; rfl
    · rw [if_neg hj] at h ⊢
      rw [List.length_cons, List.length_cons, ih h]
theorem TD.nil (n : Nat) : TD n [] := fun _ h => by cases h
theorem TD.look {n : Nat} {es : List ((Int × Int) × Val)} (h : TD n es) {k : Int × Int} (hs : (lookP k es).isSome = true) : ∃ b, lookP k es = some (.bool b) := by
  obtain ⟨v, hv⟩ := Option.isSome_iff_exists.mp hs
  obtain ⟨_, b, hb⟩ := h _ (look_mem hv)
  exact ⟨b, by rw [hv]; exact congrArg some hb⟩
section
variable {G : Lang} {d : Nat} {σ : Store} {Q : VPost} (H : W02 G)
include H
theorem s_above {n : Nat} {fa sa : Addr} {xs ys : List Int} (hd : 1 ≤ d) (hn : n ≤ 100) (h1 : σ fa = some (.list (ofInts xs))) (hx : xs.length = n) (h2 : σ sa = some (.list (ofInts ys))) (hy : ys.length = n)
    (h : ∀ t es, σ t = none → TD n es → es.length ≤ n * n → Q (.ref t) (σ.set t (.dictP es))) : G.call d none (.top "_law_above") [.int n, .ref fa, .ref sa] σ Q := by
  refine H.U.go 30 (by omega) (H.h (by kernel_rfl)) _ (ps := _ :: _) (b := _ :: _) (sc := _) (by with_unfolding_all rfl) rfl ?_
  refine w_let (by kernel_rfl) (w_dict fun t ht => ?_)
  have hc : cap = 1000000 := rfl
  have nf : fa ≠ t := by rintro rfl; rw [ht] at h1; cases h1
  have ns : sa ≠ t := by rintro rfl; rw [ht] at h2; cases h2
  refine w_range (lo := 0) (hi := n) (by kernel_rfl) ⟨by omega, by omega, by omega, by omega⟩ ?_
  refine for_env (fun i E σ' => ∃ es, TD n es ∧ es.length ≤ i * n ∧ E = [nv "_law_many" (.int n), nv "_law_first" (.ref fa), nv "_law_second" (.ref sa), nv "_law_found" (.ref t)] ∧ σ' = σ.set t (.dictP es)) (sub_lk (by kernel_rfl)) ⟨[], TD.nil n, by rw [Nat.zero_mul]; exact Nat.le_refl _, rfl, rfl⟩ (fun i x E σ' K hx hI hn' hr => ?_) fun E σ' hI => ?_
  · obtain ⟨es, ht1, hl, rfl, rfl⟩ := hI
    obtain ⟨rfl, hlt⟩ := range_at hx
    refine w_turn (by kernel_rfl) (w_range (lo := 0) (hi := n) (by kernel_rfl) ⟨by omega, by omega, by omega, by omega⟩ ?_)
    refine for_env (fun j E σ' => ∃ es, TD n es ∧ es.length ≤ i * n + j ∧ E = [nv "_law_many" (.int n), nv "_law_first" (.ref fa), nv "_law_second" (.ref sa), nv "_law_found" (.ref t), nv "_law_one" (.int (0 + i))] ∧ σ' = σ.set t (.dictP es)) (sub_lk (by kernel_rfl)) ⟨es, ht1, by omega, rfl, rfl⟩ (fun j x E σ' K hx hI hn' hr => ?_) fun E σ' hI => ?_
    · obtain ⟨es, ht1, hl, rfl, rfl⟩ := hI
      obtain ⟨rfl, hlt'⟩ := range_at hx
      have hin : i * n + n ≤ n * n := by
        have : (i + 1) * n ≤ n * n := Nat.mul_le_mul_right n (by omega)
        rw [Nat.add_mul, Nat.one_mul] at this; exact this
      have hnn : n * n ≤ 10000 := Nat.mul_le_mul hn hn
      obtain ⟨a1, e1⟩ := ints_at (xs := xs) (k := 0 + (i : Int)) (by omega) (by omega)
      obtain ⟨a2, e2⟩ := ints_at (xs := xs) (k := 0 + (j : Int)) (by omega) (by omega)
      obtain ⟨b1, e3⟩ := ints_at (xs := ys) (k := 0 + (i : Int)) (by omega) (by omega)
      obtain ⟨b2, e4⟩ := ints_at (xs := ys) (k := 0 + (j : Int)) (by omega) (by omega)
      have hf : (σ.set t (.dictP es)) fa = some (.list (ofInts xs)) := (set_ne _ _ nf).trans h1
      have hs : (σ.set t (.dictP es)) sa = some (.list (ofInts ys)) := (set_ne _ _ ns).trans h2
      refine w_turn (by kernel_rfl) (w_let (by kernel_rfl) (w_cmp (w_sub rfl (w_pv (v := .ref fa) (by kernel_rfl) (w_pv (v := .int (0 + i)) (by kernel_rfl) (k_at hf (by omega) e1 (w_cm1 (w_sub rfl (w_pv (v := .ref fa) (by kernel_rfl) (w_pv (v := .int (0 + j)) (by kernel_rfl) (k_at hf (by omega) e2 (k_lt ?_)))))))))))) 
      generalize decide (a1 < a2) = u
      refine w_asub (w_and (w_pv (v := .bool u) (by kernel_rfl) (k_true ⟨fun hb => ?_, fun hb => ?_⟩)))
      · refine subK_D (t := t) (a := 0 + i) (b := 0 + j) (by kernel_rfl) (set_self _ _ _) (by omega) (w_nil (hn' _ _ _ ⟨_, ht1.put (a := 0 + i) (b := 0 + j) (v := u) ⟨by omega, by omega, by omega, by omega⟩, ?_, rfl, by rw [set_set]⟩ (sub_lk (by kernel_rfl)) trivial))
        have := put_len (0 + (i : Int), 0 + (j : Int)) (.bool u) es; omega
      · refine w_and1 (w_cmp (w_sub rfl (w_pv (v := .ref sa) (by kernel_rfl) (w_pv (v := .int (0 + i)) (by kernel_rfl) (k_at hs (by omega) e3 (w_cm1 (w_sub rfl (w_pv (v := .ref sa) (by kernel_rfl) (w_pv (v := .int (0 + j)) (by kernel_rfl) (k_at hs (by omega) e4 (k_lt ?_)))))))))))
        generalize decide (b1 < b2) = u'
        refine subK_D (t := t) (a := 0 + i) (b := 0 + j) (by kernel_rfl) (set_self _ _ _) (by omega) (w_nil (hn' _ _ _ ⟨_, ht1.put (a := 0 + i) (b := 0 + j) (v := u') ⟨by omega, by omega, by omega, by omega⟩, ?_, rfl, by rw [set_set]⟩ (sub_lk (by kernel_rfl)) trivial))
        have := put_len (0 + (i : Int), 0 + (j : Int)) (.bool u') es; omega
    · obtain ⟨es, ht1, hl, rfl, rfl⟩ := hI
      rw [range_ct] at hl
      refine w_nil (hn' _ _ _ ⟨es, ht1, ?_, rfl, rfl⟩ (sub_lk (by kernel_rfl)) trivial)
      have : ((n : Int) - 0).toNat = n := by omega
      rw [this] at hl
      rw [Nat.add_mul, Nat.one_mul]; exact hl
  · obtain ⟨es, ht1, hl, rfl, rfl⟩ := hI
    rw [range_ct, show ((n : Int) - 0).toNat = n by omega] at hl
    exact w_ret (v := .ref t) (by kernel_rfl) (h t es ht ht1 hl)
end
end Mine

set_option linter.unusedVariables false
set_option maxRecDepth 100000
set_option maxHeartbeats 0
namespace Mine
open PySem
theorem sq_step {i n : Nat} (h : i < n) : i * n + n ≤ n * n := by
  have : (i + 1) * n ≤ n * n := Nat.mul_le_mul_right n h
  rw [Nat.add_mul, Nat.one_mul] at this; exact this
section
variable {G : Lang} {d : Nat} {σ : Store} {Q : VPost} (H : W02 G)
include H
theorem s_reached {n : Nat} {cell : Int} (hd : 3 ≤ d) (hn : n ≤ 100) (h : ∀ t es, σ t = none → TD n es → es.length ≤ n * n → Q (.ref t) (σ.set t (.dictP es))) : G.call d none (.top "_law_reached") [.int n, .int cell] σ Q := by
  refine H.U.go 30 (by omega) (H.h (by kernel_rfl)) _ (ps := _ :: _) (b := _ :: _) (sc := _) (by with_unfolding_all rfl) rfl ?_
  refine w_let (by kernel_rfl) (w_dict fun t ht => ?_)
  have hc : cap = 1000000 := rfl
  have hnn : n * n ≤ 10000 := Nat.mul_le_mul hn hn
  have hz : ((n : Int) - 0).toNat = n := by omega
  refine w_range (lo := 0) (hi := n) (by kernel_rfl) ⟨by omega, by omega, by omega, by omega⟩ ?_
  refine for_env (fun i E σ' => ∃ es, TD n es ∧ es.length ≤ i * n ∧ (∀ a b : Int, 0 ≤ a → a < i → 0 ≤ b → b < n → (lookP (a, b) es).isSome = true) ∧ E = [nv "_law_many" (.int n), nv "_law_cell" (.int cell), nv "_law_found" (.ref t)] ∧ σ' = σ.set t (.dictP es)) (sub_lk (by kernel_rfl)) ⟨[], TD.nil n, by rw [Nat.zero_mul]; exact Nat.le_refl _, fun a b h1 h2 => by omega, rfl, rfl⟩ (fun i x E σ' K hx hI hn' hr => ?_) fun E σ' hI => ?_
  · obtain ⟨es, ht1, hl, hfu, rfl, rfl⟩ := hI
    obtain ⟨rfl, hlt⟩ := range_at hx
    have hin := sq_step (i := i) (n := n) (by omega)
    refine w_turn (by kernel_rfl) (w_range (lo := 0) (hi := n) (by kernel_rfl) ⟨by omega, by omega, by omega, by omega⟩ ?_)
    refine for_env (fun j E σ' => ∃ es, TD n es ∧ es.length ≤ i * n + j ∧ (∀ a b : Int, 0 ≤ a → 0 ≤ b → b < n → (a < i ∨ a = i ∧ b < j) → (lookP (a, b) es).isSome = true) ∧ E = [nv "_law_many" (.int n), nv "_law_cell" (.int cell), nv "_law_found" (.ref t), nv "_law_one" (.int (0 + i))] ∧ σ' = σ.set t (.dictP es)) (sub_lk (by kernel_rfl)) ⟨es, ht1, by omega, fun a b h1 h2 h3 h4 => hfu a b h1 (by omega) h2 h3, rfl, rfl⟩ (fun j x E σ' K hx hI hn' hr => ?_) fun E σ' hI => ?_
    · obtain ⟨es, ht1, hl, hfu, rfl, rfl⟩ := hI
      obtain ⟨rfl, hlt'⟩ := range_at hx
      have key : ∀ u : Bool, (∃ es', TD n es' ∧ es'.length ≤ i * n + (j + 1) ∧ (∀ a b : Int, 0 ≤ a → 0 ≤ b → b < n → (a < i ∨ a = i ∧ b < ((j + 1 : Nat) : Int)) → (lookP (a, b) es').isSome = true) ∧ [nv "_law_many" (.int n), nv "_law_cell" (.int cell), nv "_law_found" (.ref t), nv "_law_one" (.int (0 + i))] = [nv "_law_many" (.int n), nv "_law_cell" (.int cell), nv "_law_found" (.ref t), nv "_law_one" (.int (0 + i))] ∧ (σ.set t (.dictP es)).set t (.dictP (putP (0 + (i : Int), 0 + (j : Int)) (.bool u) es)) = σ.set t (.dictP es')) := fun u => by
        refine ⟨_, ht1.put (a := 0 + i) (b := 0 + j) (v := u) ⟨by omega, by omega, by omega, by omega⟩, ?_, fun a b h1 h2 h3 h4 => look_put ?_, rfl, by rw [set_set]⟩
        · have := put_len (0 + (i : Int), 0 + (j : Int)) (.bool u) es; omega
        · by_cases hab : a = 0 + (i : Int) ∧ b = 0 + (j : Int)
          · exact .inl (by rw [hab.1, hab.2])
          · exact .inr (hfu a b h1 h2 h3 (by omega))
      refine w_turn (by kernel_rfl) (w_asub (w_and (w_pv (v := .bool (decide (0 + (i : Int) < 0 + (j : Int)))) (by kernel_rfl) (k_true ⟨fun hb => ?_, fun hb => ?_⟩))))
      · exact subK_D (t := t) (a := 0 + i) (b := 0 + j) (by kernel_rfl) (set_self _ _ _) (by omega) (w_nil (hn' _ _ _ (key _) (sub_lk (by kernel_rfl)) trivial))
      · refine w_and1 (w_call (fv := .fn "_law_bit") (by kernel_rfl) (w_es1 (w_pv (v := .int cell) (by kernel_rfl) (w_es1 (w_bin (w_bin (w_pv (v := .int (0 + i)) (by kernel_rfl) (w_pv (v := .int n) (by kernel_rfl) (k_mul (.inl (short_nat (by omega) (by omega))) (w_pv (v := .int (0 + j)) (by kernel_rfl) (k_add (w_es0 (k_fn (s_bit H (by omega) fun u => ?_))))))))))))))
        exact subK_D (t := t) (a := 0 + i) (b := 0 + j) (by kernel_rfl) (set_self _ _ _) (by omega) (w_nil (hn' _ _ _ (key u) (sub_lk (by kernel_rfl)) trivial))
    · obtain ⟨es, ht1, hl, hfu, rfl, rfl⟩ := hI
      rw [range_ct, hz] at hl hfu
      exact w_nil (hn' _ _ _ ⟨es, ht1, by rw [Nat.add_mul, Nat.one_mul]; exact hl, fun a b h1 h2 h3 h4 => hfu a b h1 h3 h4 (by omega), rfl, rfl⟩ (sub_lk (by kernel_rfl)) trivial)
  · obtain ⟨es, ht1, hl, hfu, rfl, rfl⟩ := hI
    rw [range_ct, hz] at hl hfu
    refine w_next (w_range (lo := 0) (hi := n) (by kernel_rfl) ⟨by omega, by omega, by omega, by omega⟩ ?_)
    refine for_env (fun i E σ' => ∃ es, TD n es ∧ es.length ≤ n * n ∧ (∀ a b : Int, 0 ≤ a → a < n → 0 ≤ b → b < n → (lookP (a, b) es).isSome = true) ∧ E = [nv "_law_many" (.int n), nv "_law_found" (.ref t)] ∧ σ' = σ.set t (.dictP es)) (sub_lk (by kernel_rfl)) ⟨es, ht1, hl, hfu, rfl, rfl⟩ (fun i x E σ' K hx hI hn' hr => ?_) fun E σ' hI => ?_
    · obtain ⟨es, ht1, hl, hfu, rfl, rfl⟩ := hI
      obtain ⟨rfl, hlt⟩ := range_at hx
      refine w_turn (by kernel_rfl) (w_range (lo := 0) (hi := 0 + i) (by kernel_rfl) ⟨by omega, by omega, by omega, by omega⟩ ?_)
      refine for_env (fun j E σ' => ∃ es, TD n es ∧ es.length ≤ n * n ∧ (∀ a b : Int, 0 ≤ a → a < n → 0 ≤ b → b < n → (lookP (a, b) es).isSome = true) ∧ E = [nv "_law_many" (.int n), nv "_law_found" (.ref t), nv "_law_middle" (.int (0 + i))] ∧ σ' = σ.set t (.dictP es)) (sub_lk (by kernel_rfl)) ⟨es, ht1, hl, hfu, rfl, rfl⟩ (fun j x E σ' K hx hI hn' hr => ?_) fun E σ' hI => ?_
      · obtain ⟨es, ht1, hl, hfu, rfl, rfl⟩ := hI
        obtain ⟨rfl, hltj⟩ := range_at hx
        refine w_turn (by kernel_rfl) (w_range (lo := 0 + i + 1) (hi := n) (by kernel_rfl) ⟨by omega, by omega, by omega, by omega⟩ ?_)
        refine for_env (fun k E σ' => ∃ es, TD n es ∧ es.length ≤ n * n ∧ (∀ a b : Int, 0 ≤ a → a < n → 0 ≤ b → b < n → (lookP (a, b) es).isSome = true) ∧ E = [nv "_law_many" (.int n), nv "_law_found" (.ref t), nv "_law_middle" (.int (0 + i)), nv "_law_one" (.int (0 + j))] ∧ σ' = σ.set t (.dictP es)) (sub_lk (by kernel_rfl)) ⟨es, ht1, hl, hfu, rfl, rfl⟩ (fun k x E σ' K hx hI hn' hr => ?_) fun E σ' hI => ?_
        · obtain ⟨es, ht1, hl, hfu, rfl, rfl⟩ := hI
          obtain ⟨rfl, hltk⟩ := range_at hx
          obtain ⟨u1, e1⟩ := ht1.look (hfu (0 + j) (0 + i) (by omega) (by omega) (by omega) (by omega))
          obtain ⟨u2, e2⟩ := ht1.look (hfu (0 + i) (0 + i + 1 + k) (by omega) (by omega) (by omega) (by omega))
          have same : ∀ (ρ : Rho), Sub (lk [nv "_law_many" (.int n), nv "_law_found" (.ref t), nv "_law_middle" (.int (0 + i)), nv "_law_one" (.int (0 + j))]) ρ → K .next ρ (σ.set t (.dictP es)) := fun ρ hρ => hn' _ _ _ ⟨es, ht1, hl, hfu, rfl, rfl⟩ hρ trivial
          refine w_turn (by kernel_rfl) (w_ift (t_and (t_sub (w_sub rfl (w_pv (v := .ref t) (by kernel_rfl) (w_pv (v := .tup [.int (0 + j), .int (0 + i)]) (by kernel_rfl) (k_key (set_self _ _ _) e1 (k_true ⟨fun hb => ?_, fun hb => ?_⟩))))))))
          · exact ⟨fun q => absurd q Bool.false_ne_true, fun _ => w_nil (w_next (w_nil (same _ (sub_lk (by kernel_rfl)))))⟩
          · refine t_and1 (t_sub (w_sub rfl (w_pv (v := .ref t) (by kernel_rfl) (w_pv (v := .tup [.int (0 + i), .int (0 + i + 1 + k)]) (by kernel_rfl) (k_key (set_self _ _ _) e2 (k_true ⟨fun hb => ?_, fun hb => t_and0 ?_⟩))))))
            · exact ⟨fun q => absurd q Bool.false_ne_true, fun _ => w_nil (w_next (w_nil (same _ (sub_lk (by kernel_rfl)))))⟩
            · refine ⟨fun _ => ?_, fun q => absurd q.symm Bool.false_ne_true⟩
              refine w_asub (w_pv (v := .bool true) (by kernel_rfl) (subK_D (t := t) (a := 0 + j) (b := 0 + i + 1 + k) (by kernel_rfl) (set_self _ _ _) (by omega) (w_nil (w_next (w_nil (hn' _ _ _ ⟨_, ht1.put (a := 0 + j) (b := 0 + i + 1 + k) (v := true) ⟨by omega, by omega, by omega, by omega⟩, ?_, fun a b h1 h2 h3 h4 => look_put (.inr (hfu a b h1 h2 h3 h4)), rfl, by rw [set_set]⟩ (sub_lk (by kernel_rfl)) trivial))))))
              rw [put_old (hfu (0 + j) (0 + i + 1 + k) (by omega) (by omega) (by omega) (by omega))]; exact hl
        · exact w_nil (hn' _ _ _ (by obtain ⟨es, a, b, c, rfl, e⟩ := hI; exact ⟨es, a, b, c, rfl, e⟩) (by obtain ⟨es, a, b, c, rfl, e⟩ := hI; exact sub_lk (by kernel_rfl)) trivial)
      · exact w_nil (hn' _ _ _ (by obtain ⟨es, a, b, c, rfl, e⟩ := hI; exact ⟨es, a, b, c, rfl, e⟩) (by obtain ⟨es, a, b, c, rfl, e⟩ := hI; exact sub_lk (by kernel_rfl)) trivial)
    · obtain ⟨es, ht1, hl, hfu, rfl, rfl⟩ := hI
      exact w_ret (v := .ref t) (by kernel_rfl) (h t es ht ht1 hl)
theorem s_ringed {n : Nat} {cell : Int} (hd : 3 ≤ d) (hn : n ≤ 100) (hn3 : 3 ≤ n) (h : ∀ t es, σ t = none → TD n es → es.length ≤ 2 * n → Q (.ref t) (σ.set t (.dictP es))) : G.call d none (.top "_law_ringed") [.int n, .int cell] σ Q := by
  refine H.U.go 30 (by omega) (H.h (by kernel_rfl)) _ (ps := _ :: _) (b := _ :: _) (sc := _) (by with_unfolding_all rfl) rfl ?_
  refine w_let (by kernel_rfl) (w_dict fun t ht => ?_)
  have hc : cap = 1000000 := rfl
  have hz : ((n : Int) - 0).toNat = n := by omega
  refine w_range (lo := 0) (hi := n) (by kernel_rfl) ⟨by omega, by omega, by omega, by omega⟩ ?_
  refine for_env (fun i E σ' => ∃ es, TD n es ∧ es.length ≤ 2 * i ∧ E = [nv "_law_many" (.int n), nv "_law_cell" (.int cell), nv "_law_found" (.ref t)] ∧ σ' = σ.set t (.dictP es)) (sub_lk (by kernel_rfl)) ⟨[], TD.nil n, Nat.le_refl _, rfl, rfl⟩ (fun i x E σ' K hx hI hn' hr => ?_) fun E σ' hI => ?_
  · obtain ⟨es, ht1, hl, rfl, rfl⟩ := hI
    obtain ⟨rfl, hlt⟩ := range_at hx
    have m1 := Int.emod_nonneg (0 + (i : Int) + 1) (show (n : Int) ≠ 0 by omega)
    have m2 := Int.emod_lt_of_pos (0 + (i : Int) + 1) (show (0 : Int) < n by omega)
    have m3 := Int.emod_nonneg (0 + (i : Int) + 3) (show (n : Int) ≠ 0 by omega)
    have m4 := Int.emod_lt_of_pos (0 + (i : Int) + 3) (show (0 : Int) < n by omega)
    have l1 := put_len (0 + (i : Int), (0 + (i : Int) + 1) % n) (.bool true) es
    have t1 := ht1.put (a := 0 + i) (b := (0 + (i : Int) + 1) % n) (v := true) ⟨by omega, by omega, m1, m2⟩
    refine w_turn (by kernel_rfl) (w_asub (w_pv (v := .bool true) (by kernel_rfl) (w_pv (v := .ref t) (by kernel_rfl) (w_tup (by kernel_rfl) (w_es1 (w_pv (v := .int (0 + i)) (by kernel_rfl) (w_es1 (w_bin (w_pv (v := .int (0 + i + 1)) (by kernel_rfl) (w_pv (v := .int n) (by kernel_rfl) (k_mod (by omega) (w_es0 (k_put (set_self _ _ _) (by omega) ?_)))))))))))))
    rw [set_set]
    refine w_if (c := (cell % 3 == 1) && (decide (0 + (i : Int) > 0) && (decide ((n : Int) > 6) && true))) (by kernel_rfl) (fun _ => ?_) fun _ => w_nil (w_next (w_nil (hn' _ _ _ ⟨_, t1, by omega, rfl, rfl⟩ (sub_lk (by kernel_rfl)) trivial)))
    refine w_asub (w_fn (vs := [.int cell, .int (0 + i)]) (by kernel_rfl) (s_bit H (by omega) fun u => ?_))
    have l2 := put_len (0 + (i : Int), (0 + (i : Int) + 3) % n) (.bool u) (putP (0 + (i : Int), (0 + (i : Int) + 1) % n) (.bool true) es)
    refine w_pv (v := .ref t) (by kernel_rfl) (w_tup (by kernel_rfl) (w_es1 (w_pv (v := .int (0 + i)) (by kernel_rfl) (w_es1 (w_bin (w_pv (v := .int (0 + i + 3)) (by kernel_rfl) (w_pv (v := .int n) (by kernel_rfl) (k_mod (by omega) (w_es0 (k_put (set_self _ _ _) (by omega) ?_))))))))))
    exact w_nil (w_next (w_nil (hn' _ _ _ ⟨_, t1.put (a := 0 + i) (b := (0 + (i : Int) + 3) % n) (v := u) ⟨by omega, by omega, m3, m4⟩, by omega, rfl, by rw [set_set]⟩ (sub_lk (by kernel_rfl)) trivial)))
  · obtain ⟨es, ht1, hl, rfl, rfl⟩ := hI
    rw [range_ct, hz] at hl
    exact w_ret (v := .ref t) (by kernel_rfl) (h t es ht ht1 hl)
end
end Mine

set_option linter.unusedVariables false
set_option maxRecDepth 100000
set_option maxHeartbeats 0
namespace Mine
open PySem
noncomputable def Ext (σ σ' : Store) : Prop := ∀ a o, σ a = some o → σ' a = some o
theorem Ext.refl (σ : Store) : Ext σ σ := fun _ _ h => h
theorem Ext.trans {a b c : Store} (h : Ext a b) (h' : Ext b c) : Ext a c := fun x o e => h' x o (h x o e)
theorem Ext.upd {σ σ' : Store} (h : Ext σ σ') {c : Addr} {o : AObj} (hc : σ c = none) : Ext σ (σ'.set c o) := fun x ob e => (set_ne _ _ (by rintro rfl; rw [hc] at e; cases e)).trans (h x ob e)
theorem Ext.off {σ σ' : Store} (h : Ext σ σ') {c : Addr} (hc : σ' c = none) : σ c = none := by
  cases hs : σ c with
  | none => rfl
  | some o => rw [h c o hs] at hc; cases hc
theorem ne_of {σ : Store} {a b : Addr} {o : AObj} (h : σ a = some o) (hb : σ b = none) : a ≠ b := by rintro rfl; rw [hb] at h; cases h
section
variable {G : Lang} {d : Nat} {σ : Store} {Q : VPost} (H : W02 G)
include H
theorem s_made {n : Nat} {way cell : Int} (hd : 4 ≤ d) (hn : n ≤ 100) (h3 : way = 5 → 3 ≤ n) (h : ∀ t es σ', Ext σ σ' → σ' t = some (.dictP es) → TD n es → es.length ≤ 10000 → Q (.ref t) σ') : G.call d none (.top "_law_made") [.int way, .int n, .int cell] σ Q := by
  refine H.U.go 30 (by omega) (H.h (by kernel_rfl)) _ (ps := _ :: _) (b := _ :: _) (sc := _) (by with_unfolding_all rfl) rfl ?_
  refine w_let (by kernel_rfl) (w_dict fun t ht => ?_)
  have hc : cap = 1000000 := rfl
  have hnn : n * n ≤ 10000 := Nat.mul_le_mul hn hn
  have hz : ((n : Int) - 0).toNat = n := by omega
  have xt : ∀ es, Ext σ (σ.set t (.dictP es)) := fun es => (Ext.refl σ).upd ht
  refine w_if (c := decide (way < 2)) (by kernel_rfl) (fun _ => ?_) fun _ => w_nil (w_next ?_)
  · refine w_range (lo := 0) (hi := n) (by kernel_rfl) ⟨by omega, by omega, by omega, by omega⟩ ?_
    refine for_env (fun i E σ' => ∃ es, TD n es ∧ es.length ≤ i * n ∧ E = [nv "_law_many" (.int n), nv "_law_cell" (.int cell), nv "_law_found" (.ref t)] ∧ σ' = σ.set t (.dictP es)) (sub_lk (by kernel_rfl)) ⟨[], TD.nil n, by rw [Nat.zero_mul]; exact Nat.le_refl _, rfl, rfl⟩ (fun i x E σ' K hx hI hn' hr => ?_) fun E σ' hI => ?_
    · obtain ⟨es, ht1, hl, rfl, rfl⟩ := hI
      obtain ⟨rfl, hlt⟩ := range_at hx
      have hin := sq_step (i := i) (n := n) (by omega)
      refine w_turn (by kernel_rfl) (w_range (lo := 0) (hi := 0 + i) (by kernel_rfl) ⟨by omega, by omega, by omega, by omega⟩ ?_)
      refine for_env (fun j E σ' => ∃ es, TD n es ∧ es.length ≤ i * n + j ∧ E = [nv "_law_many" (.int n), nv "_law_cell" (.int cell), nv "_law_found" (.ref t), nv "_law_one" (.int (0 + i))] ∧ σ' = σ.set t (.dictP es)) (sub_lk (by kernel_rfl)) ⟨es, ht1, by omega, rfl, rfl⟩ (fun j x E σ' K hx hI hn' hr => ?_) fun E σ' hI => ?_
      · obtain ⟨es, ht1, hl, rfl, rfl⟩ := hI
        obtain ⟨rfl, hlt'⟩ := range_at hx
        refine w_turn (by kernel_rfl) (w_asub (w_call (fv := .fn "_law_bit") (by kernel_rfl) (w_es1 (w_pv (v := .int cell) (by kernel_rfl) (w_es1 (w_bin (w_bin (w_pv (v := .int (0 + i)) (by kernel_rfl) (w_pv (v := .int n) (by kernel_rfl) (k_mul (.inl (short_nat (by omega) (by omega))) (w_pv (v := .int (0 + j)) (by kernel_rfl) (k_add (w_es0 (k_fn (s_bit H (by omega) fun u => ?_)))))))))))))))
        have := put_len (0 + (i : Int), 0 + (j : Int)) (.bool u) es
        exact subK_D (t := t) (a := 0 + i) (b := 0 + j) (by kernel_rfl) (set_self _ _ _) (by omega) (w_nil (hn' _ _ _ ⟨_, ht1.put (a := 0 + i) (b := 0 + j) (v := u) ⟨by omega, by omega, by omega, by omega⟩, by omega, rfl, by rw [set_set]⟩ (sub_lk (by kernel_rfl)) trivial))
      · obtain ⟨es, ht1, hl, rfl, rfl⟩ := hI
        rw [range_ct] at hl
        exact w_nil (hn' _ _ _ ⟨es, ht1, by rw [Nat.add_mul, Nat.one_mul]; omega, rfl, rfl⟩ (sub_lk (by kernel_rfl)) trivial)
    · obtain ⟨es, ht1, hl, rfl, rfl⟩ := hI
      rw [range_ct, hz] at hl
      exact w_next (w_ret (v := .ref t) (by kernel_rfl) (h t es _ (xt es) (set_self _ _ _) ht1 (by omega)))
  refine w_if (c := decide (way < 4)) (by kernel_rfl) (fun _ => ?_) fun _ => w_nil (w_next ?_)
  · refine w_rete (w_call (fv := .fn "_law_above") (by kernel_rfl) (w_es1 (w_pv (v := .int n) (by kernel_rfl) (w_es1 (w_fn (vs := [.int cell, .int n]) (by kernel_rfl) (s_order H (by omega) hn fun A xs hA hxl => ?_))))))
    refine w_es1 (w_fn (vs := [.int (cell / 7 + 5), .int n]) (by kernel_rfl) (s_order H (by omega) hn fun A2 ys hA2 hyl => w_es0 (k_fn ?_)))
    have x1 : Ext σ ((σ.set t (.dictP [])).set A (.list (ofInts xs))) := (xt []).upd ((xt []).off hA)
    have hne := ne_of (σ := (σ.set t (.dictP [])).set A (.list (ofInts xs))) (set_self _ _ _) hA2
    refine s_above H (by omega) hn ((set_ne _ _ hne).trans (set_self _ _ _)) hxl (set_self _ _ _) hyl fun t2 es ht2 td hel => h t2 es _ ?_ (set_self _ _ _) td (by omega)
    have x2 := x1.upd (o := .list (ofInts ys)) (x1.off hA2)
    exact x2.upd (x2.off ht2)
  refine w_if (c := way == 4) (by kernel_rfl) (fun _ => ?_) fun _ => w_nil (w_next ?_)
  · refine w_range (lo := 1) (hi := n) (by kernel_rfl) ⟨by omega, by omega, by omega, by omega⟩ ?_
    refine for_env (fun i E σ' => ∃ es, TD n es ∧ es.length ≤ i ∧ E = [nv "_law_many" (.int n), nv "_law_cell" (.int cell), nv "_law_found" (.ref t)] ∧ σ' = σ.set t (.dictP es)) (sub_lk (by kernel_rfl)) ⟨[], TD.nil n, Nat.le_refl _, rfl, rfl⟩ (fun i x E σ' K hx hI hn' hr => ?_) fun E σ' hI => ?_
    · obtain ⟨es, ht1, hl, rfl, rfl⟩ := hI
      obtain ⟨rfl, hlt⟩ := range_at hx
      refine w_turn (by kernel_rfl) (w_asub (w_pv (v := .bool true) (by kernel_rfl) (w_pv (v := .ref t) (by kernel_rfl) (w_tup (by kernel_rfl) (w_es1 (w_pv (v := .int (1 + i)) (by kernel_rfl) (w_es1 (w_bin (w_fn (vs := [.int (cell + 3), .int (1 + i)]) (by kernel_rfl) (s_drawn H (by omega) fun v hv => ?_))))))))))
      have m1 := Int.emod_nonneg v (show (1 + (i : Int)) ≠ 0 by omega)
      have m2 := Int.emod_lt_of_pos v (show (0 : Int) < 1 + i by omega)
      have := put_len (1 + (i : Int), v % (1 + (i : Int))) (.bool true) es
      exact w_pv (v := .int (1 + i)) (by kernel_rfl) (k_mod (by omega) (w_es0 (k_put (set_self _ _ _) (by omega) (w_nil (hn' _ _ _ ⟨_, ht1.put (a := 1 + i) (b := v % (1 + (i : Int))) (v := true) ⟨by omega, by omega, by omega, by omega⟩, by omega, rfl, by rw [set_set]⟩ (sub_lk (by kernel_rfl)) trivial)))))
    · obtain ⟨es, ht1, hl, rfl, rfl⟩ := hI
      rw [range_ct] at hl
      exact w_next (w_ret (v := .ref t) (by kernel_rfl) (h t es _ (xt es) (set_self _ _ _) ht1 (by omega)))
  refine w_if (c := way == 5) (by kernel_rfl) (fun hw => ?_) fun _ => w_nil (w_next ?_)
  · exact w_rete (w_fn (vs := [.int n, .int cell]) (by kernel_rfl) (s_ringed H (by omega) hn (h3 (eq_of_beq hw)) fun t2 es ht2 td hel => h t2 es _ ((xt []).upd ((xt []).off ht2)) (set_self _ _ _) td (by omega)))
  refine w_if (c := way == 6) (by kernel_rfl) (fun _ => ?_) fun _ => w_nil (w_next ?_)
  · exact w_rete (w_fn (vs := [.int n, .int cell]) (by kernel_rfl) (s_reached H (by omega) hn fun t2 es ht2 td hel => h t2 es _ ((xt []).upd ((xt []).off ht2)) (set_self _ _ _) td (by omega)))
  refine w_range (lo := 0) (hi := n) (by kernel_rfl) ⟨by omega, by omega, by omega, by omega⟩ ?_
  refine for_env (fun i E σ' => ∃ es, TD n es ∧ es.length ≤ i * n ∧ E = [nv "_law_many" (.int n), nv "_law_cell" (.int cell), nv "_law_found" (.ref t)] ∧ σ' = σ.set t (.dictP es)) (sub_lk (by kernel_rfl)) ⟨[], TD.nil n, by rw [Nat.zero_mul]; exact Nat.le_refl _, rfl, rfl⟩ (fun i x E σ' K hx hI hn' hr => ?_) fun E σ' hI => ?_
  · obtain ⟨es, ht1, hl, rfl, rfl⟩ := hI
    obtain ⟨rfl, hlt⟩ := range_at hx
    have hin := sq_step (i := i) (n := n) (by omega)
    refine w_turn (by kernel_rfl) (w_range (lo := 0) (hi := 0 + i) (by kernel_rfl) ⟨by omega, by omega, by omega, by omega⟩ ?_)
    refine for_env (fun j E σ' => ∃ es, TD n es ∧ es.length ≤ i * n + j ∧ E = [nv "_law_many" (.int n), nv "_law_cell" (.int cell), nv "_law_found" (.ref t), nv "_law_one" (.int (0 + i))] ∧ σ' = σ.set t (.dictP es)) (sub_lk (by kernel_rfl)) ⟨es, ht1, by omega, rfl, rfl⟩ (fun j x E σ' K hx hI hn' hr => ?_) fun E σ' hI => ?_
    · obtain ⟨es, ht1, hl, rfl, rfl⟩ := hI
      obtain ⟨rfl, hlt'⟩ := range_at hx
      have key : ∀ u : Bool, ∃ es', TD n es' ∧ es'.length ≤ i * n + (j + 1) ∧ [nv "_law_many" (.int n), nv "_law_cell" (.int cell), nv "_law_found" (.ref t), nv "_law_one" (.int (0 + i))] = [nv "_law_many" (.int n), nv "_law_cell" (.int cell), nv "_law_found" (.ref t), nv "_law_one" (.int (0 + i))] ∧ (σ.set t (.dictP es)).set t (.dictP (putP (0 + (i : Int), 0 + (j : Int)) (.bool u) es)) = σ.set t (.dictP es') := fun u => by
        have := put_len (0 + (i : Int), 0 + (j : Int)) (.bool u) es
        exact ⟨_, ht1.put (a := 0 + i) (b := 0 + j) (v := u) ⟨by omega, by omega, by omega, by omega⟩, by omega, rfl, by rw [set_set]⟩
      refine w_turn (by kernel_rfl) (w_asub (w_and (w_pv (v := .bool (!((0 + (i : Int)) % 2 == (0 + (j : Int)) % 2))) (by kernel_rfl) (k_true ⟨fun hb => ?_, fun hb => ?_⟩))))
      · exact subK_D (t := t) (a := 0 + i) (b := 0 + j) (by kernel_rfl) (set_self _ _ _) (by omega) (w_nil (hn' _ _ _ (key _) (sub_lk (by kernel_rfl)) trivial))
      · exact w_and1 (w_call (fv := .fn "_law_bit") (by kernel_rfl) (w_es1 (w_pv (v := .int cell) (by kernel_rfl) (w_es1 (w_bin (w_bin (w_pv (v := .int (0 + i)) (by kernel_rfl) (w_pv (v := .int n) (by kernel_rfl) (k_mul (.inl (short_nat (by omega) (by omega))) (w_pv (v := .int (0 + j)) (by kernel_rfl) (k_add (w_es0 (k_fn (s_bit H (by omega) fun u => subK_D (t := t) (a := 0 + i) (b := 0 + j) (by kernel_rfl) (set_self _ _ _) (by omega) (w_nil (hn' _ _ _ (key u) (sub_lk (by kernel_rfl)) trivial))))))))))))))))
    · obtain ⟨es, ht1, hl, rfl, rfl⟩ := hI
      rw [range_ct] at hl
      exact w_nil (hn' _ _ _ ⟨es, ht1, by rw [Nat.add_mul, Nat.one_mul]; omega, rfl, rfl⟩ (sub_lk (by kernel_rfl)) trivial)
  · obtain ⟨es, ht1, hl, rfl, rfl⟩ := hI
    rw [range_ct, hz] at hl
    exact w_next (w_ret (v := .ref t) (by kernel_rfl) (h t es _ (xt es) (set_self _ _ _) ht1 (by omega)))
end
end Mine

set_option linter.unusedVariables false
set_option maxRecDepth 100000
set_option maxHeartbeats 0
namespace Mine
open PySem
theorem pairs_len (ps : List (Int × Int)) : (pairsV ps).length = ps.length := List.length_map _
theorem ins_pairs (ps : List (Int × Int)) (i : Nat) (p q : Int) : insertAt (pairsV ps) i (.tup [.int p, .int q]) = pairsV (ps.take i ++ (p, q) :: ps.drop i) := by
  simp only [insertAt, pairsV, List.map_take, List.map_drop, List.map_append, List.map_cons, pairV]
theorem ints_get {xs : List Int} {k : Int} (h0 : 0 ≤ k) (h : k < xs.length) : (ofInts xs)[k.toNat]? = some (.int (xs.getD k.toNat 0)) := by
  have : k.toNat < xs.length := by omega
  unfold ofInts; rw [List.getElem?_map, List.getD_eq_getElem?_getD, List.getElem?_eq_getElem this]; rfl
theorem key_look {es : List ((Int × Int) × Val)} {e} (h : e ∈ es) : (lookP e.1 es).isSome = true := by
  induction es with
  | nil => cases h
  | cons x r ih =>
    obtain ⟨j, u⟩ := x
    unfold lookP
    by_cases hj : j = e.1
    · rw [if_pos hj]; rfl
    · rw [if_neg hj]
      rcases List.mem_cons.mp h with q | q
      · exact absurd (congrArg (·.1) q.symm) hj
      · exact ih q
section
variable {C : Cx} {sc : Scope} {ρ : Rho} {σ : Store} {R : Fl → Rho → Store → Prop} {n : Nat} {r : List Stmt} {Q : VPost} {K : BPost} {E : List (Str × Val)}
theorem k_join {b : Bool} {m : Nat} {b₁ b₂ : List Stmt} (I : List (Str × Val) → Prop) (k : ∀ E', I E' → exs C n sc r (lk E') σ R) (k₁ : b = true → (∀ E', I E' → exs C n sc r (lk E') σ R) → exs C m sc b₁ ρ σ (seqK C n sc r R)) (k₂ : b = false → (∀ E', I E' → exs C n sc r (lk E') σ R) → exs C m sc b₂ ρ σ (seqK C n sc r R)) :
    (b = true → exs C m sc b₁ ρ σ (seqK C n sc r R)) ∧ (b = false → exs C m sc b₂ ρ σ (seqK C n sc r R)) := ⟨fun h => k₁ h k, fun h => k₂ h k⟩
theorem c_len {p : Addr} {xs : List Val} (h : σ p = some (.list xs)) (k : Q (.int xs.length) σ) : callV C (.blt "len") [.ref p] σ Q := k_len h k
theorem c_listD {p : Addr} {es : List ((Int × Int) × Val)} (hc : C.calm = true) (h : σ p = some (.dictP es)) (k : ∀ c, σ c = Option.none → Q (.ref c) (σ.set c (.list (es.map fun e => pairV e.1)))) : callV C (.typ "list") [.ref p] σ Q := by
  show callTyp C.calm "list" _ _ _
  rw [hc]; exact k_listD h k
end
theorem ways : ∀ k, k < 8 → 9 ≤ [(11 : Int), 9, 11, 10, 19, 9, 10, 13].getD k 0 ∧ [(11 : Int), 9, 11, 10, 19, 9, 10, 13].getD k 0 ≤ 19 := by decide
section
variable {G : Lang} {d : Nat} {σ : Store} {Q : VPost} (H : W02 G)
include H
theorem s_net {l : List Int} (hd : 5 ≤ d) (h : ∀ many ps T σ', Ext σ σ' → σ' T = some (.list (pairsV ps)) → ps.length ≤ 10000 → Q (.tup [.int many, .ref T]) σ') : G.call d none (.top "_law_net") [.scr l] σ Q := by
  refine H.U.go 40 (by omega) (H.h (by kernel_rfl)) _ (ps := _ :: _) (b := _ :: _) (sc := _) (by with_unfolding_all rfl) rfl ?_
  have hc : cap = 1000000 := rfl
  refine w_let (by kernel_rfl) (w_bin (w_fn (vs := [.scr l, .int 1]) (by kernel_rfl) (s_cell_at H (by omega) (by decide) fun v => w_pv (v := .int 8) (by kernel_rfl) (k_mod (by decide) ?_))))
  have w0 := Int.emod_nonneg v (by decide : (8 : Int) ≠ 0)
  have w1 := Int.emod_lt_of_pos v (by decide : (0 : Int) < 8)
  generalize v % 8 = way at w0 w1 ⊢
  refine w_let (by kernel_rfl) (w_bin (w_fn (vs := [.scr l, .int 0]) (by kernel_rfl) (s_cell_at H (by omega) (by decide) fun c0 => w_bin (w_sub rfl (w_lst rfl (w_pvs (vs := ofInts [11, 9, 11, 10, 19, 9, 10, 13]) (by kernel_rfl) fun L hL => w_pv (v := .int way) (by kernel_rfl) (k_at (set_self _ _ _) w0 (ints_get w0 w1) ?_)))))))
  obtain ⟨v0, v1⟩ := ways way.toNat (by omega)
  generalize [(11 : Int), 9, 11, 10, 19, 9, 10, 13].getD way.toNat 0 = v at v0 v1 ⊢
  refine w_bin (w_pv (v := .int 6) (by kernel_rfl) (w_pv (v := .int (if decide ((l.length : Int) > 63) = true then 1 else 0)) (by kernel_rfl) (k_mul (.inl (by unfold short; decide)) ?_)))
  obtain ⟨z, hz, z0, z1⟩ : ∃ z : Int, (if decide ((l.length : Int) > 63) = true then (1 : Int) else 0) = z ∧ 0 ≤ z ∧ z ≤ 1 := ⟨_, rfl, by split <;> decide, by split <;> decide⟩
  rw [hz]
  refine k_add (k_mod (by omega) ?_)
  have m0 := Int.emod_nonneg c0 (show v + 6 * z ≠ 0 by omega)
  have m1 := Int.emod_lt_of_pos c0 (show 0 < v + 6 * z by omega)
  generalize c0 % (v + 6 * z) = many at m0 m1 ⊢
  have x1 : Ext σ (σ.set L (.list (ofInts [11, 9, 11, 10, 19, 9, 10, 13]))) := (Ext.refl σ).upd hL
  generalize hσ : σ.set L (.list (ofInts [11, 9, 11, 10, 19, 9, 10, 13])) = σ₁ at x1 ⊢
  refine w_ift (w_pt (b := way == 5) (by kernel_rfl) (k_join (fun E => ∃ m : Nat, m ≤ 100 ∧ (way = 5 → 3 ≤ m) ∧ E = [nv "_law_script" (.scr l), nv "_law_way" (.int way), nv "_law_many" (.int m)]) (fun E hI => ?_) (fun hw k => ?_) fun hw k => ?_))
  · obtain ⟨m, hm, h3, rfl⟩ := hI
    refine w_let (by kernel_rfl) (w_fn (vs := [.scr l, .int 2]) (by kernel_rfl) (s_cell_at H (by omega) (by decide) fun cell => ?_))
    refine w_let (by kernel_rfl) (w_fn (vs := [.int way, .int m, .int cell]) (by kernel_rfl) (s_made H (by omega) hm h3 fun t es σ₂ x2 ht td hel => ?_))
    refine w_let (by kernel_rfl) (w_call (fv := .fn "_law_order") (by kernel_rfl) (w_es1 (w_fn (vs := [.scr l, .int 3]) (by kernel_rfl) (s_cell_at H (by omega) (by decide) fun c3 => w_es1 (w_pv (v := .int m) (by kernel_rfl) (w_es0 (k_fn (s_order H (by omega) hm fun N xs hN hxl => ?_))))))))
    refine w_let (by kernel_rfl) (w_lst (by kernel_rfl) (w_es0 fun T hT => ?_))
    have ntN := ne_of ht hN
    have ht3 : (σ₂.set N (.list (ofInts xs))) t = some (.dictP es) := (set_ne _ _ ntN).trans ht
    have hN3 : (σ₂.set N (.list (ofInts xs))) N = some (.list (ofInts xs)) := set_self _ _ _
    have x3 : Ext σ (σ₂.set N (.list (ofInts xs))) := (x1.trans x2).upd ((x1.trans x2).off hN)
    generalize σ₂.set N (.list (ofInts xs)) = σ₃ at ht3 hN3 x3 hT ⊢
    have ntT := ne_of ht3 hT
    have nNT := ne_of hN3 hT
    refine w_for (w_blt (vs := [.ref t]) (fv := .typ "list") (by kernel_rfl) (c_listD rfl ((set_ne _ _ ntT).trans ht3) fun L2 hL2 => forK_list (set_self _ _ _) ?_))
    have nLT : L2 ≠ T := fun q => by rw [q, set_self] at hL2; cases hL2
    have ntL := ne_of ((set_ne σ₃ (.list []) ntT).trans ht3) hL2
    have nNL := ne_of ((set_ne σ₃ (.list []) nNT).trans hN3) hL2
    refine for_env (fun i E σ' => ∃ ps : List (Int × Int), ps.length ≤ i ∧ E = [nv "_law_many" (.int m), nv "_law_cell" (.int cell), nv "_law_found" (.ref t), nv "_law_names" (.ref N), nv "_law_ties" (.ref T)] ∧ Ext σ σ' ∧ σ' T = some (.list (pairsV ps)) ∧ σ' t = some (.dictP es) ∧ σ' N = some (.list (ofInts xs)) ∧ σ' L2 = some (.list (es.map fun e => pairV e.1))) (sub_lk (by kernel_rfl)) ⟨[], Nat.le_refl _, rfl, ?_, (set_ne _ _ (Ne.symm nLT)).trans (set_self _ _ _), (set_ne _ _ ntL).trans ((set_ne _ _ ntT).trans ht3), (set_ne _ _ nNL).trans ((set_ne _ _ nNT).trans hN3), set_self _ _ _⟩ (fun i x E σ' K hx hI hn' hr => ?_) fun E σ' hI => ?_
    · exact (x3.upd (x3.off hT)).upd ((x3.upd (x3.off hT)).off hL2)
    · obtain ⟨ps, hl, rfl, xe, g1, g2, g3, g4⟩ := hI
      rw [List.getElem?_map] at hx
      obtain ⟨e, he, rfl⟩ := Option.map_eq_some_iff.mp hx
      have hmem := List.mem_of_getElem? he
      have hil := (List.getElem?_eq_some_iff.mp he).1
      obtain ⟨⟨a0, a1, b0, b1⟩, _⟩ := td e hmem
      obtain ⟨u, hu⟩ := td.look (key_look hmem)
      obtain ⟨⟨a, b⟩, ev⟩ := e
      dsimp only at a0 a1 b0 b1 hu
      refine w_turn (by kernel_rfl) (w_ift (t_sub (w_sub rfl (w_pv (v := .ref t) (by kernel_rfl) (w_pv (v := .tup [.int a, .int b]) (by kernel_rfl) (k_key g2 hu (k_true ⟨fun _ => ?_, fun _ => w_nil (w_next (w_nil (hn' _ _ _ ⟨ps, Nat.le_succ_of_le hl, rfl, xe, g1, g2, g3, g4⟩ (sub_lk (by kernel_rfl)) g4)))⟩)))))))
      refine w_let (by kernel_rfl) (w_tup rfl (w_es1 (w_sub rfl (w_pv (v := .ref N) (by kernel_rfl) (w_pv (v := .int a) (by kernel_rfl) (k_at g3 a0 (ints_get a0 (by omega)) (w_es1 (w_sub rfl (w_pv (v := .ref N) (by kernel_rfl) (w_pv (v := .int b) (by kernel_rfl) (k_at g3 b0 (ints_get b0 (by omega)) (w_es0 ?_))))))))))))
      generalize xs.getD a.toNat 0 = p
      generalize xs.getD b.toNat 0 = q
      refine w_ift (t_call (w_call (fv := .fn "_law_bit") (by kernel_rfl) (w_es1 (w_pv (v := .int cell) (by kernel_rfl) (w_es1 (w_blt (vs := [.ref T]) (fv := .blt "len") (by kernel_rfl) (c_len g1 (w_es0 (k_fn (s_bit H (by omega) fun u2 => k_true ?_)))))))))) 
      refine k_join (fun E => ∃ p q : Int, E = [nv "_law_many" (.int m), nv "_law_cell" (.int cell), nv "_law_found" (.ref t), nv "_law_names" (.ref N), nv "_law_ties" (.ref T), nv "_law_pair" (.tup [.int a, .int b]), nv "_law_tie" (.tup [.int p, .int q])]) (fun E hI => ?_) (fun _ k => ?_) fun _ k => ?_
      · obtain ⟨p, q, rfl⟩ := hI
        have hpl := pairs_len ps
        refine w_exp (w_meth (q := T) (by kernel_rfl) g1 (w_es1 (w_bin (w_call (fv := .fn "_law_drawn") (by kernel_rfl) (w_es1 (w_pv (v := .int (cell + 9)) (by kernel_rfl) (w_es1 (w_blt (vs := [.ref T]) (fv := .blt "len") (by kernel_rfl) (c_len g1 (w_es0 (k_fn (s_drawn H (by omega) fun v hv => ?_))))))))))))
        have d0 := Int.emod_nonneg v (show (((pairsV ps).length : Int) + 1) ≠ 0 by omega)
        have d1 := Int.emod_lt_of_pos v (show (0 : Int) < (((pairsV ps).length : Int) + 1) by omega)
        refine w_bin (w_blt (vs := [.ref T]) (fv := .blt "len") (by kernel_rfl) (c_len g1 (w_pv (v := .int 1) (by kernel_rfl) (k_add (k_mod (by omega) (w_es1 (w_pv (v := .tup [.int p, .int q]) (by kernel_rfl) (w_es0 (k_insert g1 ⟨by omega, d0, by omega⟩ ?_)))))))))
        rw [ins_pairs]
        refine w_nil (w_next (w_nil (hn' _ _ _ ⟨_, ?_, rfl, xe.upd (x3.off hT), set_self _ _ _, (set_ne _ _ ntT).trans g2, (set_ne _ _ nNT).trans g3, (set_ne _ _ nLT).trans g4⟩ (sub_lk (by kernel_rfl)) ((set_ne _ _ nLT).trans g4))))
        rw [List.length_append, List.length_cons, List.length_take, List.length_drop]; omega
      · exact w_name (v := .tup [.int q, .int p]) (by kernel_rfl) (w_nil (k _ ⟨q, p, by kernel_rfl⟩))
      · exact w_nil (k _ ⟨p, q, by kernel_rfl⟩)
    · obtain ⟨ps, hl, rfl, xe, g1, g2, g3, g4⟩ := hI
      rw [List.length_map] at hl
      exact w_next (w_ret (v := .tup [.int m, .ref T]) (by kernel_rfl) (h m ps T σ' xe g1 (by omega)))
  · exact w_name (v := .int (3 + many)) (by kernel_rfl) (w_nil (k _ ⟨(3 + many).toNat, by omega, by omega, by rw [Int.toNat_of_nonneg (by omega)]; kernel_rfl⟩))
  · refine w_nil (k _ ⟨many.toNat, by omega, fun q => ?_, by rw [Int.toNat_of_nonneg m0]; kernel_rfl⟩)
    rw [q] at hw; exact absurd hw.symm (by decide)
end
end Mine

set_option linter.unusedVariables false
set_option maxRecDepth 100000
set_option maxHeartbeats 0
namespace Mine
open PySem
noncomputable def dueF (many : Int) : List (Int × Int) → List (Int × Int) → Int
  | [], _ => 7
  | p :: r, D => if p.1 < 0 ∨ p.2 < 0 ∨ p.1 ≥ many ∨ p.2 ≥ many ∨ p.1 = p.2 then 1 else if p ∈ D then 2 else dueF many r ((p.2, p.1) :: p :: D)
theorem dueF_cons (many : Int) (p : Int × Int) (r D : List (Int × Int)) : dueF many (p :: r) D = if p.1 < 0 ∨ p.2 < 0 ∨ p.1 ≥ many ∨ p.2 ≥ many ∨ p.1 = p.2 then 1 else if p ∈ D then 2 else dueF many r ((p.2, p.1) :: p :: D) := rfl
noncomputable def dueV (many : Int) (ps : List (Int × Int)) : Int := if many < 0 ∨ many > 24 then 0 else dueF many ps []
noncomputable def KD (es : List ((Int × Int) × Val)) (D : List (Int × Int)) : Prop := ∀ k, (lookP k es).isSome = decide (k ∈ D)
theorem look_ne {k k' : Int × Int} {v : Val} (hne : k' ≠ k) : ∀ es : List ((Int × Int) × Val), lookP k' (putP k v es) = lookP k' es := by
  intro es
  induction es with
  | nil =>
    show (if k = k' then some v else lookP k' []) = lookP k' []
    rw [if_neg (Ne.symm hne)]
  | cons x r ih =>
    obtain ⟨j, u⟩ := x
    unfold putP
    by_cases hj : j = k
    · rw [if_pos hj]
      have : j ≠ k' := fun q => hne (q.symm.trans hj)
      unfold lookP; rw [if_neg this, if_neg this]
    · rw [if_neg hj]
      unfold lookP
      rw [ih]
theorem KD.put {es : List ((Int × Int) × Val)} {D : List (Int × Int)} (h : KD es D) (k : Int × Int) (v : Val) : KD (putP k v es) (k :: D) := by
  intro k'
  by_cases hk : k' = k
  · rw [look_put (.inl hk), hk, decide_eq_true (List.mem_cons_self)]
  · rw [look_ne hk, h k']
    exact decide_eq_decide.mpr ⟨fun q => .tail _ q, fun q => (List.mem_cons.mp q).resolve_left hk⟩
section
variable {C : Cx} {sc : Scope} {ρ : Rho} {σ : Store} {R : Fl → Rho → Store → Prop} {n : Nat} {r : List Stmt} {Q : VPost} {K : BPost} {E : List (Str × Val)}
theorem c_min {x y : Int} (hc : C.calm = true) (k : Q (.int (min x y)) σ) : callV C (.blt "min") [.int x, .int y] σ Q := ⟨hc, k⟩
theorem c_max {x y : Int} (hc : C.calm = true) (k : Q (.int (max x y)) σ) : callV C (.blt "max") [.int x, .int y] σ Q := ⟨hc, k⟩
theorem k_in {d : Addr} {es : List ((Int × Int) × Val)} {a b : Int} (h : σ d = some (.dictP es)) (q : K (lookP (a, b) es).isSome σ) : cmpop .In (.tup [.int a, .int b]) (.ref d) σ K := ⟨d, es, a, b, ⟨rfl, rfl, h⟩, q⟩
theorem k_eqL {p q : Addr} {ps : List (Int × Int)} (h1 : σ p = some (.list (pairsV ps))) (h2 : σ q = some (.list (pairsV ps))) (k : K true σ) : cmpop .Eq (.ref p) (.ref q) σ K := .inr ⟨p, q, ps, ⟨rfl, rfl, h1, h2⟩, k⟩
end
theorem pairs_at {ps : List (Int × Int)} {i : Nat} {x : Val} (h : (pairsV ps)[i]? = some x) : ∃ p : Int × Int, ps[i]? = some p ∧ x = .tup [.int p.1, .int p.2] ∧ ps.drop i = p :: ps.drop (i + 1) := by
  unfold pairsV at h
  rw [List.getElem?_map] at h
  obtain ⟨p, hp, e⟩ := Option.map_eq_some_iff.mp h
  obtain ⟨hlt, e2⟩ := List.getElem?_eq_some_iff.mp hp
  exact ⟨p, hp, e.symm, by rw [← e2]; exact List.drop_eq_getElem_cons hlt⟩
section
variable {G : Lang} {d : Nat} {m : Option Addr} {σ : Store} {Q : VPost} (H : W02 G)
include H
theorem s_whole {x : Int} (hd : 1 ≤ d) (h : Q (.bool true) σ) : G.call d m (.top "is_whole") [.int x] σ Q := by
  refine H.U.go 20 hd (H.h (by kernel_rfl)) _ (ps := _ :: _) (b := _ :: _) (sc := _) (by with_unfolding_all rfl) rfl ?_
  exact w_ret (v := .bool true) (by kernel_rfl) h
theorem s_point {n x : Int} (hd : 2 ≤ d) (h : Q (.bool (decide (0 ≤ x) && decide (x < n))) σ) : G.call d m (.top "is_point") [.int n, .int x] σ Q := by
  refine H.U.go 20 (by omega) (H.h (by kernel_rfl)) _ (ps := _ :: _) (b := _ :: _) (sc := _) (by with_unfolding_all rfl) rfl ?_
  refine w_rete (w_and (w_fn (vs := [.int x]) (by kernel_rfl) (s_whole H (by omega) (k_true ⟨fun q => absurd q.symm Bool.false_ne_true, fun _ => w_and1 (w_pv (v := .bool (decide (0 ≤ x) && decide (x < n))) (by kernel_rfl) h)⟩))))
theorem s_due {many : Int} {L : Addr} {ps : List (Int × Int)} (hd : 1 ≤ d) (hL : σ L = some (.list (pairsV ps))) (hp : ps.length ≤ 20000) (h : ∀ σ', Ext σ σ' → Q (.int (dueV many ps)) σ') : G.call d none (.top "_law_due") [.int many, .ref L] σ Q := by
  refine H.U.go 30 (by omega) (H.h (by kernel_rfl)) _ (ps := _ :: _) (b := _ :: _) (sc := _) (by with_unfolding_all rfl) rfl ?_
  have hc : cap = 1000000 := rfl
  refine w_if (c := decide (many < 0) || (decide (many > 24) || false)) (by kernel_rfl) (fun hq => ?_) fun hq => w_nil (w_next ?_)
  · have e : dueV many ps = 0 := by
      unfold dueV
      rw [Bool.or_false, Bool.or_eq_true_iff, decide_eq_true_eq, decide_eq_true_eq] at hq
      rw [if_pos hq]
    exact w_ret (v := .int 0) (by kernel_rfl) (by rw [e] at h; exact h _ (Ext.refl σ))
  have e : dueV many ps = dueF many ps [] := by
    unfold dueV
    rw [Bool.or_false, Bool.or_eq_false_iff, decide_eq_false_iff_not, decide_eq_false_iff_not] at hq
    rw [if_neg (fun z => z.elim hq.1 hq.2)]
  rw [e] at h
  refine w_let (by kernel_rfl) (w_dict fun t ht => ?_)
  have xt : ∀ es, Ext σ (σ.set t (.dictP es)) := fun es => (Ext.refl σ).upd ht
  have nLt := ne_of hL ht
  refine w_list (a := L) (xs := pairsV ps) (by kernel_rfl) ((set_ne _ _ nLt).trans hL) ?_
  refine for_env (fun i E σ' => ∃ es D, KD es D ∧ es.length ≤ 2 * i ∧ dueF many ps [] = dueF many (ps.drop i) D ∧ E = [nv "_law_many" (.int many), nv "_law_have" (.ref t)] ∧ σ' = σ.set t (.dictP es)) (sub_lk (by kernel_rfl)) ⟨[], [], fun k => (decide_eq_false List.not_mem_nil).symm, Nat.le_refl _, rfl, rfl, rfl⟩ (fun i x E σ' K hx hI hn' hr => ?_) fun E σ' hI => ?_
  · obtain ⟨es, D, kd, hl, hdu, rfl, rfl⟩ := hI
    have hil : i < ps.length := by have := (List.getElem?_eq_some_iff.mp hx).1; rw [pairs_len] at this; exact this
    obtain ⟨⟨a, b⟩, hp, rfl, hdrop⟩ := pairs_at hx
    rw [hdrop, dueF_cons] at hdu
    dsimp only at hdu ⊢
    refine w_turn2 (.inl rfl) (by kernel_rfl) ?_
    have one : (a < 0 ∨ b < 0 ∨ a ≥ many ∨ b ≥ many ∨ a = b) → ∀ ρ, K (.ret (.int 1)) ρ (σ.set t (.dictP es)) := fun q ρ => by
      rw [if_pos q] at hdu
      exact hr _ _ _ (w_stop (by rw [hdu] at h; exact h _ (xt es)))
    refine w_ift (t_or (t_cmp (w_blt (vs := [.int a, .int b]) (fv := .blt "min") (by kernel_rfl) (c_min rfl (w_cm1 (w_pv (v := .int 0) (by kernel_rfl) (k_lt ⟨fun q => ?_, fun q1 => ?_⟩)))))))
    · exact ⟨fun _ => w_ret (v := .int 1) (by kernel_rfl) (w_stop (one (by have := of_decide_eq_true q; omega) _)), fun z => absurd z.symm Bool.false_ne_true⟩
    refine t_or1 (t_cmp (w_blt (vs := [.int a, .int b]) (fv := .blt "max") (by kernel_rfl) (c_max rfl (w_cm1 (w_pv (v := .int many) (by kernel_rfl) (k_ge ⟨fun q => ?_, fun q2 => ?_⟩))))))
    · exact ⟨fun _ => w_ret (v := .int 1) (by kernel_rfl) (w_stop (one (by have := of_decide_eq_true q; omega) _)), fun z => absurd z.symm Bool.false_ne_true⟩
    refine t_or1 (w_pt (b := a == b) (by kernel_rfl) ⟨fun q => ?_, fun q3 => t_or0 ?_⟩)
    · exact ⟨fun _ => w_ret (v := .int 1) (by kernel_rfl) (w_stop (one (by have := eq_of_beq q; omega) _)), fun z => absurd z.symm Bool.false_ne_true⟩
    have no : ¬ (a < 0 ∨ b < 0 ∨ a ≥ many ∨ b ≥ many ∨ a = b) := by
      have h1 := of_decide_eq_false q1
      have h2 := of_decide_eq_false q2
      have h3 : a ≠ b := fun q => by rw [q, beq_self_eq_true] at q3; cases q3
      omega
    rw [if_neg no] at hdu
    refine ⟨fun z => absurd z Bool.false_ne_true, fun _ => w_nil (w_next ?_)⟩
    refine w_ift (t_cmp (w_pv (v := .tup [.int a, .int b]) (by kernel_rfl) (w_cm1 (w_pv (v := .ref t) (by kernel_rfl) (k_in (set_self _ _ _) ⟨fun q => ?_, fun q => ?_⟩)))))
    · rw [kd (a, b)] at q
      rw [if_pos (of_decide_eq_true q)] at hdu
      exact w_ret (v := .int 2) (by kernel_rfl) (w_stop (hr _ _ _ (w_stop (by rw [hdu] at h; exact h _ (xt es)))))
    · rw [kd (a, b)] at q
      rw [if_neg (of_decide_eq_false q)] at hdu
      have l1 := put_len (a, b) (.bool true) es
      have l2 := put_len (b, a) (.bool true) (putP (a, b) (.bool true) es)
      refine w_nil (w_next (w_asub (w_pv (v := .bool true) (by kernel_rfl) (subK_D (t := t) (a := a) (b := b) (by kernel_rfl) (set_self _ _ _) (by omega) ?_))))
      rw [set_set]
      refine w_asub (w_pv (v := .bool true) (by kernel_rfl) (subK_D (t := t) (a := b) (b := a) (by kernel_rfl) (set_self _ _ _) (by omega) ?_))
      rw [set_set]
      exact w_nil (hn' _ _ _ ⟨_, _, (kd.put (a, b) (.bool true)).put (b, a) (.bool true), by omega, hdu, rfl, rfl⟩ (sub_lk (by kernel_rfl)) ((set_ne _ _ nLt).trans hL))
  · obtain ⟨es, D, kd, hl, hdu, rfl, rfl⟩ := hI
    rw [pairs_len, List.drop_length] at hdu
    exact w_next (w_ret (v := .int 7) (by kernel_rfl) (by rw [hdu] at h; exact h _ (xt es)))
end
end Mine

set_option linter.unusedVariables false
set_option maxRecDepth 100000
set_option maxHeartbeats 0
namespace Mine
open PySem
theorem pairs_get {ps : List (Int × Int)} {k : Int} (h0 : 0 ≤ k) (h : k < ps.length) : ∃ p q, (pairsV ps)[k.toNat]? = some (.tup [.int p, .int q]) := by
  have : k.toNat < ps.length := by omega
  exact ⟨ps[k.toNat].1, ps[k.toNat].2, by unfold pairsV; rw [List.getElem?_map, List.getElem?_eq_getElem this]; rfl⟩
noncomputable def askL : List Str := ["NoPoints", "NoPoint", "NoTie", "TwiceTold", "NoArrow", "Round", "Clash"]
noncomputable def askB (c : Str) : List Bool := askL.map fun d => (upL c).contains d
section
variable {C : Cx} {sc : Scope} {ρ : Rho} {σ : Store} {R : Fl → Rho → Store → Prop} {n : Nat} {r : List Stmt} {Q : VPost} {K : BPost} {E : List (Str × Val)}
theorem c_isx {a : Addr} {c d : Str} {up : List Str} (h : σ a = some (.exc c up)) (k : Q (.bool (up.contains d)) σ) : callV C (.blt "isinstance") [.ref a, .cls d] σ Q :=
  show isInst σ (.ref a) (.cls d) (fun b => Q (.bool b) σ) from .inr (.inr (.inr (.inr ⟨a, c, up, ⟨rfl, h⟩, .inl ⟨d, rfl, k⟩⟩)))
theorem c_isv {a : Addr} {c : Str} {up : List Str} (h : σ a = some (.exc c up)) (k : Q (.bool true) σ) : callV C (.blt "isinstance") [.ref a, .typ "ValueError"] σ Q :=
  show isInst σ (.ref a) (.typ "ValueError") (fun b => Q (.bool b) σ) from .inr (.inr (.inr (.inr ⟨a, c, up, ⟨rfl, h⟩, .inr ⟨rfl, k⟩⟩)))
theorem f_turn {step : Val → Rho → Store → (Fl → Rho → Store → Prop) → Prop} {calm : Bool} {ok : Store → Prop} {x : Val} {xs : List Val} (k : step x ρ σ fun fl ρ' σ' => match fl with
    | .next => ok σ' ∧ forLoop step calm ok xs ρ' σ' R
    | .ret v => R (.ret v) ρ' σ') : forLoop step calm ok (x :: xs) ρ σ R := ⟨ρ, Sub.refl ρ, k⟩
end
section
variable {G : Lang} {d : Nat} {m : Option Addr} {σ : Store} {Q : VPost} (H : W02 G)
include H
theorem s_wrong {many cell far : Int} {L : Addr} {ps : List (Int × Int)} (hd : 1 ≤ d) (hL : σ L = some (.list (pairsV ps))) (h : ∀ p q σ', Ext σ σ' → Q (.tup [.int p, .int q]) σ') : G.call d m (.top "_law_wrong") [.int many, .ref L, .int cell, .int far] σ Q := by
  refine H.U.go 30 (by omega) (H.h (by kernel_rfl)) _ (ps := _ :: _) (b := _ :: _) (sc := _) (by with_unfolding_all rfl) rfl ?_
  refine w_name (v := .int (cell % 6)) (by kernel_rfl) (w_name (v := .int 0) (by kernel_rfl) ?_)
  generalize cell % 6 = way
  refine w_ift (w_pt (b := decide (many > 0)) (by kernel_rfl) (k_join (fun E => ∃ pt : Int, E = [nv "_law_many" (.int many), nv "_law_ties" (.ref L), nv "_law_cell" (.int cell), nv "_law_far" (.int far), nv "_law_way" (.int way), nv "_law_point" (.int pt)]) (fun E hI => ?_) (fun hw k => ?_) fun hw k => ?_))
  · obtain ⟨pt, rfl⟩ := hI
    refine w_ift (t_and (w_pt (b := way == 0) (by kernel_rfl) ⟨fun _ => ?_, fun _ => t_and1 (t_name (w_pv (v := .ref L) (by kernel_rfl) (k_full hL ⟨fun _ => ?_, fun hne => t_and0 ?_⟩)))⟩))
    rotate_left 2
    · have hpos : 0 < ps.length := by
        cases ps with
        | nil => exact absurd hne Bool.false_ne_true
        | cons _ _ => exact Nat.succ_pos _
      have hpl := pairs_len ps
      refine ⟨fun _ => ?_, fun z => absurd z.symm Bool.false_ne_true⟩
      have i0 := Int.emod_nonneg (cell / 6) (show ((pairsV ps).length : Int) ≠ 0 by omega)
      have i1 := Int.emod_lt_of_pos (cell / 6) (show (0 : Int) < ((pairsV ps).length : Int) by omega)
      obtain ⟨p, q, hg⟩ := pairs_get (ps := ps) i0 (by omega)
      refine w_let (by kernel_rfl) (w_sub rfl (w_pv (v := .ref L) (by kernel_rfl) (w_bin (w_pv (v := .int (cell / 6)) (by kernel_rfl) (w_blt (vs := [.ref L]) (fv := .blt "len") (by kernel_rfl) (c_len hL (k_mod (by omega) (k_at hL i0 hg ?_))))))))
      refine w_rete (w_sub rfl (w_lst rfl (w_pvs (vs := [.tup [.int p, .int q], .tup [.int q, .int p]]) (by kernel_rfl) fun c hc => w_pv (v := .int (cell / 600 % 2)) (by kernel_rfl) ?_)))
      have x1 : Ext σ (σ.set c (.list [.tup [.int p, .int q], .tup [.int q, .int p]])) := (Ext.refl σ).upd hc
      rcases (show cell / 600 % 2 = 0 ∨ cell / 600 % 2 = 1 by omega) with z | z
      · rw [z]; exact k_at (set_self _ _ _) (by decide) rfl (h p q _ x1)
      · rw [z]; exact k_at (set_self _ _ _) (by decide) rfl (h q p _ x1)
    all_goals
      refine ⟨fun z => absurd z Bool.false_ne_true, fun _ => w_nil (w_next ?_)⟩
      refine w_if (c := way == 1) (by kernel_rfl) (fun _ => w_ret (v := .tup [.int pt, .int pt]) (by kernel_rfl) (h _ _ _ (Ext.refl σ))) fun _ => w_nil (w_next ?_)
      refine w_if (c := way == 2) (by kernel_rfl) (fun _ => w_ret (v := .tup [.int (-1 - far), .int pt]) (by kernel_rfl) (h _ _ _ (Ext.refl σ))) fun _ => w_nil (w_next ?_)
      refine w_if (c := way == 3) (by kernel_rfl) (fun _ => w_ret (v := .tup [.int pt, .int many]) (by kernel_rfl) (h _ _ _ (Ext.refl σ))) fun _ => w_nil (w_next ?_)
      refine w_if (c := way == 4) (by kernel_rfl) (fun _ => w_ret (v := .tup [.int (many + far), .int pt]) (by kernel_rfl) (h _ _ _ (Ext.refl σ))) fun _ => w_nil (w_next ?_)
      exact w_ret (v := .tup [.int pt, .int (-1)]) (by kernel_rfl) (h _ _ _ (Ext.refl σ))
  · exact w_let (by kernel_rfl) (w_bin (w_pv (v := .int (cell / 6)) (by kernel_rfl) (w_pv (v := .int many) (by kernel_rfl) (k_mod (of_decide_eq_true hw) (w_nil (k _ ⟨cell / 6 % many, by kernel_rfl⟩))))))
  · exact w_nil (k _ ⟨0, by kernel_rfl⟩)
theorem s_only {a : Addr} {c : Str} {k : Nat} {b : Bool} (hd : 1 ≤ d) (ha : σ a = some (.exc c (upL c))) (h1 : (askB c).countP id = 1) (hk : (askB c)[k]? = some b) (ht : (upL c).contains "TieError" = true) (h : ∀ σ', Ext σ σ' → Q (.bool b) σ') : G.call d m (.top "_law_only") [.ref a, .int k] σ Q := by
  refine H.U.go 30 (by omega) (H.h (by kernel_rfl)) _ (ps := _ :: _) (b := _ :: _) (sc := _) (by with_unfolding_all rfl) rfl ?_
  have hc : cap = 1000000 := rfl
  have ask : ∀ {C : Cx} {n : Nat} {sc : Scope} {ρ : Rho} {σ : Store} {Q : VPost} {f : Str} {p cp : Pos} {args : List Expr} {d : Str}, σ a = some (.exc c (upL c)) → (fewArgs args, kindIs sc f, C.gl f, pvs C.gl sc ρ (n + 1) args) = (true, 1, some (.blt "isinstance"), some [.ref a, .cls d]) → Q (.bool ((upL c).contains d)) σ → ev C (n + 2) sc (.Call (.Name f p) args [] cp) ρ σ Q := fun ha h k => w_blt h (c_isx ha k)
  refine w_let (by kernel_rfl) (w_lst rfl (w_es1 (ask (d := "NoPoints") ha (by kernel_rfl) (w_es1 (ask (d := "NoPoint") ha (by kernel_rfl) (w_es1 (ask (d := "NoTie") ha (by kernel_rfl) (w_es1 (ask (d := "TwiceTold") ha (by kernel_rfl) (w_es0 fun L1 n1 => ?_))))))))))
  have na1 := ne_of ha n1
  have x1 : Ext σ (σ.set L1 (.list [.bool ((upL c).contains "NoPoints"), .bool ((upL c).contains "NoPoint"), .bool ((upL c).contains "NoTie"), .bool ((upL c).contains "TwiceTold")])) := (Ext.refl σ).upd n1
  have ha1 := x1 a _ ha
  refine w_let (by kernel_rfl) (w_bin (w_pv (v := .ref L1) (by kernel_rfl) (w_lst rfl (w_es1 (ask (d := "NoArrow") ha1 (by kernel_rfl) (w_es1 (ask (d := "Round") ha1 (by kernel_rfl) (w_es1 (ask (d := "Clash") ha1 (by kernel_rfl) (w_es0 fun L2 n2 => ?_))))))))))
  have n12 := ne_of (σ := σ.set L1 (.list [.bool ((upL c).contains "NoPoints"), .bool ((upL c).contains "NoPoint"), .bool ((upL c).contains "NoTie"), .bool ((upL c).contains "TwiceTold")])) (set_self _ _ _) n2
  refine k_cat ((set_ne _ _ n12).trans (set_self _ _ _)) (set_self _ _ _) (show 4 + 3 ≤ cap by decide) fun L3 n3 => ?_
  have x2 := x1.upd (o := .list [.bool ((upL c).contains "NoArrow"), .bool ((upL c).contains "Round"), .bool ((upL c).contains "Clash")]) (x1.off n2)
  have x3 := x2.upd (o := .list ([.bool ((upL c).contains "NoPoints"), .bool ((upL c).contains "NoPoint"), .bool ((upL c).contains "NoTie"), .bool ((upL c).contains "TwiceTold")] ++ [.bool ((upL c).contains "NoArrow"), .bool ((upL c).contains "Round"), .bool ((upL c).contains "Clash")])) (x2.off n3)
  have hL : ((((σ.set L1 (.list [.bool ((upL c).contains "NoPoints"), .bool ((upL c).contains "NoPoint"), .bool ((upL c).contains "NoTie"), .bool ((upL c).contains "TwiceTold")])).set L2 (.list [.bool ((upL c).contains "NoArrow"), .bool ((upL c).contains "Round"), .bool ((upL c).contains "Clash")])).set L3 (.list ([.bool ((upL c).contains "NoPoints"), .bool ((upL c).contains "NoPoint"), .bool ((upL c).contains "NoTie"), .bool ((upL c).contains "TwiceTold")] ++ [.bool ((upL c).contains "NoArrow"), .bool ((upL c).contains "Round"), .bool ((upL c).contains "Clash")])))) L3 = some (.list ((askB c).map .bool)) := set_self _ _ _
  have ha3 := x3 a _ ha
  generalize (((σ.set L1 (.list [.bool ((upL c).contains "NoPoints"), .bool ((upL c).contains "NoPoint"), .bool ((upL c).contains "NoTie"), .bool ((upL c).contains "TwiceTold")])).set L2 (.list [.bool ((upL c).contains "NoArrow"), .bool ((upL c).contains "Round"), .bool ((upL c).contains "Clash")])).set L3 (.list ([.bool ((upL c).contains "NoPoints"), .bool ((upL c).contains "NoPoint"), .bool ((upL c).contains "NoTie"), .bool ((upL c).contains "TwiceTold")] ++ [.bool ((upL c).contains "NoArrow"), .bool ((upL c).contains "Round"), .bool ((upL c).contains "Clash")]))) = σ₃ at x3 hL ha3 ⊢
  refine w_rete (w_and (w_cmp (w_meth (q := L3) (by kernel_rfl) hL (w_pvs (vs := [.bool true]) (by kernel_rfl) (k_count hL (w_cm1 (w_pv (v := .int 1) (by kernel_rfl) (k_eq ?_)))))))) 
  rw [h1]
  refine k_true ⟨fun z => absurd z.symm Bool.false_ne_true, fun _ => ?_⟩
  refine w_and2 (w_sub rfl (w_pv (v := .ref L3) (by kernel_rfl) (w_pv (v := .int k) (by kernel_rfl) (k_at (k := k) hL (by omega) (v := .bool b) (by rw [Int.toNat_natCast, List.getElem?_map, hk]; rfl) (k_true ⟨fun _ => h _ x3, fun hb => ?_⟩)))))
  refine w_and2 (w_blt (vs := [.ref a, .cls "TieError"]) (fv := .blt "isinstance") (by kernel_rfl) (c_isx ha3 ?_))
  rw [ht]
  refine k_true ⟨fun z => absurd z.symm Bool.false_ne_true, fun _ => ?_⟩
  exact w_and1 (w_blt (vs := [.ref a, .typ "ValueError"]) (fv := .blt "isinstance") (by kernel_rfl) (c_isv ha3 (hb ▸ h _ x3)))
theorem s_class {a : Addr} {c : Str} {b0 b1 b2 : Bool} (hd : 2 ≤ d) (ha : σ a = some (.exc c (upL c))) (h1 : (askB c).countP id = 1) (k0 : (askB c)[0]? = some b0) (k1 : (askB c)[2]? = some b1) (k2 : (askB c)[3]? = some b2) (ht : (upL c).contains "TieError" = true) (hb : (b0 || b1 || b2) = true)
    (h : ∀ σ', Ext σ σ' → Q (.int (if b0 then 0 else if b1 then 1 else 2)) σ') : G.call d (some a) (.top "_law_class") [.ref a] σ Q := by
  refine H.U.go 30 (by omega) (H.h (by kernel_rfl)) _ (ps := _ :: _) (b := _ :: _) (sc := _) (by with_unfolding_all rfl) rfl ?_
  refine w_for (w_lst rfl (w_pvs (vs := [.tup [.int 0, .int 0], .tup [.int 1, .int 2], .tup [.int 2, .int 3]]) (by kernel_rfl) fun L hL => forK_list (set_self _ _ _) ?_))
  have x0 : Ext σ (σ.set L (.list [.tup [.int 0, .int 0], .tup [.int 1, .int 2], .tup [.int 2, .int 3]])) := (Ext.refl σ).upd hL
  have gL : (σ.set L (.list [.tup [.int 0, .int 0], .tup [.int 1, .int 2], .tup [.int 2, .int 3]])) L = some (.list [.tup [.int 0, .int 0], .tup [.int 1, .int 2], .tup [.int 2, .int 3]]) := set_self _ _ _
  generalize σ.set L (.list [.tup [.int 0, .int 0], .tup [.int 1, .int 2], .tup [.int 2, .int 3]]) = σ₀ at x0 gL ⊢
  refine f_turn (w_turn2 (.inr ⟨a, c, upL c, rfl, x0 a _ ha⟩) (by kernel_rfl) (w_ift (t_call (w_fn (vs := [.ref a, .int (0 : Nat)]) (by kernel_rfl) (s_only H (by omega) (x0 a _ ha) h1 k0 ht fun σ₁ x1 => k_true ⟨fun q => ?_, fun q0 => w_nil (w_next (w_nil ⟨x1 L _ gL, ?_⟩))⟩)))))
  · exact w_ret (v := .int 0) (by kernel_rfl) (by rw [q] at h; exact h _ (x0.trans x1))
  refine f_turn (w_turn2 (.inr ⟨a, c, upL c, rfl, x1 a _ (x0 a _ ha)⟩) (by kernel_rfl) (w_ift (t_call (w_fn (vs := [.ref a, .int (2 : Nat)]) (by kernel_rfl) (s_only H (by omega) (x1 a _ (x0 a _ ha)) h1 k1 ht fun σ₂ x2 => k_true ⟨fun q => ?_, fun q1 => w_nil (w_next (w_nil ⟨x2 L _ (x1 L _ gL), ?_⟩))⟩)))))
  · exact w_ret (v := .int 1) (by kernel_rfl) (by rw [q, q0] at h; exact h _ ((x0.trans x1).trans x2))
  refine f_turn (w_turn2 (.inr ⟨a, c, upL c, rfl, x2 a _ (x1 a _ (x0 a _ ha))⟩) (by kernel_rfl) (w_ift (t_call (w_fn (vs := [.ref a, .int (3 : Nat)]) (by kernel_rfl) (s_only H (by omega) (x2 a _ (x1 a _ (x0 a _ ha))) h1 k2 ht fun σ₃ x3 => k_true ⟨fun q => ?_, fun q2 => ?_⟩)))))
  · exact w_ret (v := .int 2) (by kernel_rfl) (by rw [q0, q1] at h; exact h _ (((x0.trans x1).trans x2).trans x3))
  · rw [q0, q1, q2] at hb; exact absurd hb Bool.false_ne_true
end
end Mine

set_option linter.unusedVariables false
set_option maxRecDepth 100000
set_option maxHeartbeats 0
namespace Mine
open PySem
section
variable {C : Cx} {sc : Scope} {ρ : Rho} {σ : Store} {R : Fl → Rho → Store → Prop} {n : Nat} {r : List Stmt} {Q : VPost} {K : BPost} {E : List (Str × Val)}
theorem w_raise {x v t : Str} {np cp q p : Pos} {k : Nat} (h : (C.calm, C.loud, isGl sc x, C.gl x) = (true, true, true, some (.cls v))) (hx : C.isx v = true) (ke : C.exc v σ) : exs C (n + 2) sc (.Raise (some (.Call (.Name x np) [.Constant (.str t) k q] [] cp)) none p :: r) ρ σ R :=
  ⟨x, np, cp, t, k, q, v, ⟨rfl, rfl, congrArg (·.1) h, congrArg (·.2.1) h, congrArg (·.2.2.1) h, congrArg (·.2.2.2) h⟩, hx, ke⟩
theorem w_rexp {f : Str} {p cp q : Pos} {args : List Expr} {vs : List Val} (hl : C.loud = true) (h : (fewArgs args, kindIs sc f, C.gl f, pvs C.gl sc ρ (n + 1) args) = (true, 1, some (.fn f), some vs)) (k : C.rcall (.top f) vs σ C.exc) : exs C (n + 3) sc (.Expr (.Call (.Name f p) args [] cp) q :: r) ρ σ R := by
  refine .inr ⟨rfl, ⟨hl, congrArg (·.1) h⟩, w_pv (n := n + 1) (v := .fn f) ?_ (w_pvs (vs := vs) (congrArg (·.2.2.2) h) k)⟩
  show (match kindIs sc f with | 1 => C.gl f | 2 => ρ f | _ => none) = _
  rw [show kindIs sc f = 1 from congrArg (·.2.1) h]
  exact congrArg (·.2.2.1) h
noncomputable def attK (C : Cx) (n m : Nat) (sc : Scope) (r : List Stmt) (R : Fl → Rho → Store → Prop) (ρ : Rho) (o : Expr) (a : Str) (v : Val) (σ₁ : Store) : Prop :=
  ev C n sc o ρ σ₁ fun ov σ₂ => setattr ov a v σ₂ fun σ₃ => exs C m sc r ρ σ₃ R
theorem w_satt {o e : Expr} {a : Str} {q p : Pos} (k : ev C n sc e ρ σ (attK C n (n + 1) sc r R ρ o a)) : exs C (n + 2) sc (.Assign [.Attribute o a q] e p :: r) ρ σ R := k
theorem attK_is {m : Nat} {o : Expr} {a : Str} {v : Val} {S dx : Addr} {c : Str} {fs : List (Str × Val)} (h : pv C.gl sc ρ n o = some (.ref S)) (h1 : σ S = some (.inst c dx)) (h2 : σ dx = some (.attrs fs)) (h3 : okAtt a = true ∧ plainV v = true ∧ (putS a v fs).length ≤ 8)
    (k : exs C m sc r ρ (σ.set dx (.attrs (putS a v fs))) R) : attK C n m sc r R ρ o a v σ := by
  refine w_pv h ?_
  unfold setattr; dsimp only; rw [h1]; dsimp only; rw [h2]; exact ⟨h3, k⟩
theorem compLoop_inv {step : Val → Store → (Option Val → Store → Prop) → Prop} {P : List Val → Store → Prop} {items : List Val} (I : Nat → List Val → Store → Prop) {acc : List Val} (h0 : I 0 acc σ)
    (hs : ∀ i x acc' σ' k, items[i]? = some x → I i acc' σ' → (∀ y σ'', I (i + 1) (acc' ++ [y]) σ'' → k (some y) σ'') → step x σ' k)
    (he : ∀ acc' σ', I items.length acc' σ' → P acc' σ') : compLoop step (fun _ => True) items acc σ P := by
  have gen : ∀ (l : List Val) (i : Nat) acc σ, items.drop i = l → i ≤ items.length → I i acc σ → compLoop step (fun _ => True) l acc σ P := by
    intro l
    induction l with
    | nil =>
      intro i acc σ hd hi h
      have : i = items.length := Nat.le_antisymm hi (List.drop_eq_nil_iff.mp hd)
      subst this; exact he acc σ h
    | cons x l ih =>
      intro i acc σ hd hi h
      have hlt : i < items.length := Nat.lt_of_not_le fun hn => by rw [List.drop_eq_nil_iff.mpr hn] at hd; cases hd
      have hx : items[i]? = some x := by
        have := List.getElem?_drop (xs := items) (i := i) (j := 0)
        rw [hd] at this; simpa using this.symm
      have hd' : items.drop (i + 1) = l := by rw [← List.drop_drop, hd]; rfl
      exact hs i x acc σ _ hx h fun y σ'' hI => ⟨trivial, ih (i + 1) _ σ'' hd' hlt hI⟩
  exact gen items 0 acc σ rfl (Nat.zero_le _) h0
theorem w_comp {elt : Expr} {x f : Str} {xp ip pp p : Pos} {args : List Expr} {csc : Scope} {lo hi : Int} (h : (C.calm, compOk sc csc, isLoc csc x) = (true, true, true)) (hr : (fewArgs args, kindIs sc f, C.gl f, (pvs C.gl sc ρ (n + 1) args).bind rngOf) = (true, 1, some (.typ "range"), some (lo, hi)))
    (hc : 0 ≤ lo ∧ lo ≤ cap ∧ -(cap : Int) ≤ hi ∧ hi ≤ cap)
    (k : compLoop (fun xv σ k => ev C.hush (n + 2) csc elt (upd (compRho csc ρ) x xv) σ fun y σ₂ => k (some y) σ₂) (fun _ => True) (ofInts (rangeL lo hi)) [] σ fun acc σ₂ => ∀ c, σ₂ c = none → Q (.ref c) (σ₂.set c (.list acc))) :
    ev C (n + 3) sc (.ListComp elt [⟨.Name x xp, .Call (.Name f pp) args [] ip, [], 0⟩] csc p) ρ σ Q := by
  obtain ⟨vs, h5, h6⟩ := Option.bind_eq_some_iff.mp (congrArg (·.2.2.2) hr)
  have e : (fun xv σ k => ev C.hush (n + 2) csc elt (upd (compRho csc ρ) x xv) σ fun y σ₂ => k (some y) σ₂) = compStep (evIfs C.hush (n + 2) csc []) (ev C.hush (n + 2) csc elt) C.calm csc (.Name x xp) (compRho csc ρ) := by
    funext xv σ k
    have hb : bindT C.calm csc (.Name x xp) xv (compRho csc ρ) = some (upd (compRho csc ρ) x xv) := by
      show (if isLoc csc x = true then some (upd (compRho csc ρ) x xv) else none) = _
      rw [if_pos (congrArg (·.2.2) h : isLoc csc x = true)]
    unfold compStep
    rw [hb]
    exact propext ⟨fun q => ⟨fun _ => q, nofun⟩, fun q => q.1 rfl⟩
  rw [e] at k
  refine ⟨⟨congrArg (·.1) h, congrArg (·.2.1) h⟩, w_blt (n := n) (cp := ip) (vs := vs) (fv := .typ "range") ?_ (rngOf_run h6 hc k)⟩
  rw [show fewArgs args = true from congrArg (·.1) hr, show kindIs sc f = 1 from congrArg (·.2.1) hr, show C.gl f = some (.typ "range") from congrArg (·.2.2.1) hr, h5]
end
noncomputable def ExtB (x : Addr) (σ σ' : Store) : Prop := ∀ a o, a ≠ x → σ a = some o → σ' a = some o
theorem ExtB.upd {x : Addr} {σ σ' : Store} (h : ExtB x σ σ') {c : Addr} {o : AObj} (hc : c = x ∨ σ c = none) : ExtB x σ (σ'.set c o) := fun a ob hn e => (set_ne _ _ (by rintro rfl; rcases hc with q | q; exact hn q; rw [q] at e; cases e)).trans (h a ob hn e)
structure Mx (σ : Store) (rows : List Addr) (n : Nat) (D : List (Int × Int)) : Prop where
  len : rows.length = n
  nd : rows.Nodup
  row : ∀ (i : Nat) (r : Addr), rows[i]? = some r → ∃ bs : List Bool, σ r = some (.list (bs.map .bool)) ∧ bs.length = n ∧ ∀ j, j < n → bs[j]? = some (decide (((i : Int), (j : Int)) ∈ D))
theorem Mx.ext {σ σ' : Store} {rows : List Addr} {n : Nat} {D : List (Int × Int)} (M : Mx σ rows n D) (h : ∀ r ∈ rows, σ' r = σ r) : Mx σ' rows n D := ⟨M.len, M.nd, fun i r e => by rw [h r (List.mem_of_getElem? e)]; exact M.row i r e⟩
theorem Mx.set {σ : Store} {rows : List Addr} {n : Nat} {D : List (Int × Int)} (M : Mx σ rows n D) {a b : Nat} {r : Addr} {bs : List Bool} (hr : rows[a]? = some r) (hs : σ r = some (.list (bs.map .bool))) (hl : bs.length = n) (hb : ∀ j, j < n → bs[j]? = some (decide (((a : Int), (j : Int)) ∈ D))) (hlt : b < n) :
    Mx (σ.set r (.list ((bs.set b true).map .bool))) rows n (((a : Int), (b : Int)) :: D) := by
  refine ⟨M.len, M.nd, fun i r' e => ?_⟩
  by_cases hq : r' = r
  · subst hq
    obtain ⟨h1, e1⟩ := List.getElem?_eq_some_iff.mp e
    obtain ⟨h2, e2⟩ := List.getElem?_eq_some_iff.mp hr
    have : i = a := (List.getElem_inj M.nd).mp (e1.trans e2.symm)
    subst this
    refine ⟨bs.set b true, set_self _ _ _, by rw [List.length_set]; exact hl, fun j hj => ?_⟩
    by_cases hjb : b = j
    · subst hjb
      rw [List.getElem?_set_self (by omega), decide_eq_true List.mem_cons_self]
    · rw [List.getElem?_set_ne hjb, hb j hj]
      refine congrArg some (decide_eq_decide.mpr ⟨fun q => .tail _ q, fun q => (List.mem_cons.mp q).resolve_left fun z => hjb ?_⟩)
      exact (Int.ofNat.inj (congrArg Prod.snd z)).symm
  · obtain ⟨bs', g1, g2, g3⟩ := M.row i r' e
    refine ⟨bs', (set_ne _ _ hq).trans g1, g2, fun j hj => ?_⟩
    rw [g3 j hj]
    refine congrArg some (decide_eq_decide.mpr ⟨fun q => .tail _ q, fun q => (List.mem_cons.mp q).resolve_left fun z => hq ?_⟩)
    have : i = a := Int.ofNat.inj (congrArg Prod.fst z)
    subst this
    rw [hr] at e; exact (Option.some.inj e).symm
section
variable {G : Lang} {d : Nat} {σ : Store} {Q : VPost} (H : W02 G)
include H
theorem W02.x {c : Str} (h : isxL c = true) : G.isx c = true := (congrFun H.isx c).trans h
theorem s_need {many : Int} (hd : 2 ≤ d) (hm : 0 ≤ many ∧ many ≤ 24) (h : Q .none σ) : G.call d none (.top "need_points") [.int many] σ Q := by
  refine H.U.go 20 (by omega) (H.h (by kernel_rfl)) _ (ps := _ :: _) (b := _ :: _) (sc := _) (by with_unfolding_all rfl) rfl ?_
  refine w_ift (t_or (t_not (t_call (w_fn (vs := [.int many]) (by kernel_rfl) (s_whole H (by omega) (k_true ⟨nofun, fun _ => t_or1 (w_pt (b := decide (many < 0)) (by kernel_rfl) ⟨fun q => ?_, fun _ => t_or1 (w_pt (b := decide (many > 24)) (by kernel_rfl) ⟨fun q => ?_, fun _ => t_or0 ⟨nofun, fun _ => w_nil (w_next (w_nil h))⟩⟩)⟩)⟩))))))
  · have := of_decide_eq_true q; omega
  · have := of_decide_eq_true q; omega
theorem r_need {many : Int} {X : Str → Store → Prop} (hd : 2 ≤ d) (hm : many < 0 ∨ many > 24) (h : X "NoPoints" σ) : G.rcall d (.top "need_points") [.int many] σ X := by
  refine H.U.rgo 20 (by omega) (H.h (by kernel_rfl)) _ (ps := _ :: _) (b := _ :: _) (sc := _) (by with_unfolding_all rfl) rfl ?_
  have hx := H.x (c := "NoPoints") (by kernel_rfl)
  refine w_ift (t_or (t_not (t_call (w_fn (vs := [.int many]) (by kernel_rfl) (s_whole H (by omega) (k_true ⟨nofun, fun _ => t_or1 (w_pt (b := decide (many < 0)) (by kernel_rfl) ⟨fun q => ?_, fun q1 => t_or1 (w_pt (b := decide (many > 24)) (by kernel_rfl) ⟨fun q => ?_, fun q2 => ?_⟩)⟩)⟩))))))
  · exact ⟨fun _ => w_raise (v := "NoPoints") (by kernel_rfl) hx h, nofun⟩
  · exact ⟨fun _ => w_raise (v := "NoPoints") (by kernel_rfl) hx h, nofun⟩
  · have h1 := of_decide_eq_false q1
    have h2 := of_decide_eq_false q2
    omega
end
end Mine

set_option linter.unusedVariables false
set_option maxRecDepth 100000
set_option maxHeartbeats 0
namespace Mine
open PySem
theorem body_at {C : Cx} {n : Nat} {f : Fn} {ρ : Rho} {σ : Store} {R : Fl → Rho → Store → Prop} {ps : List Str} {b : List Stmt} {sc : Scope} (hfn : bodyOf pwL f = (ps, b, sc)) (h : exs C n sc b ρ σ R) : exs C n (bodyOf pwL f).2.2 (bodyOf pwL f).2.1 ρ σ R := by
  rw [hfn]; exact h
section
variable {G : Lang} {d : Nat} {σ : Store} {Q : VPost} (H : W02 G)
include H
theorem init_walk {many : Int} {S dx L : Addr} {ps : List (Int × Int)} {loud : Bool} {X : Str → Store → Prop} {R : Fl → Rho → Store → Prop} (hd : 2 ≤ d) (hm : 0 ≤ many ∧ many ≤ 24) (hS : σ S = some (.inst "Net" dx)) (hdx : σ dx = some (.attrs [])) (hL : σ L = some (.list (pairsV ps)))
    (h7 : dueF many ps [] = 7 → ∀ ρ σ', ExtB dx σ σ' → R .next ρ σ') (h1 : dueF many ps [] = 1 → loud = true ∧ ∀ σ', ExtB dx σ σ' → X "NoTie" σ') (h2 : dueF many ps [] = 2 → loud = true ∧ ∀ σ', ExtB dx σ σ' → X "TwiceTold" σ') :
    exs (G.cx glL d none loud false X) 40 (bodyOf pwL (.meth "Net" "__init__")).2.2 (bodyOf pwL (.meth "Net" "__init__")).2.1 (lk [nv "self" (.ref S), nv "many" (.int many), nv "ties" (.ref L)]) σ R := by
  refine body_at (ps := _ :: _) (b := _ :: _) (sc := _) (by with_unfolding_all rfl) ?_
  have hc : cap = 1000000 := rfl
  have nSd : S ≠ dx := by rintro rfl; rw [hS] at hdx; cases hdx
  have nLd : L ≠ dx := by rintro rfl; rw [hL] at hdx; cases hdx
  refine w_exp (w_fn (vs := [.int many]) (by kernel_rfl) (s_need H (by omega) hm ?_))
  refine w_satt (w_pv (v := .int many) (by kernel_rfl) (attK_is (S := S) (dx := dx) (by kernel_rfl) hS hdx ⟨by kernel_rfl, rfl, Nat.le_of_ble_eq_true rfl⟩ ?_))
  have hS1 : (σ.set dx (.attrs (putS "many" (.int many) []))) S = some (.inst "Net" dx) := (set_ne _ _ nSd).trans hS
  have hL1 : (σ.set dx (.attrs (putS "many" (.int many) []))) L = some (.list (pairsV ps)) := (set_ne _ _ nLd).trans hL
  have hd1 : (σ.set dx (.attrs (putS "many" (.int many) []))) dx = some (.attrs (putS "many" (.int many) [])) := set_self _ _ _
  have x1 : ExtB dx σ (σ.set dx (.attrs (putS "many" (.int many) []))) := ExtB.upd (fun _ _ _ e => e) (.inl rfl)
  have off1 : ∀ c, (σ.set dx (.attrs (putS "many" (.int many) []))) c = none → σ c = none := fun c hc => by
    by_cases hq : c = dx
    · rw [hq, hd1] at hc; cases hc
    · exact (set_ne _ _ hq).symm.trans hc
  generalize σ.set dx (.attrs (putS "many" (.int many) [])) = σ₁ at hS1 hL1 hd1 x1 off1 ⊢
  refine w_satt (w_comp (lo := 0) (hi := many) (by kernel_rfl) (by kernel_rfl) ⟨by omega, by omega, by omega, by omega⟩ ?_)
  refine compLoop_inv (fun i acc σ' => ∃ rows : List Addr, acc = rows.map .ref ∧ rows.length = i ∧ rows.Nodup ∧ (∀ r ∈ rows, σ' r = some (.list ((List.replicate many.toNat false).map .bool)) ∧ σ₁ r = none) ∧ Ext σ₁ σ') ⟨[], rfl, rfl, List.nodup_nil, (fun _ h => absurd h List.not_mem_nil), Ext.refl _⟩ (fun i x acc σ' k hx hI hk => ?_) fun acc σ' hI RR hRR => ?_
  · obtain ⟨rows, rfl, hl, hnd, hrw, xe⟩ := hI
    refine w_bin (w_lst rfl (w_pvs (vs := [.bool false]) (by kernel_rfl) fun c hc => w_pv (v := .int many) (by kernel_rfl) (k_rep (set_self _ _ _) ⟨by omega, by omega⟩ fun r hr => hk _ _ ⟨rows ++ [r], by rw [List.map_append]; rfl, by rw [List.length_append, hl]; rfl, ?_, fun r' hr' => ?_, ?_⟩)))
    · refine List.nodup_append.mpr ⟨hnd, List.nodup_cons.mpr ⟨List.not_mem_nil, List.nodup_nil⟩, fun a ha b hb => ?_⟩
      rw [List.mem_singleton.mp hb]
      rintro rfl
      by_cases hq : a = c
      · rw [hq, set_self] at hr; cases hr
      · rw [set_ne _ _ hq, (hrw a ha).1] at hr; cases hr
    · have x2 : Ext σ₁ (σ'.set c (.list [.bool false])) := xe.upd (xe.off hc)
      rcases List.mem_append.mp hr' with q | q
      · have n1 := ne_of (hrw r' q).1 hc
        have n2 := ne_of ((set_ne σ' (.list [.bool false]) n1).trans (hrw r' q).1) hr
        exact ⟨(set_ne _ _ n2).trans ((set_ne _ _ n1).trans (hrw r' q).1), (hrw r' q).2⟩
      · rw [List.mem_singleton.mp q]
        exact ⟨by rw [set_self, List.map_replicate], x2.off hr⟩
    · have x2 : Ext σ₁ (σ'.set c (.list [.bool false])) := xe.upd (xe.off hc)
      exact x2.upd (x2.off hr)
  obtain ⟨rows, rfl, hl, hnd, hrw, xe⟩ := hI
  rw [range_ct] at hl
  have hRd := ne_of (xe dx _ hd1) hRR
  have hRS := ne_of (xe S _ hS1) hRR
  have hRL := ne_of (xe L _ hL1) hRR
  have hRr : ∀ r ∈ rows, r ≠ RR := fun r hr => ne_of (hrw r hr).1 hRR
  have hrd : ∀ r ∈ rows, r ≠ dx := fun r hr q => by have := (hrw r hr).2; rw [q, hd1] at this; cases this
  refine attK_is (S := S) (dx := dx) (by kernel_rfl) ((set_ne _ _ hRS).trans (xe S _ hS1)) ((set_ne _ _ hRd).trans (xe dx _ hd1)) ⟨by kernel_rfl, rfl, Nat.le_of_ble_eq_true rfl⟩ ?_
  have hn : ((many.toNat : Nat) : Int) = many := Int.toNat_of_nonneg hm.1
  refine w_list (a := L) (xs := pairsV ps) (by kernel_rfl) ((set_ne _ _ nLd).trans ((set_ne _ _ hRL).trans (xe L _ hL1))) ?_
  refine for_env (fun i E σ' => ∃ D, Mx σ' rows many.toNat D ∧ dueF many ps [] = dueF many (ps.drop i) D ∧ E = [nv "self" (.ref S), nv "many" (.int many)] ∧ ExtB dx σ σ' ∧ σ' S = some (.inst "Net" dx) ∧ σ' dx = some (.attrs [(("many" : Str), .int many), (("rows" : Str), .ref RR)]) ∧ σ' RR = some (.list (rows.map .ref)) ∧ σ' L = some (.list (pairsV ps)))
    (sub_lk (by kernel_rfl)) ⟨[], ⟨by omega, hnd, fun i r e => ⟨List.replicate many.toNat false, ?_, List.length_replicate, fun j hj => ?_⟩⟩, rfl, rfl, ?_, (set_ne _ _ nSd).trans ((set_ne _ _ hRS).trans (xe S _ hS1)), ?_, (set_ne _ _ (Ne.symm hRd)).trans (set_self _ _ _), (set_ne _ _ nLd).trans ((set_ne _ _ hRL).trans (xe L _ hL1))⟩ (fun i x E σ' K hx hI hn' hr => ?_) fun E σ' hI => ?_
  · have hmem := List.mem_of_getElem? e
    exact (set_ne _ _ (hrd r hmem)).trans ((set_ne _ _ (hRr r hmem)).trans (hrw r hmem).1)
  · rw [List.getElem?_replicate, if_pos hj, decide_eq_false List.not_mem_nil]
  · refine ExtB.upd (ExtB.upd (fun a o hne e => xe a o (x1 a o hne e)) (.inr (off1 _ (xe.off hRR)))) (.inl rfl)
  · exact (set_self _ _ _).trans (by kernel_rfl)
  · obtain ⟨D, M, hdu, rfl, xb, g1, g2, g3, g4⟩ := hI
    obtain ⟨⟨a, b⟩, hp, rfl, hdrop⟩ := pairs_at hx
    rw [hdrop, dueF_cons] at hdu
    dsimp only at hdu ⊢
    refine w_turn2 (.inl rfl) (by kernel_rfl) ?_
    have bad : (a < 0 ∨ b < 0 ∨ a ≥ many ∨ b ≥ many ∨ a = b) → loud = true ∧ X "NoTie" σ' := fun q => by
      rw [if_pos q] at hdu
      exact ⟨(h1 hdu).1, (h1 hdu).2 σ' xb⟩
    have hxt := H.x (c := "NoTie") (by kernel_rfl)
    have hxw := H.x (c := "TwiceTold") (by kernel_rfl)
    refine w_ift (t_or (t_not (t_call (w_fn (vs := [.int many, .int a]) (by kernel_rfl) (s_point H (by omega) (k_true ⟨fun q => ?_, fun q1 => ?_⟩))))))
    · obtain ⟨rfl, hx⟩ := bad (by simp only [Bool.not_eq_true', Bool.and_eq_false_iff, decide_eq_false_iff_not] at q; omega)
      exact ⟨fun _ => w_raise (v := "NoTie") (by kernel_rfl) hxt hx, nofun⟩
    refine t_or1 (t_not (t_call (w_fn (vs := [.int many, .int b]) (by kernel_rfl) (s_point H (by omega) (k_true ⟨fun q => ?_, fun q2 => ?_⟩)))))
    · obtain ⟨rfl, hx⟩ := bad (by simp only [Bool.not_eq_true', Bool.and_eq_false_iff, decide_eq_false_iff_not] at q; omega)
      exact ⟨fun _ => w_raise (v := "NoTie") (by kernel_rfl) hxt hx, nofun⟩
    refine t_or1 (w_pt (b := a == b) (by kernel_rfl) ⟨fun q => ?_, fun q3 => t_or0 ⟨nofun, fun _ => w_nil (w_next ?_)⟩⟩)
    · obtain ⟨rfl, hx⟩ := bad (by have := eq_of_beq q; omega)
      exact ⟨fun _ => w_raise (v := "NoTie") (by kernel_rfl) hxt hx, nofun⟩
    simp only [Bool.not_eq_false', Bool.and_eq_true, decide_eq_true_eq] at q1 q2
    have hne : a ≠ b := fun q => by rw [q, beq_self_eq_true] at q3; cases q3
    rw [if_neg (by omega)] at hdu
    have la : a.toNat < rows.length := by rw [M.len]; omega
    have lb : b.toNat < rows.length := by rw [M.len]; omega
    have ea : ((a.toNat : Nat) : Int) = a := Int.toNat_of_nonneg q1.1
    have eb : ((b.toNat : Nat) : Int) = b := Int.toNat_of_nonneg q2.1
    have ra := List.getElem?_eq_getElem la
    have rb := List.getElem?_eq_getElem lb
    have ma := List.mem_of_getElem? ra
    have mb := List.mem_of_getElem? rb
    generalize rows[a.toNat] = ro at ra ma
    generalize rows[b.toNat] = rp at rb mb
    obtain ⟨bs, s1, s2, s3⟩ := M.row _ _ ra
    have at_ : ∀ {σ' : Store} {k : Int} {r : Addr} {n : Nat} {C : Cx} {sc : Scope} {ρ : Rho} {Q : VPost} {o e : Expr} {x : Str} {p q : Pos}, σ' S = some (.inst "Net" dx) → σ' dx = some (.attrs [(("many" : Str), .int many), (("rows" : Str), .ref RR)]) → σ' RR = some (.list (rows.map .ref)) → 0 ≤ k → rows[k.toNat]? = some r → (isSl e, plainBase o, pv C.gl sc ρ n o, pv C.gl sc ρ (n + 1) e, lookS x [(("many" : Str), .int many), (("rows" : Str), .ref RR)]) = (false, true, some (.ref S), some (.int k), some (.ref RR)) → Q (.ref r) σ' → ev C (n + 2) sc (.Subscript (.Attribute o x p) e q) ρ σ' Q :=
      fun u1 u2 u3 u4 u5 u6 u7 => w_sub (congrArg (·.1) u6) (w_attr (Prod.ext (congrArg (·.2.1) u6) (congrArg (·.2.2.1) u6)) u1 u2 (congrArg (·.2.2.2.2) u6) (w_pv (congrArg (·.2.2.2.1) u6) (k_at u3 u4 (by rw [List.getElem?_map, u5]; rfl) u7)))
    refine w_ift (t_sub (w_sub rfl (at_ (k := a) (r := ro) g1 g2 g3 q1.1 ra (by kernel_rfl) (w_pv (v := .int b) (by kernel_rfl) (k_at s1 q2.1 (v := .bool (decide ((a, b) ∈ D))) ?_ (k_true ⟨fun q => ?_, fun q4 => w_nil (w_next ?_)⟩))))))
    · have := s3 b.toNat (by omega)
      rw [ea, eb] at this
      rw [List.getElem?_map, this]; rfl
    · rw [if_pos (of_decide_eq_true q)] at hdu
      obtain ⟨rfl, hx⟩ := h2 hdu
      exact w_raise (v := "TwiceTold") (by kernel_rfl) hxw (hx σ' xb)
    rw [if_neg (of_decide_eq_false q4)] at hdu
    have keep : ∀ {c : Addr} {o : AObj}, σ' c = some o → (∀ r ∈ rows, c ≠ r) → ∀ r ∈ rows, ∀ o', (σ'.set r o') c = some o := fun e hn r hr o' => (set_ne _ _ (hn r hr)).trans e
    have nS : ∀ r ∈ rows, S ≠ r := fun r hr q => by have := (hrw r hr).2; rw [← q, hS1] at this; cases this
    have nD : ∀ r ∈ rows, dx ≠ r := fun r hr q => hrd r hr q.symm
    have nR : ∀ r ∈ rows, RR ≠ r := fun r hr q => hRr r hr q.symm
    have nL : ∀ r ∈ rows, L ≠ r := fun r hr q => by have := (hrw r hr).2; rw [← q, hL1] at this; cases this
    have fr : ∀ r ∈ rows, σ r = none := fun r hr => off1 r (hrw r hr).2
    refine w_asub (w_pv (v := .bool true) (by kernel_rfl) (at_ (k := a) (r := ro) g1 g2 g3 q1.1 ra (by kernel_rfl) (w_pv (v := .int b) (by kernel_rfl) (.inl ⟨ro, _, b, ⟨rfl, rfl, s1⟩, ⟨q2.1, by rw [List.length_map]; omega⟩, ?_⟩))))
    have M1 := M.set (b := b.toNat) ra s1 s2 s3 (by omega)
    rw [List.map_set] at M1
    rw [ea, eb] at M1
    have y1 := keep g1 nS ro ma (.list ((bs.map .bool).set b.toNat (.bool true)))
    have y2 := keep g2 nD ro ma (.list ((bs.map .bool).set b.toNat (.bool true)))
    have y3 := keep g3 nR ro ma (.list ((bs.map .bool).set b.toNat (.bool true)))
    have y4 := keep g4 nL ro ma (.list ((bs.map .bool).set b.toNat (.bool true)))
    have xb1 : ExtB dx σ (σ'.set ro (.list ((bs.map .bool).set b.toNat (.bool true)))) := xb.upd (.inr (fr ro ma))
    generalize σ'.set ro (.list ((bs.map .bool).set b.toNat (.bool true))) = σ₂ at M1 y1 y2 y3 y4 xb1 ⊢
    obtain ⟨bs2, z1, z2, z3⟩ := M1.row _ _ rb
    refine w_asub (w_pv (v := .bool true) (by kernel_rfl) (at_ (k := b) (r := rp) y1 y2 y3 q2.1 rb (by kernel_rfl) (w_pv (v := .int a) (by kernel_rfl) (.inl ⟨rp, _, a, ⟨rfl, rfl, z1⟩, ⟨q1.1, by rw [List.length_map]; omega⟩, ?_⟩))))
    have M2 := M1.set (b := a.toNat) rb z1 z2 z3 (by omega)
    rw [List.map_set] at M2
    rw [ea, eb] at M2
    have pass : ∀ {c : Addr} {o : AObj}, σ₂ c = some o → c ≠ rp → (σ₂.set rp (.list ((bs2.map .bool).set a.toNat (.bool true)))) c = some o := fun e hn => (set_ne _ _ hn).trans e
    exact w_nil (hn' _ _ _ ⟨_, M2, hdu, rfl, xb1.upd (.inr (fr rp mb)), pass y1 (nS rp mb), pass y2 (nD rp mb), pass y3 (nR rp mb), pass y4 (nL rp mb)⟩ (sub_lk (by kernel_rfl)) (pass y4 (nL rp mb)))
  · obtain ⟨D, M, hdu, rfl, xb, g1, g2, g3, g4⟩ := hI
    rw [pairs_len, List.drop_length] at hdu
    exact w_next (w_nil (h7 hdu _ _ xb))
end
end Mine

set_option linter.unusedVariables false
set_option maxRecDepth 100000
set_option maxHeartbeats 0
namespace Mine
open PySem
noncomputable def excOf (v : Int) : Str := if v = 0 then "NoPoints" else if v = 1 then "NoTie" else "TwiceTold"
theorem dueF_is (many : Int) : ∀ (ps D : List (Int × Int)), dueF many ps D = 7 ∨ dueF many ps D = 1 ∨ dueF many ps D = 2 := by
  intro ps
  induction ps with
  | nil => exact fun _ => .inl rfl
  | cons p r ih =>
    intro D
    rw [dueF_cons]
    by_cases h : p.1 < 0 ∨ p.2 < 0 ∨ p.1 ≥ many ∨ p.2 ≥ many ∨ p.1 = p.2
    · rw [if_pos h]; exact .inr (.inl rfl)
    · rw [if_neg h]
      by_cases h' : p ∈ D
      · rw [if_pos h']; exact .inr (.inr rfl)
      · rw [if_neg h']; exact ih _
section
variable {C : Cx} {sc : Scope} {ρ : Rho} {σ : Store} {R : Fl → Rho → Store → Prop} {n : Nat} {r : List Stmt} {Q : VPost} {K : BPost} {E : List (Str × Val)}
theorem but_lk (x : Str) : ∀ E : List (Str × Val), (lk E).but x = lk (E.filter fun e => e.1 != x) := by
  intro E
  funext y
  unfold Rho.but lk
  induction E with
  | nil => by_cases h : y = x <;> simp [h]
  | cons e r ih =>
    obtain ⟨z, v⟩ := e
    by_cases hz : z = x
    · have : ((z, v) :: r).filter (fun e => e.1 != x) = r.filter fun e => e.1 != x := by rw [List.filter_cons_of_neg]; simp [hz]
      rw [this, ← ih]
      by_cases h : y = x
      · rw [if_pos h, if_pos h]
      · rw [if_neg h, if_neg h, List.lookup_cons, beq_eq_false_iff_ne.mpr (by rw [hz]; exact h)]
    · have : ((z, v) :: r).filter (fun e => e.1 != x) = (z, v) :: r.filter fun e => e.1 != x := by rw [List.filter_cons_of_pos]; simpa using hz
      rw [this, List.lookup_cons, List.lookup_cons, ← ih]
      by_cases h : y = x
      · rw [if_pos h, if_pos h, beq_eq_false_iff_ne.mpr (by rw [h]; exact Ne.symm hz)]
      · rw [if_neg h, if_neg h]
theorem k_joinS {b : Bool} {m : Nat} {b₁ b₂ : List Stmt} (I : List (Str × Val) → Store → Prop) (k : ∀ E' σ', I E' σ' → exs C n sc r (lk E') σ' R) (k₁ : b = true → (∀ E' σ', I E' σ' → exs C n sc r (lk E') σ' R) → exs C m sc b₁ ρ σ (seqK C n sc r R)) (k₂ : b = false → (∀ E' σ', I E' σ' → exs C n sc r (lk E') σ' R) → exs C m sc b₂ ρ σ (seqK C n sc r R)) :
    (b = true → exs C m sc b₁ ρ σ (seqK C n sc r R)) ∧ (b = false → exs C m sc b₂ ρ σ (seqK C n sc r R)) := ⟨fun h => k₁ h k, fun h => k₂ h k⟩
theorem forK_rng {t : Expr} {b : List Stmt} {m : Nat} {lo hi : Int} (k : forLoop (forStep (exs C n sc b) C.pairOk sc t) C.calm (fun _ => True) (ofInts (rangeL lo hi)) ρ σ (seqK C m sc r R)) : forK C n m sc t b r R ρ (.rng lo hi) σ := k
theorem w_try {g : Expr} {as : List Expr} {p q xp hp tp : Pos} {x nm : Str} {b₀ : Stmt} {rs : List Stmt} (I : List (Str × Val) → Store → Prop) (h : (C.calm, C.top, isLo sc nm, isGl sc x) = (true, true, true, true)) (k : ∀ E' σ', I E' σ' → exs C (n + 1) sc r (lk E') σ' R)
    (body : (∀ E' σ', I E' σ' → exs C (n + 1) sc r (lk E') σ' R) → (ev C n sc (.Call g as [] p) (lk E) σ (fun _ σ₁ => exs C (n + 1) sc r (lk E) σ₁ R) ∨ ∃ d, C.gl x = some (.cls d) ∧ evR C n sc g as p (lk E) σ fun c σ₁ => (C.up c).contains d = true ∧ ∀ a, σ₁ a = none → exs (C.hand a) n sc (b₀ :: rs) (upd (lk E) nm (.ref a)) (σ₁.set a (.exc c (C.up c))) fun fl ρ' σ' => seqK C (n + 1) sc r R fl (ρ'.but nm) σ')) :
    exs C (n + 2) sc (.Try [.Expr (.Call g as [] p) q] [.ExceptHandler (some (.Name x xp)) (some nm) (b₀ :: rs) hp] [] [] tp :: r) (lk E) σ R :=
  ⟨g, as, p, q, x, xp, nm, b₀, rs, hp, ⟨rfl, rfl, rfl, rfl, congrArg (·.1) h, congrArg (·.2.1) h, congrArg (·.2.2.1) h, congrArg (·.2.2.2) h⟩, body k⟩
theorem w_rcls {f c : Str} {p cp : Pos} {args : List Expr} {vs : List Val} {X : Str → Store → Prop} (hl : C.loud = true) (h : (fewArgs args, kindIs sc f, C.gl f, pvs C.gl sc ρ (n + 1) args) = (true, 1, some (.cls c), some vs)) (hx : C.isx c = false)
    (k : ∀ p dx, σ p = none → σ dx = none → p ≠ dx → C.rcall (.meth c "__init__") (.ref p :: vs) ((σ.set dx (.attrs [])).set p (.inst c dx)) X) : evR C (n + 1) sc (.Name f p) args cp ρ σ X := by
  refine ⟨⟨hl, congrArg (·.1) h⟩, w_pv (n := n + 1) (v := .cls c) ?_ (w_pvs (vs := vs) (congrArg (·.2.2.2) h) ⟨hx, k⟩)⟩
  show (match kindIs sc f with | 1 => C.gl f | 2 => ρ f | _ => none) = _
  rw [show kindIs sc f = 1 from congrArg (·.2.1) h]
  exact congrArg (·.2.2.1) h
end
section
variable {G : Lang} {d : Nat} {σ : Store} {Q : VPost} (H : W02 G)
include H
theorem s_init {many : Int} {S dx L : Addr} {ps : List (Int × Int)} (hd : 3 ≤ d) (h7 : dueV many ps = 7) (hS : σ S = some (.inst "Net" dx)) (hdx : σ dx = some (.attrs [])) (hL : σ L = some (.list (pairsV ps))) (h : ∀ σ', ExtB dx σ σ' → Q .none σ') : G.call d none (.meth "Net" "__init__") [.ref S, .int many, .ref L] σ Q := by
  have hm : ¬ (many < 0 ∨ many > 24) := fun q => by unfold dueV at h7; rw [if_pos q] at h7; cases h7
  have hf : dueF many ps [] = 7 := by unfold dueV at h7; rw [if_neg hm] at h7; exact h7
  refine H.U.go 40 (by omega) (H.h (by kernel_rfl)) [nv "self" (.ref S), nv "many" (.int many), nv "ties" (.ref L)] (ps := (bodyOf pwL (.meth "Net" "__init__")).1) (b := (bodyOf pwL (.meth "Net" "__init__")).2.1) (sc := (bodyOf pwL (.meth "Net" "__init__")).2.2) rfl (by kernel_rfl) ?_
  exact init_walk H (by omega) (by omega) hS hdx hL (fun _ ρ σ' x => h σ' x) (fun q => by rw [hf] at q; exact absurd q (by decide)) fun q => by rw [hf] at q; exact absurd q (by decide)
theorem r_init {many : Int} {S dx L : Addr} {ps : List (Int × Int)} {X : Str → Store → Prop} (hd : 3 ≤ d) (h7 : dueV many ps ≠ 7) (hS : σ S = some (.inst "Net" dx)) (hdx : σ dx = some (.attrs [])) (hL : σ L = some (.list (pairsV ps))) (h : ∀ σ', ExtB dx σ σ' → X (excOf (dueV many ps)) σ') : G.rcall d (.meth "Net" "__init__") [.ref S, .int many, .ref L] σ X := by
  by_cases hm : many < 0 ∨ many > 24
  · have e : dueV many ps = 0 := by unfold dueV; rw [if_pos hm]
    rw [e] at h
    refine H.U.rgo 40 (by omega) (H.h (by kernel_rfl)) _ (ps := _ :: _) (b := _ :: _) (sc := _) (by with_unfolding_all rfl) rfl ?_
    exact w_rexp rfl (vs := [.int many]) (by kernel_rfl) (r_need H (by omega) hm (h σ fun _ _ _ e => e))
  · have e : dueV many ps = dueF many ps [] := by unfold dueV; rw [if_neg hm]
    rw [e] at h h7
    refine H.U.rgo 40 (by omega) (H.h (by kernel_rfl)) [nv "self" (.ref S), nv "many" (.int many), nv "ties" (.ref L)] (ps := (bodyOf pwL (.meth "Net" "__init__")).1) (b := (bodyOf pwL (.meth "Net" "__init__")).2.1) (sc := (bodyOf pwL (.meth "Net" "__init__")).2.2) rfl (by kernel_rfl) ?_
    exact init_walk H (by omega) (by omega) hS hdx hL (fun q => absurd q h7) (fun q => ⟨rfl, fun σ' x => by rw [q] at h; exact h σ' x⟩) fun q => ⟨rfl, fun σ' x => by rw [q] at h; exact h σ' x⟩
end
end Mine

set_option linter.unusedVariables false
set_option maxRecDepth 100000
set_option maxHeartbeats 0
namespace Mine
open PySem
theorem cut_pairs (ps : List (Int × Int)) (k : Nat) (p q : Int) : (pairsV ps).take k ++ [.tup [.int p, .int q]] ++ (pairsV ps).drop k = pairsV (ps.take k ++ [(p, q)] ++ ps.drop k) := by
  unfold pairsV
  rw [List.map_append, List.map_append, List.map_take, List.map_drop]; rfl
theorem ask_exc (v : Int) (h : v = 0 ∨ v = 1 ∨ v = 2) : ∃ b0 b1 b2, (askB (excOf v)).countP id = 1 ∧ (askB (excOf v))[0]? = some b0 ∧ (askB (excOf v))[2]? = some b1 ∧ (askB (excOf v))[3]? = some b2 ∧ (upL (excOf v)).contains "TieError" = true ∧ (b0 || b1 || b2) = true ∧ (if b0 then (0 : Int) else if b1 then 1 else 2) = v := by
  rcases h with rfl | rfl | rfl
  · exact ⟨true, false, false, by kernel_rfl, by kernel_rfl, by kernel_rfl, by kernel_rfl, by kernel_rfl, rfl, rfl⟩
  · exact ⟨false, true, false, by kernel_rfl, by kernel_rfl, by kernel_rfl, by kernel_rfl, by kernel_rfl, rfl, rfl⟩
  · exact ⟨false, false, true, by kernel_rfl, by kernel_rfl, by kernel_rfl, by kernel_rfl, by kernel_rfl, rfl, rfl⟩
section
variable {G : Lang} {d : Nat} {σ : Store} {Q : VPost} (H : W02 G)
include H
theorem s_law {l : List Int} (hd : 6 ≤ d) (h : ∀ σ', Q (.bool true) σ') : G.tcall d (.top "law") [.scr l] σ Q := by
  refine H.U.tgo 40 (by omega) (H.h (by kernel_rfl)) _ (ps := _ :: _) (b := _ :: _) (sc := _) (by with_unfolding_all rfl) rfl ?_
  have hc : cap = 1000000 := rfl
  refine w_pair (w_fn (vs := [.scr l]) (by kernel_rfl) (s_net H (by omega) fun many ps T σ₁ x1 hT hpl => pairK_is (by kernel_rfl) ?_))
  refine w_for (w_call (fv := .typ "range") (by kernel_rfl) (w_es1 (w_bin (w_bin (w_fn (vs := [.scr l, .int 4]) (by kernel_rfl) (s_cell_at H (by omega) (by decide) fun v => w_pv (v := .int 4) (by kernel_rfl) (k_mod (by decide) (w_pv (v := .int 3) (by kernel_rfl) (k_mod (by decide) (w_es0 ?_))))))))))
  have v0 := Int.emod_nonneg (v % 4) (by decide : (3 : Int) ≠ 0)
  have v1 := Int.emod_lt_of_pos (v % 4) (by decide : (0 : Int) < 3)
  generalize v % 4 % 3 = turns at v0 v1 ⊢
  refine rngOf_run (lo := 0) (hi := turns) rfl ⟨by decide, by decide, by omega, by omega⟩ (forK_rng ?_)
  refine for_env (fun i E σ' => ∃ ps T, E = [nv "_law_script" (.scr l), nv "_law_many" (.int many), nv "_law_ties" (.ref T)] ∧ σ' T = some (.list (pairsV ps)) ∧ ps.length ≤ 10000 + i) (sub_lk (by kernel_rfl)) ⟨ps, T, rfl, hT, hpl⟩ (fun i x E σ' K hx hI hn' hr => ?_) fun E σ' hI => ?_
  · obtain ⟨ps, T, rfl, hT, hpl⟩ := hI
    obtain ⟨rfl, hlt⟩ := range_at hx
    have hln := pairs_len ps
    refine w_turn (by kernel_rfl) (w_let (by kernel_rfl) (w_call (fv := .fn "_law_wrong") (by kernel_rfl) (w_es1 (w_pv (v := .int many) (by kernel_rfl) (w_es1 (w_pv (v := .ref T) (by kernel_rfl) (w_es1 (w_call (fv := .fn "_law_cell_at") (by kernel_rfl) (w_es1 (w_pv (v := .scr l) (by kernel_rfl) (w_es1 (w_bin (w_pv (v := .int 5) (by kernel_rfl) (w_bin (w_pv (v := .int 2) (by kernel_rfl) (w_pv (v := .int (0 + i)) (by kernel_rfl) (k_mul (.inl (by unfold short; decide)) (k_add (w_es0 (k_fn (s_cell_at H (by omega) (by omega) fun c5 => ?_)))))))))))))))))))))
    refine w_es1 (w_bin (w_fn (vs := [.scr l, .int 6]) (by kernel_rfl) (s_cell_at H (by omega) (by decide) fun c6 => w_bin (w_pv (v := .int 10) (by kernel_rfl) (w_pv (v := .int 20) (by kernel_rfl) (k_pow (by decide) (k_mod (by decide) (w_es0 (k_fn (s_wrong H (by omega) hT fun p q σ₂ x2 => ?_))))))))))
    have hT2 := x2 T _ hT
    refine w_let (by kernel_rfl) (w_bin (w_call (fv := .fn "_law_cell_at") (by kernel_rfl) (w_es1 (w_pv (v := .scr l) (by kernel_rfl) (w_es1 (w_bin (w_pv (v := .int 6) (by kernel_rfl) (w_bin (w_pv (v := .int 2) (by kernel_rfl) (w_pv (v := .int (0 + i)) (by kernel_rfl) (k_mul (.inl (by unfold short; decide)) (k_add (w_es0 (k_fn (s_cell_at H (by omega) (by omega) fun c7 => ?_)))))))))))))))
    refine w_bin (w_blt (vs := [.ref T]) (fv := .blt "len") (by kernel_rfl) (c_len hT2 (w_pv (v := .int 1) (by kernel_rfl) (k_add (k_mod (by omega) ?_)))))
    have a0 := Int.emod_nonneg c7 (show (((pairsV ps).length : Int) + 1) ≠ 0 by omega)
    have a1 := Int.emod_lt_of_pos c7 (show (0 : Int) < (((pairsV ps).length : Int) + 1) by omega)
    generalize c7 % (((pairsV ps).length : Int) + 1) = at_ at a0 a1 ⊢
    refine w_let (by kernel_rfl) (w_bin (w_bin (w_upto (a := T) (j := at_) (by kernel_rfl) hT2 ⟨a0, by omega⟩ fun c1 n1 => w_lst rfl (w_pvs (vs := [.tup [.int p, .int q]]) (by kernel_rfl) fun c2 n2 => ?_))))
    have h21 : c1 ≠ c2 := ne_of (σ := σ₂.set c1 (.list ((pairsV ps).take at_.toNat))) (set_self _ _ _) n2
    have hT3 : (σ₂.set c1 (.list ((pairsV ps).take at_.toNat))) T = some (.list (pairsV ps)) := (set_ne _ _ (ne_of hT2 n1)).trans hT2
    have hT4 : ((σ₂.set c1 (.list ((pairsV ps).take at_.toNat))).set c2 (.list [.tup [.int p, .int q]])) T = some (.list (pairsV ps)) := (set_ne _ _ (ne_of hT3 n2)).trans hT3
    have htk : ((pairsV ps).take at_.toNat).length ≤ (pairsV ps).length := by rw [List.length_take]; exact Nat.min_le_right _ _
    refine k_cat ((set_ne _ _ h21).trans (set_self _ _ _)) (set_self _ _ _) (by rw [List.length_singleton]; omega) fun c3 n3 => ?_
    have hT5 := (set_ne _ (.list ((pairsV ps).take at_.toNat ++ [.tup [.int p, .int q]])) (ne_of hT4 n3)).trans hT4
    have h5 : (((σ₂.set c1 (.list ((pairsV ps).take at_.toNat))).set c2 (.list [.tup [.int p, .int q]])).set c3 (.list ((pairsV ps).take at_.toNat ++ [.tup [.int p, .int q]]))) c3 = some (.list ((pairsV ps).take at_.toNat ++ [.tup [.int p, .int q]])) := set_self _ _ _
    generalize ((σ₂.set c1 (.list ((pairsV ps).take at_.toNat))).set c2 (.list [.tup [.int p, .int q]])).set c3 (.list ((pairsV ps).take at_.toNat ++ [.tup [.int p, .int q]])) = σ₅ at hT5 h5 ⊢
    refine w_from (a := T) (j := at_) (by kernel_rfl) hT5 ⟨a0, by omega⟩ fun c4 n4 => k_cat ((set_ne _ _ (ne_of h5 n4)).trans h5) (set_self _ _ _) ?_ fun c5 n5 => ?_
    · rw [List.length_append, List.length_take, List.length_drop, List.length_singleton]; omega
    · rw [cut_pairs]
      refine w_nil (hn' _ _ _ ⟨_, c5, rfl, set_self _ _ _, ?_⟩ (sub_lk (by kernel_rfl)) trivial)
      rw [List.length_append, List.length_append, List.length_take, List.length_drop, List.length_singleton]; omega
  obtain ⟨ps, T, rfl, hT, hpl⟩ := hI
  rw [range_ct] at hpl
  have hln := pairs_len ps
  refine w_next (w_ift (t_cmp (w_bin (w_fn (vs := [.scr l, .int 9]) (by kernel_rfl) (s_cell_at H (by omega) (by decide) fun c9 => w_pv (v := .int 7) (by kernel_rfl) (k_mod (by decide) (w_cm1 (w_pv (v := .int 1) (by kernel_rfl) (k_eq ?_)))))))))
  refine k_joinS (fun E σ'' => ∃ many : Int, E = [nv "_law_script" (.scr l), nv "_law_many" (.int many), nv "_law_ties" (.ref T)] ∧ σ'' T = some (.list (pairsV ps))) (fun E σ₆ hI => ?_) (fun _ k => ?_) fun _ k => w_nil (k _ _ ⟨many, rfl, hT⟩)
  · obtain ⟨many, rfl, hT⟩ := hI
    refine w_let (by kernel_rfl) (w_blt (vs := [.ref T]) (fv := .typ "list") (by kernel_rfl) (k_listL hT fun Hd hHd => ?_))
    have nTH := ne_of hT hHd
    have hT7 : (σ₆.set Hd (.list (pairsV ps))) T = some (.list (pairsV ps)) := (set_ne _ _ nTH).trans hT
    have hH7 : (σ₆.set Hd (.list (pairsV ps))) Hd = some (.list (pairsV ps)) := set_self _ _ _
    generalize σ₆.set Hd (.list (pairsV ps)) = σ₇ at hT7 hH7 ⊢
    refine w_name (v := .int 7) (by kernel_rfl) ?_
    refine w_try (fun E σ'' => E = [nv "_law_script" (.scr l), nv "_law_many" (.int many), nv "_law_ties" (.ref T), nv "_law_handed" (.ref Hd), nv "_law_told" (.int (dueV many ps))] ∧ σ'' T = some (.list (pairsV ps)) ∧ σ'' Hd = some (.list (pairsV ps))) (by kernel_rfl) (fun E σ'' hI => ?_) fun k => ?_
    · obtain ⟨rfl, hT, hH⟩ := hI
      refine w_rete (w_and (w_cmp (w_pv (v := .int (dueV many ps)) (by kernel_rfl) (w_cm1 (w_fn (vs := [.int many, .ref T]) (by kernel_rfl) (s_due H (by omega) hT (by omega) fun σ₉ x9 => k_eq ?_))))))
      rw [beq_self_eq_true]
      refine k_true ⟨nofun, fun _ => w_and1 (w_cmp (w_pv (v := .ref Hd) (by kernel_rfl) (w_cm1 (w_pv (v := .ref T) (by kernel_rfl) (k_eqL (x9 Hd _ hH) (x9 T _ hT) (h σ₉))))))⟩
    · have hisx : G.isx "Net" = false := (congrFun H.isx _).trans (by kernel_rfl)
      have inTo : ∀ p dx, σ₇ p = none → σ₇ dx = none → p ≠ dx → ((σ₇.set dx (.attrs [])).set p (.inst "Net" dx)) p = some (.inst "Net" dx) ∧ ((σ₇.set dx (.attrs [])).set p (.inst "Net" dx)) dx = some (.attrs []) ∧ ∀ a, σ₇ a = some (.list (pairsV ps)) → ((σ₇.set dx (.attrs [])).set p (.inst "Net" dx)) a = some (.list (pairsV ps)) ∧ a ≠ dx := fun p dx hp hdx hne =>
        ⟨set_self _ _ _, (set_ne _ _ (Ne.symm hne)).trans (set_self _ _ _), fun a ha => ⟨(set_ne _ _ (ne_of ha hp)).trans ((set_ne _ _ (ne_of ha hdx)).trans ha), ne_of ha hdx⟩⟩
      by_cases h7 : dueV many ps = 7
      · refine .inl (w_blt (vs := [.int many, .ref Hd]) (fv := .cls "Net") (by kernel_rfl) ⟨hisx, fun p dx hp hdx hne => ?_⟩)
        obtain ⟨g1, g2, g3⟩ := inTo p dx hp hdx hne
        refine s_init H (by omega) h7 g1 g2 (g3 Hd hH7).1 fun σ₈ x8 => ⟨rfl, k _ _ ⟨?_, x8 T _ (g3 T hT7).2 (g3 T hT7).1, x8 Hd _ (g3 Hd hH7).2 (g3 Hd hH7).1⟩⟩
        rw [h7]; kernel_rfl
      · refine .inr ⟨"TieError", by kernel_rfl, w_rcls rfl (c := "Net") (vs := [.int many, .ref Hd]) (by kernel_rfl) hisx fun p dx hp hdx hne => ?_⟩
        obtain ⟨g1, g2, g3⟩ := inTo p dx hp hdx hne
        have hv : dueV many ps = 0 ∨ dueV many ps = 1 ∨ dueV many ps = 2 := by
          unfold dueV at h7 ⊢
          by_cases hm : many < 0 ∨ many > 24
          · rw [if_pos hm]; exact .inl rfl
          · rw [if_neg hm] at h7 ⊢
            exact .inr ((dueF_is many ps []).resolve_left h7)
        obtain ⟨b0, b1, b2, e1, e2, e3, e4, e5, e6, e7⟩ := ask_exc _ hv
        refine r_init H (by omega) h7 g1 g2 (g3 Hd hH7).1 fun σ₈ x8 => ?_
        have hup : G.up (excOf (dueV many ps)) = upL (excOf (dueV many ps)) := congrFun H.up _
        refine ⟨?_, fun a ha => ?_⟩
        · show (G.up (excOf (dueV many ps))).contains _ = true
          rw [hup]; exact e5
        · rw [show (G.cx glL (d - 1) none true true fun _ _ => False).up (excOf (dueV many ps)) = upL (excOf (dueV many ps)) from hup, upd_lk]
          have k1 := x8 T _ (g3 T hT7).2 (g3 T hT7).1
          have k2 := x8 Hd _ (g3 Hd hH7).2 (g3 Hd hH7).1
          have y1 := (set_ne σ₈ (.exc (excOf (dueV many ps)) (upL (excOf (dueV many ps)))) (ne_of k1 ha)).trans k1
          have y2 := (set_ne σ₈ (.exc (excOf (dueV many ps)) (upL (excOf (dueV many ps)))) (ne_of k2 ha)).trans k2
          refine w_let (by kernel_rfl) (w_fn (vs := [.ref a]) (by kernel_rfl) (s_class H (by omega) (set_self _ _ _) e1 e2 e3 e4 e5 e6 fun σ₉ x9 => w_nil ?_))
          rw [e7]
          show exs _ _ _ _ ((lk _).but _) _ _
          rw [but_lk]
          exact k _ _ ⟨by kernel_rfl, x9 T _ y1, x9 Hd _ y2⟩
  · refine w_let (by kernel_rfl) (w_sub rfl (w_lst rfl (w_es1 (w_pv (v := .int (-1)) (by kernel_rfl) (w_es1 (w_pv (v := .int 25) (by kernel_rfl) (w_es1 (w_bin (w_pv (v := .int (-1)) (by kernel_rfl) (w_bin (w_fn (vs := [.scr l, .int 6]) (by kernel_rfl) (s_cell_at H (by omega) (by decide) fun u6 => w_bin (w_pv (v := .int 10) (by kernel_rfl) (w_pv (v := .int 20) (by kernel_rfl) (k_pow (by decide) (k_mod (by decide) (k_sub ?_)))))))))))))))))
    refine w_es1 (w_bin (w_pv (v := .int 25) (by kernel_rfl) (w_bin (w_fn (vs := [.scr l, .int 6]) (by kernel_rfl) (s_cell_at H (by omega) (by decide) fun u7 => w_bin (w_pv (v := .int 10) (by kernel_rfl) (w_pv (v := .int 20) (by kernel_rfl) (k_pow (by decide) (k_mod (by decide) (k_add (w_es0 fun c hc => ?_)))))))))))
    have hTc := fun o => (set_ne σ' o (ne_of hT hc)).trans hT
    refine w_bin (w_bin (w_fn (vs := [.scr l, .int 9]) (by kernel_rfl) (s_cell_at H (by omega) (by decide) fun u9 => w_pv (v := .int 7) (by kernel_rfl) (k_div ⟨by decide, by unfold short; decide⟩ (w_pv (v := .int 4) (by kernel_rfl) (k_mod (by decide) ?_))))))
    rcases (show u9 / 7 % 4 = 0 ∨ u9 / 7 % 4 = 1 ∨ u9 / 7 % 4 = 2 ∨ u9 / 7 % 4 = 3 by omega) with z | z | z | z
    · rw [z]; exact k_at (set_self _ _ _) (by decide) rfl (w_nil (k _ _ ⟨-1, by kernel_rfl, hTc _⟩))
    · rw [z]; exact k_at (set_self _ _ _) (by decide) rfl (w_nil (k _ _ ⟨25, by kernel_rfl, hTc _⟩))
    · rw [z]; exact k_at (set_self _ _ _) (by decide) rfl (w_nil (k _ _ ⟨-1 - u6 % 10 ^ Int.toNat 20, by kernel_rfl, hTc _⟩))
    · rw [z]; exact k_at (set_self _ _ _) (by decide) rfl (w_nil (k _ _ ⟨25 + u7 % 10 ^ Int.toNat 20, by kernel_rfl, hTc _⟩))
end
end Mine

set_option maxRecDepth 100000
set_option maxHeartbeats 0
set_option linter.unusedVariables false
namespace Mine.Hd
open PySem PySem.W PySem.Calls

theorem by_segT {p : Program} {w : World} {n₀ : Nat} {ann : Option Value} {n : Nat} {s : SharedT} {l : List Stmt} {env : Env} {c : Code} {q : Pos} {B : List Frame} {r : Option (Flow × SharedT × Code × Pos)}
    (h : Fast.tw10110043849684766642 Fast.tw14364793385576792824 p w n₀ ann 1 n s ⟨(Fast.tw12563942051412417395 l env).wrap doneF deadEnd id id, c, q, B⟩ = r) : segRunT treeTable p w n₀ ann 1 n s (piecesOf l env c q B) = r := by
  rw [Fast.te10110043849684766642, Fast.te14364793385576792824, piecesOf, Fast.te12563942051412417395]; exact h
theorem by_topGo {p : Program} {w : World} {n₀ : Nat} {ann : Option Value} {n : Nat} {s s' : Shared} {t : Thread} {c c' : Code} {q : Pos} {B : List Frame}
    (h : Fast.tw15667345088766844465 Fast.tw14364793385576792824 p w n₀ ann n s t = some (s', ⟨Fast.tw11892475500146522536 Fast.tw14364793385576792824 c, c', q, B⟩)) : topGo treeTable p w n₀ ann n s t = some (s', ⟨denote treeTable c, c', q, B⟩) := by
  rw [Fast.te15667345088766844465, Fast.te14364793385576792824, Fast.te11892475500146522536]; exact h
theorem by_seg {p : Program} {w : World} {n₀ : Nat} {ann : Option Value} {b n : Nat} {s : Shared} {t : Thread} {r : Option (Flow × Shared × Code × Pos)}
    (h : Fast.tw14374325043358763698 Fast.tw14364793385576792824 p w n₀ ann b n s t = r) : segRun treeTable p w n₀ ann b n s t = r := by
  rw [Fast.te14374325043358763698, Fast.te14364793385576792824]; exact h
theorem by_topRun {p : Program} {w : World} {n₀ : Nat} {ann : Option Value} {n : Nat} {s : Shared} {t : Thread} {r : Option Shared}
    (h : Fast.tw14082659384304107361 Fast.tw14364793385576792824 p w n₀ ann n s t = r) : topRun treeTable p w n₀ ann n s t = r := by
  rw [Fast.te14082659384304107361, Fast.te14364793385576792824]; exact h
theorem by_seen {q : Program} {loose mods : List Str} {Xt : Shared → Bool} {g0 : Bool} {s : Shared} {r}
    (h : Fast.tw4187177175401517315 q loose mods Xt g0 s = r) : openSeen q loose mods Xt g0 s = r := by
  rw [Fast.te4187177175401517315]; exact h
noncomputable def z0 : Str := ⟨⟨[60, 109, 111, 100, 117, 108, 101, 62]⟩⟩
noncomputable def z1 : Str := ⟨⟨[47, 99, 108, 97, 105, 109, 47, 99, 117, 116, 46, 112, 121]⟩⟩
noncomputable def z2 : Str := ⟨⟨[95, 95, 109, 97, 105, 110, 95, 95]⟩⟩
noncomputable def z3 : Str := ⟨⟨[95, 95, 110, 97, 109, 101, 95, 95]⟩⟩
noncomputable def z4 : Str := ⟨⟨[97, 114, 114, 111, 119, 116, 105, 101, 115, 46, 101, 114, 114, 111, 114, 115]⟩⟩
noncomputable def z5 : Str := ⟨⟨[95, 95, 100, 111, 99, 95, 95]⟩⟩
noncomputable def z6 : Str := ⟨⟨[95, 95, 112, 97, 99, 107, 97, 103, 101, 95, 95]⟩⟩
noncomputable def z7 : Str := ⟨⟨[95, 95, 108, 111, 97, 100, 101, 114, 95, 95]⟩⟩
noncomputable def z8 : Str := ⟨⟨[95, 95, 115, 112, 101, 99, 95, 95]⟩⟩
noncomputable def z9 : Str := ⟨⟨[95, 95, 97, 110, 110, 111, 116, 97, 116, 105, 111, 110, 115, 95, 95]⟩⟩
noncomputable def z10 : Str := ⟨⟨[95, 95, 98, 117, 105, 108, 116, 105, 110, 115, 95, 95]⟩⟩
noncomputable def z11 : Str := ⟨⟨[95, 95, 102, 105, 108, 101, 95, 95]⟩⟩
noncomputable def z12 : Str := ⟨⟨[95, 95, 99, 97, 99, 104, 101, 100, 95, 95]⟩⟩
noncomputable def z13 : Str := ⟨⟨[95, 119, 97, 108, 108]⟩⟩
noncomputable def z14 : Str := ⟨⟨[84, 105, 101, 69, 114, 114, 111, 114]⟩⟩
noncomputable def z15 : Str := ⟨⟨[107]⟩⟩
noncomputable def z16 : Str := ⟨⟨[95, 95, 109, 111, 100, 117, 108, 101, 95, 95]⟩⟩
noncomputable def z17 : Str := ⟨⟨[95, 95, 113, 117, 97, 108, 110, 97, 109, 101, 95, 95]⟩⟩
noncomputable def z18 : Str := ⟨⟨[95, 95, 102, 105, 114, 115, 116, 108, 105, 110, 101, 110, 111, 95, 95]⟩⟩
noncomputable def z19 : Str := ⟨⟨[95, 95, 115, 116, 97, 116, 105, 99, 95, 97, 116, 116, 114, 105, 98, 117, 116, 101, 115, 95, 95]⟩⟩
noncomputable def z20 : Str := ⟨⟨[95, 95, 119, 101, 97, 107, 114, 101, 102, 95, 95]⟩⟩
noncomputable def z21 : Str := ⟨⟨[78, 111, 80, 111, 105, 110, 116, 115]⟩⟩
noncomputable def z22 : Str := ⟨⟨[78, 111, 80, 111, 105, 110, 116]⟩⟩
noncomputable def z23 : Str := ⟨⟨[78, 111, 84, 105, 101]⟩⟩
noncomputable def z24 : Str := ⟨⟨[84, 119, 105, 99, 101, 84, 111, 108, 100]⟩⟩
noncomputable def z25 : Str := ⟨⟨[78, 111, 65, 114, 114, 111, 119]⟩⟩
noncomputable def z26 : Str := ⟨⟨[82, 111, 117, 110, 100]⟩⟩
noncomputable def z27 : Str := ⟨⟨[97, 114, 114, 111, 119, 116, 105, 101, 115, 46, 110, 101, 116, 115]⟩⟩
noncomputable def z28 : Str := ⟨⟨[67, 108, 97, 115, 104]⟩⟩
noncomputable def z29 : Str := ⟨⟨[77, 79, 83, 84, 95, 80, 79, 73, 78, 84, 83]⟩⟩
noncomputable def z30 : Str := ⟨⟨[105, 115, 95, 119, 104, 111, 108, 101]⟩⟩
noncomputable def z31 : Str := ⟨⟨[105, 115, 95, 112, 111, 105, 110, 116]⟩⟩
noncomputable def z32 : Str := ⟨⟨[110, 101, 101, 100, 95, 112, 111, 105, 110, 116, 115]⟩⟩
noncomputable def z33 : Str := ⟨⟨[116, 104, 105, 110, 103]⟩⟩
noncomputable def z34 : Str := ⟨⟨[109, 97, 110, 121]⟩⟩
noncomputable def z35 : Str := ⟨⟨[108, 97, 119, 95, 117, 102, 48, 53, 48, 48, 50, 56, 95, 48, 50]⟩⟩
noncomputable def z36 : Str := ⟨⟨[78, 101, 116]⟩⟩
noncomputable def z37 : Str := ⟨⟨[95, 108, 97, 119, 95, 99, 101, 108, 108, 95, 97, 116]⟩⟩
noncomputable def z38 : Str := ⟨⟨[95, 95, 105, 110, 105, 116, 95, 95]⟩⟩
noncomputable def z39 : Str := ⟨⟨[110, 101, 101, 100, 95, 112, 111, 105, 110, 116]⟩⟩
noncomputable def z40 : Str := ⟨⟨[116, 105, 101, 100]⟩⟩
noncomputable def z41 : Str := ⟨⟨[110, 101, 97, 114]⟩⟩
noncomputable def z42 : Str := ⟨⟨[112, 97, 105, 114, 115]⟩⟩
noncomputable def z43 : Str := ⟨⟨[78, 101, 116, 46, 95, 95, 105, 110, 105, 116, 95, 95]⟩⟩
noncomputable def z44 : Str := ⟨⟨[115, 101, 108, 102]⟩⟩
noncomputable def z45 : Str := ⟨⟨[111, 110, 101]⟩⟩
noncomputable def z46 : Str := ⟨⟨[78, 101, 116, 46, 110, 101, 101, 100, 95, 112, 111, 105, 110, 116]⟩⟩
noncomputable def z47 : Str := ⟨⟨[111, 116, 104, 101, 114]⟩⟩
noncomputable def z48 : Str := ⟨⟨[78, 101, 116, 46, 116, 105, 101, 100]⟩⟩
noncomputable def z49 : Str := ⟨⟨[78, 101, 116, 46, 110, 101, 97, 114]⟩⟩
noncomputable def z50 : Str := ⟨⟨[78, 101, 116, 46, 112, 97, 105, 114, 115]⟩⟩
noncomputable def z51 : Str := ⟨⟨[114, 111, 119, 115]⟩⟩
noncomputable def z52 : Str := ⟨⟨[95, 95, 100, 105, 99, 116, 95, 95]⟩⟩
noncomputable def z53 : Str := ⟨⟨[95, 108, 97, 119, 95, 115, 99, 114, 105, 112, 116]⟩⟩
noncomputable def z54 : Str := ⟨⟨[95, 108, 97, 119, 95, 107]⟩⟩
noncomputable def z55 : Str := ⟨⟨[95, 108, 97, 119, 95, 111, 110, 108, 121]⟩⟩
noncomputable def z56 : Str := ⟨⟨[95, 108, 97, 119, 95, 100, 114, 97, 119, 110]⟩⟩
noncomputable def z57 : Str := ⟨⟨[95, 108, 97, 119, 95, 111, 114, 100, 101, 114]⟩⟩
noncomputable def z58 : Str := ⟨⟨[95, 108, 97, 119, 95, 98, 105, 116]⟩⟩
noncomputable def z59 : Str := ⟨⟨[95, 108, 97, 119, 95, 97, 98, 111, 118, 101]⟩⟩
noncomputable def z60 : Str := ⟨⟨[95, 108, 97, 119, 95, 114, 101, 97, 99, 104, 101, 100]⟩⟩
noncomputable def z61 : Str := ⟨⟨[95, 108, 97, 119, 95, 114, 105, 110, 103, 101, 100]⟩⟩
noncomputable def z62 : Str := ⟨⟨[95, 108, 97, 119, 95, 109, 97, 100, 101]⟩⟩
noncomputable def z63 : Str := ⟨⟨[95, 108, 97, 119, 95, 110, 101, 116]⟩⟩
noncomputable def z64 : Str := ⟨⟨[95, 108, 97, 119, 95, 98, 111, 116, 104]⟩⟩
noncomputable def z65 : Str := ⟨⟨[95, 108, 97, 119, 95, 99, 108, 97, 115, 115]⟩⟩
noncomputable def z66 : Str := ⟨⟨[95, 108, 97, 119, 95, 100, 117, 101]⟩⟩
noncomputable def z67 : Str := ⟨⟨[95, 108, 97, 119, 95, 101]⟩⟩
noncomputable def z68 : Str := ⟨⟨[95, 108, 97, 119, 95, 97, 116]⟩⟩
noncomputable def z69 : Str := ⟨⟨[95, 108, 97, 119, 95, 102, 111, 117, 110, 100]⟩⟩
noncomputable def z70 : Str := ⟨⟨[95, 108, 97, 119, 95, 99, 101, 108, 108]⟩⟩
noncomputable def z71 : Str := ⟨⟨[95, 108, 97, 119, 95, 111, 110, 101]⟩⟩
noncomputable def z72 : Str := ⟨⟨[95, 108, 97, 119, 95, 111, 116, 104, 101, 114]⟩⟩
noncomputable def z73 : Str := ⟨⟨[95, 108, 97, 119, 95, 109, 97, 110, 121]⟩⟩
noncomputable def z74 : Str := ⟨⟨[95, 108, 97, 119, 95, 102, 105, 114, 115, 116]⟩⟩
noncomputable def z75 : Str := ⟨⟨[95, 108, 97, 119, 95, 115, 101, 99, 111, 110, 100]⟩⟩
noncomputable def z76 : Str := ⟨⟨[95, 108, 97, 119, 95, 117, 112]⟩⟩
noncomputable def z77 : Str := ⟨⟨[95, 108, 97, 119, 95, 109, 105, 100, 100, 108, 101]⟩⟩
noncomputable def z78 : Str := ⟨⟨[95, 108, 97, 119, 95, 119, 97, 121]⟩⟩
noncomputable def z79 : Str := ⟨⟨[95, 108, 97, 119, 95, 110, 97, 109, 101, 115]⟩⟩
noncomputable def z80 : Str := ⟨⟨[95, 108, 97, 119, 95, 116, 105, 101, 115]⟩⟩
noncomputable def z81 : Str := ⟨⟨[95, 108, 97, 119, 95, 112, 97, 105, 114]⟩⟩
noncomputable def z82 : Str := ⟨⟨[95, 108, 97, 119, 95, 116, 105, 101]⟩⟩
noncomputable def z83 : Str := ⟨⟨[95, 108, 97, 119, 95, 116, 111, 108, 100]⟩⟩
noncomputable def z84 : Str := ⟨⟨[95, 108, 97, 119, 95, 104, 97, 118, 101]⟩⟩
noncomputable def z85 : Str := ⟨⟨[95, 108, 97, 119, 95, 119, 114, 111, 110, 103]⟩⟩
noncomputable def z86 : Str := ⟨⟨[108, 97, 119]⟩⟩
noncomputable def z87 : Str := ⟨⟨[95, 108, 97, 119, 95, 102, 97, 114]⟩⟩
noncomputable def z88 : Str := ⟨⟨[95, 108, 97, 119, 95, 112, 111, 105, 110, 116]⟩⟩
noncomputable def z89 : Str := ⟨⟨[95, 108, 97, 119, 95, 116, 117, 114, 110]⟩⟩
noncomputable def z90 : Str := ⟨⟨[95, 108, 97, 119, 95, 119, 114, 111, 110, 103, 95, 104, 101, 114, 101]⟩⟩
noncomputable def z91 : Str := ⟨⟨[95, 108, 97, 119, 95, 104, 97, 110, 100, 101, 100]⟩⟩
noncomputable def pw : Program := PySem.Challenge.pw_uf050028_02
noncomputable def sT (i : Nat) : Stmt := pw.main.body.getD i (.Pass default)
noncomputable def sM (i j : Nat) : Stmt := match sT i with
  | .ClassDef _ _ _ b _ _ _ _ _ _ _ => b.getD j (.Pass default)
  | _ => .Pass default
noncomputable def fA (s : Stmt) : Arguments := match s with
  | .FunctionDef _ a _ _ _ _ _ _ _ _ => a
  | _ => default
noncomputable def fB (s : Stmt) : List Stmt := match s with
  | .FunctionDef _ _ b _ _ _ _ _ _ _ => b
  | _ => []
noncomputable def fS (s : Stmt) : Scope := match s with
  | .FunctionDef _ _ _ _ _ _ c _ _ _ => c
  | _ => default
noncomputable def life : Life := ⟨[], [], [], 0, [], [], false, #[], [], 0, false, false, false, 0, [2000, 10, 10], false, 0, true, [], [], 0, false⟩
noncomputable def drawn : Drawn := ⟨0, 0, 0, 0⟩
noncomputable def ann : Option Value := (some (.ref 6))
noncomputable def env : Env := ⟨pw.main.scope, mainNs, mainNs, [], Str.empty, none, (.ref 13), some 14, 0⟩
noncomputable def cE : Code := .body (behindTheImports pw) env
noncomputable def fr0 : List Frame := [topFrame ⟨0, 0, 0, 0⟩]
noncomputable def o0 (P : Params) : Obj := ⟨(.type SL.s2766695959194262286x5), none, (.seq #[] 0), #[]⟩
noncomputable def o1 (P : Params) : Obj := ⟨.none, none, (.fields #[]), #[]⟩
noncomputable def o2 (P : Params) : Obj := ⟨(.type SL.s5856160107412720595x4), none, (.fields #[(.str z0 182), (.str z0 183), (.str z1 184), (.int 1 0), (.int 0 0), (.int 0 0), (.int 0 0), (.int 0 0), (.ref 11), (.bool false), (.int 181 0), (.ref 12), .none, .none, .none, .none, (.int 185 0), (.int 1 0), (.str z1 186)]), #[]⟩
noncomputable def o3 (P : Params) : Obj := ⟨(.type SL.s658472552662922059x5), none, .plain, #[(some (.ref 13)), (some (.ref 3)), (some (.ref 3)), none, (some (.str z2 164)), none, (some (.ref 0))]⟩
noncomputable def ha (P : Params) : Heap := ⟨⟨[(boot_o_0 P), (boot_o_1 P), (boot_o_2 P), (boot_o_3 P), (boot_o_4 P), (boot_o_5 P), (boot_o_6 P), (boot_o_7 P), (boot_o_8 P), (boot_o_9 P), (boot_o_10 P), (o0 P), (o1 P), (o2 P), (o3 P)]⟩, ⟨[], [], [], 0, [], [], false, #[], [], 0, false, false, false, 0, [2000, 10, 10], false, 0, true, [], [], 0, false⟩⟩
noncomputable def tr0 (P : Params) : BT := (.node (boot_o_0 P) (.node (boot_o_1 P) (.node (boot_o_3 P) (.node (boot_o_7 P) .nil .nil) (.node (o0 P) .nil .nil)) (.node (boot_o_5 P) (.node (boot_o_9 P) .nil .nil) (.node (o2 P) .nil .nil))) (.node (boot_o_2 P) (.node (boot_o_4 P) (.node (boot_o_8 P) .nil .nil) (.node (o1 P) .nil .nil)) (.node (boot_o_6 P) (.node (boot_o_10 P) .nil .nil) (.node (o3 P) .nil .nil))))
noncomputable def o4 (P : Params) : Obj := ⟨(.type SL.s14018661285674007319x4), none, (.dict #[⟨(PySem.PyData.keyHash P z3), (.str z3 165), (.str z4 194)⟩, ⟨(PySem.PyData.keyHash P z5), (.str z5 166), .none⟩, ⟨(PySem.PyData.keyHash P z6), (.str z6 167), .none⟩, ⟨(PySem.PyData.keyHash P z7), (.str z7 168), (.builtin SL.s7097527257260152453x26)⟩, ⟨(PySem.PyData.keyHash P z8), (.str z8 169), .none⟩, ⟨(PySem.PyData.keyHash P z9), (.str z9 170), (.ref 6)⟩, ⟨(PySem.PyData.keyHash P z10), (.str z10 171), (.ref 4)⟩, ⟨(PySem.PyData.keyHash P z11), (.str z11 173), (.str z1 172)⟩, ⟨(PySem.PyData.keyHash P z12), (.str z12 174), .none⟩, ⟨(PySem.PyData.keyHash P z13), (.str z13 193), (.ref 21)⟩, ⟨(PySem.PyData.keyHash P z14), (.str z14 213), (.ref 31)⟩] 11), #[]⟩
noncomputable def o5 (P : Params) : Obj := ⟨.none, none, (.fields #[(.int 1 0), (.int 0 0), (.ref 20), (.int 5 0), (.int 0 0), (.ref 27)]), #[]⟩
noncomputable def o6 (P : Params) : Obj := ⟨(.type SL.s2766695959194262286x5), none, (.seq #[] 0), #[]⟩
noncomputable def o7 (P : Params) : Obj := ⟨.none, none, (.fields #[]), #[]⟩
noncomputable def o8 (P : Params) : Obj := ⟨(.type SL.s2766695959194262286x5), none, (.seq #[(.str z15 190)] 0), #[]⟩
noncomputable def o9 (P : Params) : Obj := ⟨(.type SL.s2766695959194262286x5), none, (.seq #[] 0), #[]⟩
noncomputable def o10 (P : Params) : Obj := ⟨.none, none, (.func ⟨z13, z13, (fA (sT 0)), (.stmts (fB (sT 0))), (fS (sT 0)), 0, [], .none, .none, .none, .none, none, .none, .none, 0⟩), #[]⟩
noncomputable def o11 (P : Params) : Obj := ⟨(.type SL.s5856160107412720595x4), none, (.fields #[(.str z13 187), (.str z13 188), (.str z1 189), (.int 1 0), (.int 1 0), (.int 0 0), (.int 0 0), (.int 3 0), (.ref 15), (.bool true), (.int 181 0), (.ref 16), .none, (.ref 17), (.ref 18), (.ref 19), (.int 191 0), (.int 1 0), (.str z1 192)]), #[]⟩
noncomputable def o12 (P : Params) : Obj := ⟨(.type SL.s7174869446012820540x8), none, (.func ⟨z13, z13, (fA (sT 0)), (.stmts (fB (sT 0))), (fS (sT 0)), 3, [], .none, .none, .none, (.str z2 164), none, (.ref 20), .none, 0⟩), #[]⟩
noncomputable def o13 (P : Params) : Obj := ⟨(.type SL.s2766695959194262286x5), none, (.seq #[(.type SL.s6070975301684473832x10)] 0), #[]⟩
noncomputable def o14 (P : Params) : Obj := ⟨(.type SL.s11030030927630378310x26), none, (.fields #[(.builtin SL.s10062305145149207511x16), (.type SL.s17162191345867700912x4)]), #[]⟩
noncomputable def o15 (P : Params) : Obj := ⟨(.type SL.s14018661285674007319x4), none, (.dict #[⟨(PySem.PyData.keyHash P z16), (.str z16 203), (.str z4 194)⟩, ⟨(PySem.PyData.keyHash P z17), (.str z17 205), (.str z14 204)⟩, ⟨(PySem.PyData.keyHash P z18), (.str z18 207), (.int 5 206)⟩, ⟨(PySem.PyData.keyHash P z19), (.str z19 208), (.ref 29)⟩] 4), #[]⟩
noncomputable def o16 (P : Params) : Obj := ⟨(.type SL.s2766695959194262286x5), none, (.seq #[] 0), #[]⟩
noncomputable def o17 (P : Params) : Obj := ⟨.none, none, (.fields #[]), #[]⟩
noncomputable def o18 (P : Params) : Obj := ⟨(.type SL.s5856160107412720595x4), none, (.fields #[(.str z14 198), (.str z14 199), (.str z1 200), (.int 5 0), (.int 0 0), (.int 0 0), (.int 0 0), (.int 0 0), (.ref 25), (.bool false), (.int 181 0), (.ref 26), .none, .none, .none, .none, (.int 201 0), (.int 5 0), (.str z1 202)]), #[]⟩
noncomputable def o19 (P : Params) : Obj := ⟨(.type SL.s658472552662922059x5), none, .plain, #[(some (.ref 27)), (some (.ref 3)), (some (.ref 24)), none, (some (.str z4 194)), none, (some (.ref 0))]⟩
noncomputable def o20 (P : Params) : Obj := ⟨(.type SL.s2766695959194262286x5), none, (.seq #[] 0), #[]⟩
noncomputable def o21 (P : Params) : Obj := ⟨(.type SL.s14018661285674007319x4), none, (.dict #[⟨(PySem.PyData.keyHash P z16), (.str z16 203), (.str z4 194)⟩, ⟨(PySem.PyData.keyHash P z18), (.str z18 207), (.int 5 206)⟩, ⟨(PySem.PyData.keyHash P z19), (.str z19 208), (.ref 29)⟩, ⟨(PySem.PyData.keyHash P z20), (.str z20 210), (.ref 32)⟩, ⟨(PySem.PyData.keyHash P z5), (.str z5 211), .none⟩] 3), #[]⟩
noncomputable def o22 (P : Params) : Obj := ⟨(.type SL.s17162191345867700912x4), none, (.cls ⟨z14, [(.type SL.s6070975301684473832x10)], [(.ref 31), (.type SL.s6070975301684473832x10), (.type SL.s5946037652744460706x9), (.type SL.s4278001404047624695x13), (.type SL.s2742458400755230247x6)], 30, z14, true, [], [], false, none, false⟩), #[(some (.ref 22)), none, (some (.str z14 196)), (some (.str z14 204)), (some (.builtin SL.s4209523147560561109x18)), (some (.bool true))]⟩
noncomputable def o23 (P : Params) : Obj := ⟨(.type SL.s14755015743595814543x17), none, (.fields #[(.str z20 209), (.ref 31), (.builtin SL.s10220274742760427390x26), .none]), #[]⟩
noncomputable def o24 (P : Params) : Obj := ⟨(.type SL.s4290257624100764138x5), none, (.fields #[(.ref 31), (.ref 31), (.ref 31)]), #[]⟩
noncomputable def o25 (P : Params) : Obj := ⟨(.type SL.s11030030927630378310x26), none, (.fields #[(.builtin SL.s4860613602091757760x24), (.ref 31)]), #[]⟩
noncomputable def tr1 (P : Params) : BT := (.node (boot_o_0 P) (.node (boot_o_1 P) (.node (o4 P) (.node (boot_o_7 P) (.node (o6 P) (.node (o22 P) .nil .nil) .nil) (.node (o14 P) .nil .nil)) (.node (o0 P) (.node (o10 P) .nil .nil) (.node (o18 P) .nil .nil))) (.node (boot_o_5 P) (.node (boot_o_9 P) (.node (o8 P) (.node (o24 P) .nil .nil) .nil) (.node (o16 P) .nil .nil)) (.node (o2 P) (.node (o12 P) .nil .nil) (.node (o20 P) .nil .nil)))) (.node (boot_o_2 P) (.node (boot_o_4 P) (.node (boot_o_8 P) (.node (o7 P) (.node (o23 P) .nil .nil) .nil) (.node (o15 P) .nil .nil)) (.node (o5 P) (.node (o11 P) .nil .nil) (.node (o19 P) .nil .nil))) (.node (boot_o_6 P) (.node (boot_o_10 P) (.node (o9 P) (.node (o25 P) .nil .nil) .nil) (.node (o17 P) .nil .nil)) (.node (o3 P) (.node (o13 P) .nil .nil) (.node (o21 P) .nil .nil)))))
noncomputable def sts0 : List Stmt := (pw.main.body.drop 0).take 3
noncomputable def o26 (P : Params) : Obj := ⟨(.type SL.s14018661285674007319x4), none, (.dict #[⟨(PySem.PyData.keyHash P z3), (.str z3 165), (.str z4 194)⟩, ⟨(PySem.PyData.keyHash P z5), (.str z5 166), .none⟩, ⟨(PySem.PyData.keyHash P z6), (.str z6 167), .none⟩, ⟨(PySem.PyData.keyHash P z7), (.str z7 168), (.builtin SL.s7097527257260152453x26)⟩, ⟨(PySem.PyData.keyHash P z8), (.str z8 169), .none⟩, ⟨(PySem.PyData.keyHash P z9), (.str z9 170), (.ref 6)⟩, ⟨(PySem.PyData.keyHash P z10), (.str z10 171), (.ref 4)⟩, ⟨(PySem.PyData.keyHash P z11), (.str z11 173), (.str z1 172)⟩, ⟨(PySem.PyData.keyHash P z12), (.str z12 174), .none⟩, ⟨(PySem.PyData.keyHash P z13), (.str z13 193), (.ref 21)⟩, ⟨(PySem.PyData.keyHash P z14), (.str z14 213), (.ref 31)⟩, ⟨(PySem.PyData.keyHash P z21), (.str z21 229), (.ref 44)⟩] 12), #[]⟩
noncomputable def o27 (P : Params) : Obj := ⟨.none, none, (.fields #[(.int 1 0), (.int 0 0), (.ref 20), (.int 5 0), (.int 0 0), (.ref 27), (.int 7 0), (.int 0 0), (.ref 40)]), #[]⟩
noncomputable def o28 (P : Params) : Obj := ⟨(.type SL.s17162191345867700912x4), none, (.cls ⟨z14, [(.type SL.s6070975301684473832x10)], [(.ref 31), (.type SL.s6070975301684473832x10), (.type SL.s5946037652744460706x9), (.type SL.s4278001404047624695x13), (.type SL.s2742458400755230247x6)], 30, z14, true, [], [(.ref 44)], false, none, false⟩), #[(some (.ref 22)), none, (some (.str z14 196)), (some (.str z14 204)), (some (.builtin SL.s4209523147560561109x18)), (some (.bool true))]⟩
noncomputable def o29 (P : Params) : Obj := ⟨(.type SL.s2766695959194262286x5), none, (.seq #[(.ref 31)] 0), #[]⟩
noncomputable def o30 (P : Params) : Obj := ⟨(.type SL.s11030030927630378310x26), none, (.fields #[(.builtin SL.s10062305145149207511x16), (.type SL.s17162191345867700912x4)]), #[]⟩
noncomputable def o31 (P : Params) : Obj := ⟨(.type SL.s14018661285674007319x4), none, (.dict #[⟨(PySem.PyData.keyHash P z16), (.str z16 221), (.str z4 194)⟩, ⟨(PySem.PyData.keyHash P z17), (.str z17 223), (.str z21 222)⟩, ⟨(PySem.PyData.keyHash P z18), (.str z18 225), (.int 7 224)⟩, ⟨(PySem.PyData.keyHash P z19), (.str z19 226), (.ref 42)⟩] 4), #[]⟩
noncomputable def o32 (P : Params) : Obj := ⟨(.type SL.s2766695959194262286x5), none, (.seq #[] 0), #[]⟩
noncomputable def o33 (P : Params) : Obj := ⟨.none, none, (.fields #[]), #[]⟩
noncomputable def o34 (P : Params) : Obj := ⟨(.type SL.s5856160107412720595x4), none, (.fields #[(.str z21 216), (.str z21 217), (.str z1 218), (.int 7 0), (.int 0 0), (.int 0 0), (.int 0 0), (.int 0 0), (.ref 38), (.bool false), (.int 181 0), (.ref 39), .none, .none, .none, .none, (.int 219 0), (.int 7 0), (.str z1 220)]), #[]⟩
noncomputable def o35 (P : Params) : Obj := ⟨(.type SL.s658472552662922059x5), none, .plain, #[(some (.ref 40)), (some (.ref 3)), (some (.ref 37)), none, (some (.str z4 194)), none, (some (.ref 0))]⟩
noncomputable def o36 (P : Params) : Obj := ⟨(.type SL.s2766695959194262286x5), none, (.seq #[] 0), #[]⟩
noncomputable def o37 (P : Params) : Obj := ⟨(.type SL.s14018661285674007319x4), none, (.dict #[⟨(PySem.PyData.keyHash P z16), (.str z16 221), (.str z4 194)⟩, ⟨(PySem.PyData.keyHash P z18), (.str z18 225), (.int 7 224)⟩, ⟨(PySem.PyData.keyHash P z19), (.str z19 226), (.ref 42)⟩, ⟨(PySem.PyData.keyHash P z5), (.str z5 227), .none⟩] 2), #[]⟩
noncomputable def o38 (P : Params) : Obj := ⟨(.type SL.s17162191345867700912x4), none, (.cls ⟨z21, [(.ref 31)], [(.ref 44), (.ref 31), (.type SL.s6070975301684473832x10), (.type SL.s5946037652744460706x9), (.type SL.s4278001404047624695x13), (.type SL.s2742458400755230247x6)], 43, z21, true, [], [], false, none, false⟩), #[(some (.ref 35)), none, (some (.str z21 214)), (some (.str z21 222)), (some (.builtin SL.s4209523147560561109x18)), (some (.bool true))]⟩
noncomputable def o39 (P : Params) : Obj := ⟨(.type SL.s4290257624100764138x5), none, (.fields #[(.ref 44), (.ref 44), (.ref 44)]), #[]⟩
noncomputable def o40 (P : Params) : Obj := ⟨(.type SL.s11030030927630378310x26), none, (.fields #[(.builtin SL.s4860613602091757760x24), (.ref 44)]), #[]⟩
noncomputable def tr2 (P : Params) : BT := (.node (boot_o_0 P) (.node (boot_o_1 P) (.node (o26 P) (.node (boot_o_7 P) (.node (o6 P) (.node (o28 P) .nil .nil) .nil) (.node (o14 P) (.node (o33 P) .nil .nil) .nil)) (.node (o0 P) (.node (o10 P) (.node (o29 P) .nil .nil) .nil) (.node (o18 P) (.node (o37 P) .nil .nil) .nil))) (.node (boot_o_5 P) (.node (boot_o_9 P) (.node (o8 P) (.node (o24 P) .nil .nil) .nil) (.node (o16 P) (.node (o35 P) .nil .nil) .nil)) (.node (o2 P) (.node (o12 P) (.node (o31 P) .nil .nil) .nil) (.node (o20 P) (.node (o39 P) .nil .nil) .nil)))) (.node (boot_o_2 P) (.node (boot_o_4 P) (.node (boot_o_8 P) (.node (o7 P) (.node (o23 P) .nil .nil) .nil) (.node (o15 P) (.node (o34 P) .nil .nil) .nil)) (.node (o27 P) (.node (o11 P) (.node (o30 P) .nil .nil) .nil) (.node (o19 P) (.node (o38 P) .nil .nil) .nil))) (.node (boot_o_6 P) (.node (boot_o_10 P) (.node (o9 P) (.node (o25 P) .nil .nil) .nil) (.node (o17 P) (.node (o36 P) .nil .nil) .nil)) (.node (o3 P) (.node (o13 P) (.node (o32 P) .nil .nil) .nil) (.node (o21 P) (.node (o40 P) .nil .nil) .nil)))))
noncomputable def sts1 : List Stmt := (pw.main.body.drop 3).take 1
noncomputable def o41 (P : Params) : Obj := ⟨(.type SL.s14018661285674007319x4), none, (.dict #[⟨(PySem.PyData.keyHash P z3), (.str z3 165), (.str z4 194)⟩, ⟨(PySem.PyData.keyHash P z5), (.str z5 166), .none⟩, ⟨(PySem.PyData.keyHash P z6), (.str z6 167), .none⟩, ⟨(PySem.PyData.keyHash P z7), (.str z7 168), (.builtin SL.s7097527257260152453x26)⟩, ⟨(PySem.PyData.keyHash P z8), (.str z8 169), .none⟩, ⟨(PySem.PyData.keyHash P z9), (.str z9 170), (.ref 6)⟩, ⟨(PySem.PyData.keyHash P z10), (.str z10 171), (.ref 4)⟩, ⟨(PySem.PyData.keyHash P z11), (.str z11 173), (.str z1 172)⟩, ⟨(PySem.PyData.keyHash P z12), (.str z12 174), .none⟩, ⟨(PySem.PyData.keyHash P z13), (.str z13 193), (.ref 21)⟩, ⟨(PySem.PyData.keyHash P z14), (.str z14 213), (.ref 31)⟩, ⟨(PySem.PyData.keyHash P z21), (.str z21 229), (.ref 44)⟩, ⟨(PySem.PyData.keyHash P z22), (.str z22 245), (.ref 56)⟩] 13), #[]⟩
noncomputable def o42 (P : Params) : Obj := ⟨.none, none, (.fields #[(.int 1 0), (.int 0 0), (.ref 20), (.int 5 0), (.int 0 0), (.ref 27), (.int 7 0), (.int 0 0), (.ref 40), (.int 9 0), (.int 0 0), (.ref 52)]), #[]⟩
noncomputable def o43 (P : Params) : Obj := ⟨(.type SL.s17162191345867700912x4), none, (.cls ⟨z14, [(.type SL.s6070975301684473832x10)], [(.ref 31), (.type SL.s6070975301684473832x10), (.type SL.s5946037652744460706x9), (.type SL.s4278001404047624695x13), (.type SL.s2742458400755230247x6)], 30, z14, true, [], [(.ref 44), (.ref 56)], false, none, false⟩), #[(some (.ref 22)), none, (some (.str z14 196)), (some (.str z14 204)), (some (.builtin SL.s4209523147560561109x18)), (some (.bool true))]⟩
noncomputable def o44 (P : Params) : Obj := ⟨(.type SL.s2766695959194262286x5), none, (.seq #[(.ref 31)] 0), #[]⟩
noncomputable def o45 (P : Params) : Obj := ⟨(.type SL.s11030030927630378310x26), none, (.fields #[(.builtin SL.s10062305145149207511x16), (.type SL.s17162191345867700912x4)]), #[]⟩
noncomputable def o46 (P : Params) : Obj := ⟨(.type SL.s14018661285674007319x4), none, (.dict #[⟨(PySem.PyData.keyHash P z16), (.str z16 237), (.str z4 194)⟩, ⟨(PySem.PyData.keyHash P z17), (.str z17 239), (.str z22 238)⟩, ⟨(PySem.PyData.keyHash P z18), (.str z18 241), (.int 9 240)⟩, ⟨(PySem.PyData.keyHash P z19), (.str z19 242), (.ref 54)⟩] 4), #[]⟩
noncomputable def o47 (P : Params) : Obj := ⟨(.type SL.s2766695959194262286x5), none, (.seq #[] 0), #[]⟩
noncomputable def o48 (P : Params) : Obj := ⟨.none, none, (.fields #[]), #[]⟩
noncomputable def o49 (P : Params) : Obj := ⟨(.type SL.s5856160107412720595x4), none, (.fields #[(.str z22 232), (.str z22 233), (.str z1 234), (.int 9 0), (.int 0 0), (.int 0 0), (.int 0 0), (.int 0 0), (.ref 50), (.bool false), (.int 181 0), (.ref 51), .none, .none, .none, .none, (.int 235 0), (.int 9 0), (.str z1 236)]), #[]⟩
noncomputable def o50 (P : Params) : Obj := ⟨(.type SL.s658472552662922059x5), none, .plain, #[(some (.ref 52)), (some (.ref 3)), (some (.ref 49)), none, (some (.str z4 194)), none, (some (.ref 0))]⟩
noncomputable def o51 (P : Params) : Obj := ⟨(.type SL.s2766695959194262286x5), none, (.seq #[] 0), #[]⟩
noncomputable def o52 (P : Params) : Obj := ⟨(.type SL.s14018661285674007319x4), none, (.dict #[⟨(PySem.PyData.keyHash P z16), (.str z16 237), (.str z4 194)⟩, ⟨(PySem.PyData.keyHash P z18), (.str z18 241), (.int 9 240)⟩, ⟨(PySem.PyData.keyHash P z19), (.str z19 242), (.ref 54)⟩, ⟨(PySem.PyData.keyHash P z5), (.str z5 243), .none⟩] 2), #[]⟩
noncomputable def o53 (P : Params) : Obj := ⟨(.type SL.s17162191345867700912x4), none, (.cls ⟨z22, [(.ref 31)], [(.ref 56), (.ref 31), (.type SL.s6070975301684473832x10), (.type SL.s5946037652744460706x9), (.type SL.s4278001404047624695x13), (.type SL.s2742458400755230247x6)], 55, z22, true, [], [], false, none, false⟩), #[(some (.ref 47)), none, (some (.str z22 230)), (some (.str z22 238)), (some (.builtin SL.s4209523147560561109x18)), (some (.bool true))]⟩
noncomputable def o54 (P : Params) : Obj := ⟨(.type SL.s4290257624100764138x5), none, (.fields #[(.ref 56), (.ref 56), (.ref 56)]), #[]⟩
noncomputable def o55 (P : Params) : Obj := ⟨(.type SL.s11030030927630378310x26), none, (.fields #[(.builtin SL.s4860613602091757760x24), (.ref 56)]), #[]⟩
noncomputable def tr3 (P : Params) : BT := (.node (boot_o_0 P) (.node (boot_o_1 P) (.node (o41 P) (.node (boot_o_7 P) (.node (o6 P) (.node (o43 P) .nil .nil) (.node (o44 P) .nil .nil)) (.node (o14 P) (.node (o33 P) .nil .nil) (.node (o52 P) .nil .nil))) (.node (o0 P) (.node (o10 P) (.node (o29 P) .nil .nil) (.node (o48 P) .nil .nil)) (.node (o18 P) (.node (o37 P) .nil .nil) .nil))) (.node (boot_o_5 P) (.node (boot_o_9 P) (.node (o8 P) (.node (o24 P) .nil .nil) (.node (o46 P) .nil .nil)) (.node (o16 P) (.node (o35 P) .nil .nil) (.node (o54 P) .nil .nil))) (.node (o2 P) (.node (o12 P) (.node (o31 P) .nil .nil) (.node (o50 P) .nil .nil)) (.node (o20 P) (.node (o39 P) .nil .nil) .nil)))) (.node (boot_o_2 P) (.node (boot_o_4 P) (.node (boot_o_8 P) (.node (o7 P) (.node (o23 P) .nil .nil) (.node (o45 P) .nil .nil)) (.node (o15 P) (.node (o34 P) .nil .nil) (.node (o53 P) .nil .nil))) (.node (o42 P) (.node (o11 P) (.node (o30 P) .nil .nil) (.node (o49 P) .nil .nil)) (.node (o19 P) (.node (o38 P) .nil .nil) .nil))) (.node (boot_o_6 P) (.node (boot_o_10 P) (.node (o9 P) (.node (o25 P) .nil .nil) (.node (o47 P) .nil .nil)) (.node (o17 P) (.node (o36 P) .nil .nil) (.node (o55 P) .nil .nil))) (.node (o3 P) (.node (o13 P) (.node (o32 P) .nil .nil) (.node (o51 P) .nil .nil)) (.node (o21 P) (.node (o40 P) .nil .nil) .nil)))))
noncomputable def sts2 : List Stmt := (pw.main.body.drop 4).take 1
noncomputable def o56 (P : Params) : Obj := ⟨(.type SL.s14018661285674007319x4), none, (.dict #[⟨(PySem.PyData.keyHash P z3), (.str z3 165), (.str z4 194)⟩, ⟨(PySem.PyData.keyHash P z5), (.str z5 166), .none⟩, ⟨(PySem.PyData.keyHash P z6), (.str z6 167), .none⟩, ⟨(PySem.PyData.keyHash P z7), (.str z7 168), (.builtin SL.s7097527257260152453x26)⟩, ⟨(PySem.PyData.keyHash P z8), (.str z8 169), .none⟩, ⟨(PySem.PyData.keyHash P z9), (.str z9 170), (.ref 6)⟩, ⟨(PySem.PyData.keyHash P z10), (.str z10 171), (.ref 4)⟩, ⟨(PySem.PyData.keyHash P z11), (.str z11 173), (.str z1 172)⟩, ⟨(PySem.PyData.keyHash P z12), (.str z12 174), .none⟩, ⟨(PySem.PyData.keyHash P z13), (.str z13 193), (.ref 21)⟩, ⟨(PySem.PyData.keyHash P z14), (.str z14 213), (.ref 31)⟩, ⟨(PySem.PyData.keyHash P z21), (.str z21 229), (.ref 44)⟩, ⟨(PySem.PyData.keyHash P z22), (.str z22 245), (.ref 56)⟩, ⟨(PySem.PyData.keyHash P z23), (.str z23 261), (.ref 68)⟩] 14), #[]⟩
noncomputable def o57 (P : Params) : Obj := ⟨.none, none, (.fields #[(.int 1 0), (.int 0 0), (.ref 20), (.int 5 0), (.int 0 0), (.ref 27), (.int 7 0), (.int 0 0), (.ref 40), (.int 9 0), (.int 0 0), (.ref 52), (.int 11 0), (.int 0 0), (.ref 64)]), #[]⟩
noncomputable def o58 (P : Params) : Obj := ⟨(.type SL.s17162191345867700912x4), none, (.cls ⟨z14, [(.type SL.s6070975301684473832x10)], [(.ref 31), (.type SL.s6070975301684473832x10), (.type SL.s5946037652744460706x9), (.type SL.s4278001404047624695x13), (.type SL.s2742458400755230247x6)], 30, z14, true, [], [(.ref 44), (.ref 56), (.ref 68)], false, none, false⟩), #[(some (.ref 22)), none, (some (.str z14 196)), (some (.str z14 204)), (some (.builtin SL.s4209523147560561109x18)), (some (.bool true))]⟩
noncomputable def o59 (P : Params) : Obj := ⟨(.type SL.s2766695959194262286x5), none, (.seq #[(.ref 31)] 0), #[]⟩
noncomputable def o60 (P : Params) : Obj := ⟨(.type SL.s11030030927630378310x26), none, (.fields #[(.builtin SL.s10062305145149207511x16), (.type SL.s17162191345867700912x4)]), #[]⟩
noncomputable def o61 (P : Params) : Obj := ⟨(.type SL.s14018661285674007319x4), none, (.dict #[⟨(PySem.PyData.keyHash P z16), (.str z16 253), (.str z4 194)⟩, ⟨(PySem.PyData.keyHash P z17), (.str z17 255), (.str z23 254)⟩, ⟨(PySem.PyData.keyHash P z18), (.str z18 257), (.int 11 256)⟩, ⟨(PySem.PyData.keyHash P z19), (.str z19 258), (.ref 66)⟩] 4), #[]⟩
noncomputable def o62 (P : Params) : Obj := ⟨(.type SL.s2766695959194262286x5), none, (.seq #[] 0), #[]⟩
noncomputable def o63 (P : Params) : Obj := ⟨.none, none, (.fields #[]), #[]⟩
noncomputable def o64 (P : Params) : Obj := ⟨(.type SL.s5856160107412720595x4), none, (.fields #[(.str z23 248), (.str z23 249), (.str z1 250), (.int 11 0), (.int 0 0), (.int 0 0), (.int 0 0), (.int 0 0), (.ref 62), (.bool false), (.int 181 0), (.ref 63), .none, .none, .none, .none, (.int 251 0), (.int 11 0), (.str z1 252)]), #[]⟩
noncomputable def o65 (P : Params) : Obj := ⟨(.type SL.s658472552662922059x5), none, .plain, #[(some (.ref 64)), (some (.ref 3)), (some (.ref 61)), none, (some (.str z4 194)), none, (some (.ref 0))]⟩
noncomputable def o66 (P : Params) : Obj := ⟨(.type SL.s2766695959194262286x5), none, (.seq #[] 0), #[]⟩
noncomputable def o67 (P : Params) : Obj := ⟨(.type SL.s14018661285674007319x4), none, (.dict #[⟨(PySem.PyData.keyHash P z16), (.str z16 253), (.str z4 194)⟩, ⟨(PySem.PyData.keyHash P z18), (.str z18 257), (.int 11 256)⟩, ⟨(PySem.PyData.keyHash P z19), (.str z19 258), (.ref 66)⟩, ⟨(PySem.PyData.keyHash P z5), (.str z5 259), .none⟩] 2), #[]⟩
noncomputable def o68 (P : Params) : Obj := ⟨(.type SL.s17162191345867700912x4), none, (.cls ⟨z23, [(.ref 31)], [(.ref 68), (.ref 31), (.type SL.s6070975301684473832x10), (.type SL.s5946037652744460706x9), (.type SL.s4278001404047624695x13), (.type SL.s2742458400755230247x6)], 67, z23, true, [], [], false, none, false⟩), #[(some (.ref 59)), none, (some (.str z23 246)), (some (.str z23 254)), (some (.builtin SL.s4209523147560561109x18)), (some (.bool true))]⟩
noncomputable def o69 (P : Params) : Obj := ⟨(.type SL.s4290257624100764138x5), none, (.fields #[(.ref 68), (.ref 68), (.ref 68)]), #[]⟩
noncomputable def o70 (P : Params) : Obj := ⟨(.type SL.s11030030927630378310x26), none, (.fields #[(.builtin SL.s4860613602091757760x24), (.ref 68)]), #[]⟩
noncomputable def tr4 (P : Params) : BT := (.node (boot_o_0 P) (.node (boot_o_1 P) (.node (o56 P) (.node (boot_o_7 P) (.node (o6 P) (.node (o58 P) (.node (o63 P) .nil .nil) .nil) (.node (o44 P) .nil .nil)) (.node (o14 P) (.node (o33 P) .nil .nil) (.node (o52 P) .nil .nil))) (.node (o0 P) (.node (o10 P) (.node (o29 P) (.node (o67 P) .nil .nil) .nil) (.node (o48 P) .nil .nil)) (.node (o18 P) (.node (o37 P) .nil .nil) (.node (o59 P) .nil .nil)))) (.node (boot_o_5 P) (.node (boot_o_9 P) (.node (o8 P) (.node (o24 P) (.node (o65 P) .nil .nil) .nil) (.node (o46 P) .nil .nil)) (.node (o16 P) (.node (o35 P) .nil .nil) (.node (o54 P) .nil .nil))) (.node (o2 P) (.node (o12 P) (.node (o31 P) (.node (o69 P) .nil .nil) .nil) (.node (o50 P) .nil .nil)) (.node (o20 P) (.node (o39 P) .nil .nil) (.node (o61 P) .nil .nil))))) (.node (boot_o_2 P) (.node (boot_o_4 P) (.node (boot_o_8 P) (.node (o7 P) (.node (o23 P) (.node (o64 P) .nil .nil) .nil) (.node (o45 P) .nil .nil)) (.node (o15 P) (.node (o34 P) .nil .nil) (.node (o53 P) .nil .nil))) (.node (o57 P) (.node (o11 P) (.node (o30 P) (.node (o68 P) .nil .nil) .nil) (.node (o49 P) .nil .nil)) (.node (o19 P) (.node (o38 P) .nil .nil) (.node (o60 P) .nil .nil)))) (.node (boot_o_6 P) (.node (boot_o_10 P) (.node (o9 P) (.node (o25 P) (.node (o66 P) .nil .nil) .nil) (.node (o47 P) .nil .nil)) (.node (o17 P) (.node (o36 P) .nil .nil) (.node (o55 P) .nil .nil))) (.node (o3 P) (.node (o13 P) (.node (o32 P) (.node (o70 P) .nil .nil) .nil) (.node (o51 P) .nil .nil)) (.node (o21 P) (.node (o40 P) .nil .nil) (.node (o62 P) .nil .nil))))))
noncomputable def sts3 : List Stmt := (pw.main.body.drop 5).take 1
noncomputable def o71 (P : Params) : Obj := ⟨(.type SL.s14018661285674007319x4), none, (.dict #[⟨(PySem.PyData.keyHash P z3), (.str z3 165), (.str z4 194)⟩, ⟨(PySem.PyData.keyHash P z5), (.str z5 166), .none⟩, ⟨(PySem.PyData.keyHash P z6), (.str z6 167), .none⟩, ⟨(PySem.PyData.keyHash P z7), (.str z7 168), (.builtin SL.s7097527257260152453x26)⟩, ⟨(PySem.PyData.keyHash P z8), (.str z8 169), .none⟩, ⟨(PySem.PyData.keyHash P z9), (.str z9 170), (.ref 6)⟩, ⟨(PySem.PyData.keyHash P z10), (.str z10 171), (.ref 4)⟩, ⟨(PySem.PyData.keyHash P z11), (.str z11 173), (.str z1 172)⟩, ⟨(PySem.PyData.keyHash P z12), (.str z12 174), .none⟩, ⟨(PySem.PyData.keyHash P z13), (.str z13 193), (.ref 21)⟩, ⟨(PySem.PyData.keyHash P z14), (.str z14 213), (.ref 31)⟩, ⟨(PySem.PyData.keyHash P z21), (.str z21 229), (.ref 44)⟩, ⟨(PySem.PyData.keyHash P z22), (.str z22 245), (.ref 56)⟩, ⟨(PySem.PyData.keyHash P z23), (.str z23 261), (.ref 68)⟩, ⟨(PySem.PyData.keyHash P z24), (.str z24 277), (.ref 80)⟩] 15), #[]⟩
noncomputable def o72 (P : Params) : Obj := ⟨.none, none, (.fields #[(.int 1 0), (.int 0 0), (.ref 20), (.int 5 0), (.int 0 0), (.ref 27), (.int 7 0), (.int 0 0), (.ref 40), (.int 9 0), (.int 0 0), (.ref 52), (.int 11 0), (.int 0 0), (.ref 64), (.int 13 0), (.int 0 0), (.ref 76)]), #[]⟩
noncomputable def o73 (P : Params) : Obj := ⟨(.type SL.s17162191345867700912x4), none, (.cls ⟨z14, [(.type SL.s6070975301684473832x10)], [(.ref 31), (.type SL.s6070975301684473832x10), (.type SL.s5946037652744460706x9), (.type SL.s4278001404047624695x13), (.type SL.s2742458400755230247x6)], 30, z14, true, [], [(.ref 44), (.ref 56), (.ref 68), (.ref 80)], false, none, false⟩), #[(some (.ref 22)), none, (some (.str z14 196)), (some (.str z14 204)), (some (.builtin SL.s4209523147560561109x18)), (some (.bool true))]⟩
noncomputable def o74 (P : Params) : Obj := ⟨(.type SL.s2766695959194262286x5), none, (.seq #[(.ref 31)] 0), #[]⟩
noncomputable def o75 (P : Params) : Obj := ⟨(.type SL.s11030030927630378310x26), none, (.fields #[(.builtin SL.s10062305145149207511x16), (.type SL.s17162191345867700912x4)]), #[]⟩
noncomputable def o76 (P : Params) : Obj := ⟨(.type SL.s14018661285674007319x4), none, (.dict #[⟨(PySem.PyData.keyHash P z16), (.str z16 269), (.str z4 194)⟩, ⟨(PySem.PyData.keyHash P z17), (.str z17 271), (.str z24 270)⟩, ⟨(PySem.PyData.keyHash P z18), (.str z18 273), (.int 13 272)⟩, ⟨(PySem.PyData.keyHash P z19), (.str z19 274), (.ref 78)⟩] 4), #[]⟩
noncomputable def o77 (P : Params) : Obj := ⟨(.type SL.s2766695959194262286x5), none, (.seq #[] 0), #[]⟩
noncomputable def o78 (P : Params) : Obj := ⟨.none, none, (.fields #[]), #[]⟩
noncomputable def o79 (P : Params) : Obj := ⟨(.type SL.s5856160107412720595x4), none, (.fields #[(.str z24 264), (.str z24 265), (.str z1 266), (.int 13 0), (.int 0 0), (.int 0 0), (.int 0 0), (.int 0 0), (.ref 74), (.bool false), (.int 181 0), (.ref 75), .none, .none, .none, .none, (.int 267 0), (.int 13 0), (.str z1 268)]), #[]⟩
noncomputable def o80 (P : Params) : Obj := ⟨(.type SL.s658472552662922059x5), none, .plain, #[(some (.ref 76)), (some (.ref 3)), (some (.ref 73)), none, (some (.str z4 194)), none, (some (.ref 0))]⟩
noncomputable def o81 (P : Params) : Obj := ⟨(.type SL.s2766695959194262286x5), none, (.seq #[] 0), #[]⟩
noncomputable def o82 (P : Params) : Obj := ⟨(.type SL.s14018661285674007319x4), none, (.dict #[⟨(PySem.PyData.keyHash P z16), (.str z16 269), (.str z4 194)⟩, ⟨(PySem.PyData.keyHash P z18), (.str z18 273), (.int 13 272)⟩, ⟨(PySem.PyData.keyHash P z19), (.str z19 274), (.ref 78)⟩, ⟨(PySem.PyData.keyHash P z5), (.str z5 275), .none⟩] 2), #[]⟩
noncomputable def o83 (P : Params) : Obj := ⟨(.type SL.s17162191345867700912x4), none, (.cls ⟨z24, [(.ref 31)], [(.ref 80), (.ref 31), (.type SL.s6070975301684473832x10), (.type SL.s5946037652744460706x9), (.type SL.s4278001404047624695x13), (.type SL.s2742458400755230247x6)], 79, z24, true, [], [], false, none, false⟩), #[(some (.ref 71)), none, (some (.str z24 262)), (some (.str z24 270)), (some (.builtin SL.s4209523147560561109x18)), (some (.bool true))]⟩
noncomputable def o84 (P : Params) : Obj := ⟨(.type SL.s4290257624100764138x5), none, (.fields #[(.ref 80), (.ref 80), (.ref 80)]), #[]⟩
noncomputable def o85 (P : Params) : Obj := ⟨(.type SL.s11030030927630378310x26), none, (.fields #[(.builtin SL.s4860613602091757760x24), (.ref 80)]), #[]⟩
noncomputable def tr5 (P : Params) : BT := (.node (boot_o_0 P) (.node (boot_o_1 P) (.node (o71 P) (.node (boot_o_7 P) (.node (o6 P) (.node (o73 P) (.node (o63 P) .nil .nil) .nil) (.node (o44 P) (.node (o82 P) .nil .nil) .nil)) (.node (o14 P) (.node (o33 P) (.node (o74 P) .nil .nil) .nil) (.node (o52 P) .nil .nil))) (.node (o0 P) (.node (o10 P) (.node (o29 P) (.node (o67 P) .nil .nil) .nil) (.node (o48 P) .nil .nil)) (.node (o18 P) (.node (o37 P) (.node (o78 P) .nil .nil) .nil) (.node (o59 P) .nil .nil)))) (.node (boot_o_5 P) (.node (boot_o_9 P) (.node (o8 P) (.node (o24 P) (.node (o65 P) .nil .nil) .nil) (.node (o46 P) (.node (o84 P) .nil .nil) .nil)) (.node (o16 P) (.node (o35 P) (.node (o76 P) .nil .nil) .nil) (.node (o54 P) .nil .nil))) (.node (o2 P) (.node (o12 P) (.node (o31 P) (.node (o69 P) .nil .nil) .nil) (.node (o50 P) .nil .nil)) (.node (o20 P) (.node (o39 P) (.node (o80 P) .nil .nil) .nil) (.node (o61 P) .nil .nil))))) (.node (boot_o_2 P) (.node (boot_o_4 P) (.node (boot_o_8 P) (.node (o7 P) (.node (o23 P) (.node (o64 P) .nil .nil) .nil) (.node (o45 P) (.node (o83 P) .nil .nil) .nil)) (.node (o15 P) (.node (o34 P) (.node (o75 P) .nil .nil) .nil) (.node (o53 P) .nil .nil))) (.node (o72 P) (.node (o11 P) (.node (o30 P) (.node (o68 P) .nil .nil) .nil) (.node (o49 P) .nil .nil)) (.node (o19 P) (.node (o38 P) (.node (o79 P) .nil .nil) .nil) (.node (o60 P) .nil .nil)))) (.node (boot_o_6 P) (.node (boot_o_10 P) (.node (o9 P) (.node (o25 P) (.node (o66 P) .nil .nil) .nil) (.node (o47 P) (.node (o85 P) .nil .nil) .nil)) (.node (o17 P) (.node (o36 P) (.node (o77 P) .nil .nil) .nil) (.node (o55 P) .nil .nil))) (.node (o3 P) (.node (o13 P) (.node (o32 P) (.node (o70 P) .nil .nil) .nil) (.node (o51 P) .nil .nil)) (.node (o21 P) (.node (o40 P) (.node (o81 P) .nil .nil) .nil) (.node (o62 P) .nil .nil))))))
noncomputable def sts4 : List Stmt := (pw.main.body.drop 6).take 1
noncomputable def o86 (P : Params) : Obj := ⟨(.type SL.s14018661285674007319x4), none, (.dict #[⟨(PySem.PyData.keyHash P z3), (.str z3 165), (.str z4 194)⟩, ⟨(PySem.PyData.keyHash P z5), (.str z5 166), .none⟩, ⟨(PySem.PyData.keyHash P z6), (.str z6 167), .none⟩, ⟨(PySem.PyData.keyHash P z7), (.str z7 168), (.builtin SL.s7097527257260152453x26)⟩, ⟨(PySem.PyData.keyHash P z8), (.str z8 169), .none⟩, ⟨(PySem.PyData.keyHash P z9), (.str z9 170), (.ref 6)⟩, ⟨(PySem.PyData.keyHash P z10), (.str z10 171), (.ref 4)⟩, ⟨(PySem.PyData.keyHash P z11), (.str z11 173), (.str z1 172)⟩, ⟨(PySem.PyData.keyHash P z12), (.str z12 174), .none⟩, ⟨(PySem.PyData.keyHash P z13), (.str z13 193), (.ref 21)⟩, ⟨(PySem.PyData.keyHash P z14), (.str z14 213), (.ref 31)⟩, ⟨(PySem.PyData.keyHash P z21), (.str z21 229), (.ref 44)⟩, ⟨(PySem.PyData.keyHash P z22), (.str z22 245), (.ref 56)⟩, ⟨(PySem.PyData.keyHash P z23), (.str z23 261), (.ref 68)⟩, ⟨(PySem.PyData.keyHash P z24), (.str z24 277), (.ref 80)⟩, ⟨(PySem.PyData.keyHash P z25), (.str z25 293), (.ref 92)⟩] 16), #[]⟩
noncomputable def o87 (P : Params) : Obj := ⟨.none, none, (.fields #[(.int 1 0), (.int 0 0), (.ref 20), (.int 5 0), (.int 0 0), (.ref 27), (.int 7 0), (.int 0 0), (.ref 40), (.int 9 0), (.int 0 0), (.ref 52), (.int 11 0), (.int 0 0), (.ref 64), (.int 13 0), (.int 0 0), (.ref 76), (.int 15 0), (.int 0 0), (.ref 88)]), #[]⟩
noncomputable def o88 (P : Params) : Obj := ⟨(.type SL.s17162191345867700912x4), none, (.cls ⟨z14, [(.type SL.s6070975301684473832x10)], [(.ref 31), (.type SL.s6070975301684473832x10), (.type SL.s5946037652744460706x9), (.type SL.s4278001404047624695x13), (.type SL.s2742458400755230247x6)], 30, z14, true, [], [(.ref 44), (.ref 56), (.ref 68), (.ref 80), (.ref 92)], false, none, false⟩), #[(some (.ref 22)), none, (some (.str z14 196)), (some (.str z14 204)), (some (.builtin SL.s4209523147560561109x18)), (some (.bool true))]⟩
noncomputable def o89 (P : Params) : Obj := ⟨(.type SL.s2766695959194262286x5), none, (.seq #[(.ref 31)] 0), #[]⟩
noncomputable def o90 (P : Params) : Obj := ⟨(.type SL.s11030030927630378310x26), none, (.fields #[(.builtin SL.s10062305145149207511x16), (.type SL.s17162191345867700912x4)]), #[]⟩
noncomputable def o91 (P : Params) : Obj := ⟨(.type SL.s14018661285674007319x4), none, (.dict #[⟨(PySem.PyData.keyHash P z16), (.str z16 285), (.str z4 194)⟩, ⟨(PySem.PyData.keyHash P z17), (.str z17 287), (.str z25 286)⟩, ⟨(PySem.PyData.keyHash P z18), (.str z18 289), (.int 15 288)⟩, ⟨(PySem.PyData.keyHash P z19), (.str z19 290), (.ref 90)⟩] 4), #[]⟩
noncomputable def o92 (P : Params) : Obj := ⟨(.type SL.s2766695959194262286x5), none, (.seq #[] 0), #[]⟩
noncomputable def o93 (P : Params) : Obj := ⟨.none, none, (.fields #[]), #[]⟩
noncomputable def o94 (P : Params) : Obj := ⟨(.type SL.s5856160107412720595x4), none, (.fields #[(.str z25 280), (.str z25 281), (.str z1 282), (.int 15 0), (.int 0 0), (.int 0 0), (.int 0 0), (.int 0 0), (.ref 86), (.bool false), (.int 181 0), (.ref 87), .none, .none, .none, .none, (.int 283 0), (.int 15 0), (.str z1 284)]), #[]⟩
noncomputable def o95 (P : Params) : Obj := ⟨(.type SL.s658472552662922059x5), none, .plain, #[(some (.ref 88)), (some (.ref 3)), (some (.ref 85)), none, (some (.str z4 194)), none, (some (.ref 0))]⟩
noncomputable def o96 (P : Params) : Obj := ⟨(.type SL.s2766695959194262286x5), none, (.seq #[] 0), #[]⟩
noncomputable def o97 (P : Params) : Obj := ⟨(.type SL.s14018661285674007319x4), none, (.dict #[⟨(PySem.PyData.keyHash P z16), (.str z16 285), (.str z4 194)⟩, ⟨(PySem.PyData.keyHash P z18), (.str z18 289), (.int 15 288)⟩, ⟨(PySem.PyData.keyHash P z19), (.str z19 290), (.ref 90)⟩, ⟨(PySem.PyData.keyHash P z5), (.str z5 291), .none⟩] 2), #[]⟩
noncomputable def o98 (P : Params) : Obj := ⟨(.type SL.s17162191345867700912x4), none, (.cls ⟨z25, [(.ref 31)], [(.ref 92), (.ref 31), (.type SL.s6070975301684473832x10), (.type SL.s5946037652744460706x9), (.type SL.s4278001404047624695x13), (.type SL.s2742458400755230247x6)], 91, z25, true, [], [], false, none, false⟩), #[(some (.ref 83)), none, (some (.str z25 278)), (some (.str z25 286)), (some (.builtin SL.s4209523147560561109x18)), (some (.bool true))]⟩
noncomputable def o99 (P : Params) : Obj := ⟨(.type SL.s4290257624100764138x5), none, (.fields #[(.ref 92), (.ref 92), (.ref 92)]), #[]⟩
noncomputable def o100 (P : Params) : Obj := ⟨(.type SL.s11030030927630378310x26), none, (.fields #[(.builtin SL.s4860613602091757760x24), (.ref 92)]), #[]⟩
noncomputable def tr6 (P : Params) : BT := (.node (boot_o_0 P) (.node (boot_o_1 P) (.node (o86 P) (.node (boot_o_7 P) (.node (o6 P) (.node (o88 P) (.node (o63 P) .nil .nil) .nil) (.node (o44 P) (.node (o82 P) .nil .nil) .nil)) (.node (o14 P) (.node (o33 P) (.node (o74 P) .nil .nil) .nil) (.node (o52 P) (.node (o93 P) .nil .nil) .nil))) (.node (o0 P) (.node (o10 P) (.node (o29 P) (.node (o67 P) .nil .nil) .nil) (.node (o48 P) (.node (o89 P) .nil .nil) .nil)) (.node (o18 P) (.node (o37 P) (.node (o78 P) .nil .nil) .nil) (.node (o59 P) (.node (o97 P) .nil .nil) .nil)))) (.node (boot_o_5 P) (.node (boot_o_9 P) (.node (o8 P) (.node (o24 P) (.node (o65 P) .nil .nil) .nil) (.node (o46 P) (.node (o84 P) .nil .nil) .nil)) (.node (o16 P) (.node (o35 P) (.node (o76 P) .nil .nil) .nil) (.node (o54 P) (.node (o95 P) .nil .nil) .nil))) (.node (o2 P) (.node (o12 P) (.node (o31 P) (.node (o69 P) .nil .nil) .nil) (.node (o50 P) (.node (o91 P) .nil .nil) .nil)) (.node (o20 P) (.node (o39 P) (.node (o80 P) .nil .nil) .nil) (.node (o61 P) (.node (o99 P) .nil .nil) .nil))))) (.node (boot_o_2 P) (.node (boot_o_4 P) (.node (boot_o_8 P) (.node (o7 P) (.node (o23 P) (.node (o64 P) .nil .nil) .nil) (.node (o45 P) (.node (o83 P) .nil .nil) .nil)) (.node (o15 P) (.node (o34 P) (.node (o75 P) .nil .nil) .nil) (.node (o53 P) (.node (o94 P) .nil .nil) .nil))) (.node (o87 P) (.node (o11 P) (.node (o30 P) (.node (o68 P) .nil .nil) .nil) (.node (o49 P) (.node (o90 P) .nil .nil) .nil)) (.node (o19 P) (.node (o38 P) (.node (o79 P) .nil .nil) .nil) (.node (o60 P) (.node (o98 P) .nil .nil) .nil)))) (.node (boot_o_6 P) (.node (boot_o_10 P) (.node (o9 P) (.node (o25 P) (.node (o66 P) .nil .nil) .nil) (.node (o47 P) (.node (o85 P) .nil .nil) .nil)) (.node (o17 P) (.node (o36 P) (.node (o77 P) .nil .nil) .nil) (.node (o55 P) (.node (o96 P) .nil .nil) .nil))) (.node (o3 P) (.node (o13 P) (.node (o32 P) (.node (o70 P) .nil .nil) .nil) (.node (o51 P) (.node (o92 P) .nil .nil) .nil)) (.node (o21 P) (.node (o40 P) (.node (o81 P) .nil .nil) .nil) (.node (o62 P) (.node (o100 P) .nil .nil) .nil))))))
noncomputable def sts5 : List Stmt := (pw.main.body.drop 7).take 1
noncomputable def o101 (P : Params) : Obj := ⟨(.type SL.s14018661285674007319x4), none, (.dict #[⟨(PySem.PyData.keyHash P z3), (.str z3 165), (.str z4 194)⟩, ⟨(PySem.PyData.keyHash P z5), (.str z5 166), .none⟩, ⟨(PySem.PyData.keyHash P z6), (.str z6 167), .none⟩, ⟨(PySem.PyData.keyHash P z7), (.str z7 168), (.builtin SL.s7097527257260152453x26)⟩, ⟨(PySem.PyData.keyHash P z8), (.str z8 169), .none⟩, ⟨(PySem.PyData.keyHash P z9), (.str z9 170), (.ref 6)⟩, ⟨(PySem.PyData.keyHash P z10), (.str z10 171), (.ref 4)⟩, ⟨(PySem.PyData.keyHash P z11), (.str z11 173), (.str z1 172)⟩, ⟨(PySem.PyData.keyHash P z12), (.str z12 174), .none⟩, ⟨(PySem.PyData.keyHash P z13), (.str z13 193), (.ref 21)⟩, ⟨(PySem.PyData.keyHash P z14), (.str z14 213), (.ref 31)⟩, ⟨(PySem.PyData.keyHash P z21), (.str z21 229), (.ref 44)⟩, ⟨(PySem.PyData.keyHash P z22), (.str z22 245), (.ref 56)⟩, ⟨(PySem.PyData.keyHash P z23), (.str z23 261), (.ref 68)⟩, ⟨(PySem.PyData.keyHash P z24), (.str z24 277), (.ref 80)⟩, ⟨(PySem.PyData.keyHash P z25), (.str z25 293), (.ref 92)⟩, ⟨(PySem.PyData.keyHash P z26), (.str z26 309), (.ref 104)⟩] 17), #[]⟩
noncomputable def o102 (P : Params) : Obj := ⟨.none, none, (.fields #[(.int 1 0), (.int 0 0), (.ref 20), (.int 5 0), (.int 0 0), (.ref 27), (.int 7 0), (.int 0 0), (.ref 40), (.int 9 0), (.int 0 0), (.ref 52), (.int 11 0), (.int 0 0), (.ref 64), (.int 13 0), (.int 0 0), (.ref 76), (.int 15 0), (.int 0 0), (.ref 88), (.int 17 0), (.int 0 0), (.ref 100)]), #[]⟩
noncomputable def o103 (P : Params) : Obj := ⟨(.type SL.s17162191345867700912x4), none, (.cls ⟨z14, [(.type SL.s6070975301684473832x10)], [(.ref 31), (.type SL.s6070975301684473832x10), (.type SL.s5946037652744460706x9), (.type SL.s4278001404047624695x13), (.type SL.s2742458400755230247x6)], 30, z14, true, [], [(.ref 44), (.ref 56), (.ref 68), (.ref 80), (.ref 92), (.ref 104)], false, none, false⟩), #[(some (.ref 22)), none, (some (.str z14 196)), (some (.str z14 204)), (some (.builtin SL.s4209523147560561109x18)), (some (.bool true))]⟩
noncomputable def o104 (P : Params) : Obj := ⟨(.type SL.s2766695959194262286x5), none, (.seq #[(.ref 31)] 0), #[]⟩
noncomputable def o105 (P : Params) : Obj := ⟨(.type SL.s11030030927630378310x26), none, (.fields #[(.builtin SL.s10062305145149207511x16), (.type SL.s17162191345867700912x4)]), #[]⟩
noncomputable def o106 (P : Params) : Obj := ⟨(.type SL.s14018661285674007319x4), none, (.dict #[⟨(PySem.PyData.keyHash P z16), (.str z16 301), (.str z4 194)⟩, ⟨(PySem.PyData.keyHash P z17), (.str z17 303), (.str z26 302)⟩, ⟨(PySem.PyData.keyHash P z18), (.str z18 305), (.int 17 304)⟩, ⟨(PySem.PyData.keyHash P z19), (.str z19 306), (.ref 102)⟩] 4), #[]⟩
noncomputable def o107 (P : Params) : Obj := ⟨(.type SL.s2766695959194262286x5), none, (.seq #[] 0), #[]⟩
noncomputable def o108 (P : Params) : Obj := ⟨.none, none, (.fields #[]), #[]⟩
noncomputable def o109 (P : Params) : Obj := ⟨(.type SL.s5856160107412720595x4), none, (.fields #[(.str z26 296), (.str z26 297), (.str z1 298), (.int 17 0), (.int 0 0), (.int 0 0), (.int 0 0), (.int 0 0), (.ref 98), (.bool false), (.int 181 0), (.ref 99), .none, .none, .none, .none, (.int 299 0), (.int 17 0), (.str z1 300)]), #[]⟩
noncomputable def o110 (P : Params) : Obj := ⟨(.type SL.s658472552662922059x5), none, .plain, #[(some (.ref 100)), (some (.ref 3)), (some (.ref 97)), none, (some (.str z4 194)), none, (some (.ref 0))]⟩
noncomputable def o111 (P : Params) : Obj := ⟨(.type SL.s2766695959194262286x5), none, (.seq #[] 0), #[]⟩
noncomputable def o112 (P : Params) : Obj := ⟨(.type SL.s14018661285674007319x4), none, (.dict #[⟨(PySem.PyData.keyHash P z16), (.str z16 301), (.str z4 194)⟩, ⟨(PySem.PyData.keyHash P z18), (.str z18 305), (.int 17 304)⟩, ⟨(PySem.PyData.keyHash P z19), (.str z19 306), (.ref 102)⟩, ⟨(PySem.PyData.keyHash P z5), (.str z5 307), .none⟩] 2), #[]⟩
noncomputable def o113 (P : Params) : Obj := ⟨(.type SL.s17162191345867700912x4), none, (.cls ⟨z26, [(.ref 31)], [(.ref 104), (.ref 31), (.type SL.s6070975301684473832x10), (.type SL.s5946037652744460706x9), (.type SL.s4278001404047624695x13), (.type SL.s2742458400755230247x6)], 103, z26, true, [], [], false, none, false⟩), #[(some (.ref 95)), none, (some (.str z26 294)), (some (.str z26 302)), (some (.builtin SL.s4209523147560561109x18)), (some (.bool true))]⟩
noncomputable def o114 (P : Params) : Obj := ⟨(.type SL.s4290257624100764138x5), none, (.fields #[(.ref 104), (.ref 104), (.ref 104)]), #[]⟩
noncomputable def o115 (P : Params) : Obj := ⟨(.type SL.s11030030927630378310x26), none, (.fields #[(.builtin SL.s4860613602091757760x24), (.ref 104)]), #[]⟩
noncomputable def tr7 (P : Params) : BT := (.node (boot_o_0 P) (.node (boot_o_1 P) (.node (o101 P) (.node (boot_o_7 P) (.node (o6 P) (.node (o103 P) (.node (o63 P) .nil .nil) (.node (o104 P) .nil .nil)) (.node (o44 P) (.node (o82 P) .nil .nil) .nil)) (.node (o14 P) (.node (o33 P) (.node (o74 P) .nil .nil) (.node (o112 P) .nil .nil)) (.node (o52 P) (.node (o93 P) .nil .nil) .nil))) (.node (o0 P) (.node (o10 P) (.node (o29 P) (.node (o67 P) .nil .nil) (.node (o108 P) .nil .nil)) (.node (o48 P) (.node (o89 P) .nil .nil) .nil)) (.node (o18 P) (.node (o37 P) (.node (o78 P) .nil .nil) .nil) (.node (o59 P) (.node (o97 P) .nil .nil) .nil)))) (.node (boot_o_5 P) (.node (boot_o_9 P) (.node (o8 P) (.node (o24 P) (.node (o65 P) .nil .nil) (.node (o106 P) .nil .nil)) (.node (o46 P) (.node (o84 P) .nil .nil) .nil)) (.node (o16 P) (.node (o35 P) (.node (o76 P) .nil .nil) (.node (o114 P) .nil .nil)) (.node (o54 P) (.node (o95 P) .nil .nil) .nil))) (.node (o2 P) (.node (o12 P) (.node (o31 P) (.node (o69 P) .nil .nil) (.node (o110 P) .nil .nil)) (.node (o50 P) (.node (o91 P) .nil .nil) .nil)) (.node (o20 P) (.node (o39 P) (.node (o80 P) .nil .nil) .nil) (.node (o61 P) (.node (o99 P) .nil .nil) .nil))))) (.node (boot_o_2 P) (.node (boot_o_4 P) (.node (boot_o_8 P) (.node (o7 P) (.node (o23 P) (.node (o64 P) .nil .nil) (.node (o105 P) .nil .nil)) (.node (o45 P) (.node (o83 P) .nil .nil) .nil)) (.node (o15 P) (.node (o34 P) (.node (o75 P) .nil .nil) (.node (o113 P) .nil .nil)) (.node (o53 P) (.node (o94 P) .nil .nil) .nil))) (.node (o102 P) (.node (o11 P) (.node (o30 P) (.node (o68 P) .nil .nil) (.node (o109 P) .nil .nil)) (.node (o49 P) (.node (o90 P) .nil .nil) .nil)) (.node (o19 P) (.node (o38 P) (.node (o79 P) .nil .nil) .nil) (.node (o60 P) (.node (o98 P) .nil .nil) .nil)))) (.node (boot_o_6 P) (.node (boot_o_10 P) (.node (o9 P) (.node (o25 P) (.node (o66 P) .nil .nil) (.node (o107 P) .nil .nil)) (.node (o47 P) (.node (o85 P) .nil .nil) .nil)) (.node (o17 P) (.node (o36 P) (.node (o77 P) .nil .nil) (.node (o115 P) .nil .nil)) (.node (o55 P) (.node (o96 P) .nil .nil) .nil))) (.node (o3 P) (.node (o13 P) (.node (o32 P) (.node (o70 P) .nil .nil) (.node (o111 P) .nil .nil)) (.node (o51 P) (.node (o92 P) .nil .nil) .nil)) (.node (o21 P) (.node (o40 P) (.node (o81 P) .nil .nil) .nil) (.node (o62 P) (.node (o100 P) .nil .nil) .nil))))))
noncomputable def sts6 : List Stmt := (pw.main.body.drop 8).take 1
noncomputable def o116 (P : Params) : Obj := ⟨(.type SL.s14018661285674007319x4), none, (.dict #[⟨(PySem.PyData.keyHash P z3), (.str z3 165), (.str z27 326)⟩, ⟨(PySem.PyData.keyHash P z5), (.str z5 166), .none⟩, ⟨(PySem.PyData.keyHash P z6), (.str z6 167), .none⟩, ⟨(PySem.PyData.keyHash P z7), (.str z7 168), (.builtin SL.s7097527257260152453x26)⟩, ⟨(PySem.PyData.keyHash P z8), (.str z8 169), .none⟩, ⟨(PySem.PyData.keyHash P z9), (.str z9 170), (.ref 6)⟩, ⟨(PySem.PyData.keyHash P z10), (.str z10 171), (.ref 4)⟩, ⟨(PySem.PyData.keyHash P z11), (.str z11 173), (.str z1 172)⟩, ⟨(PySem.PyData.keyHash P z12), (.str z12 174), .none⟩, ⟨(PySem.PyData.keyHash P z13), (.str z13 193), (.ref 21)⟩, ⟨(PySem.PyData.keyHash P z14), (.str z14 213), (.ref 31)⟩, ⟨(PySem.PyData.keyHash P z21), (.str z21 229), (.ref 44)⟩, ⟨(PySem.PyData.keyHash P z22), (.str z22 245), (.ref 56)⟩, ⟨(PySem.PyData.keyHash P z23), (.str z23 261), (.ref 68)⟩, ⟨(PySem.PyData.keyHash P z24), (.str z24 277), (.ref 80)⟩, ⟨(PySem.PyData.keyHash P z25), (.str z25 293), (.ref 92)⟩, ⟨(PySem.PyData.keyHash P z26), (.str z26 309), (.ref 104)⟩, ⟨(PySem.PyData.keyHash P z28), (.str z28 325), (.ref 116)⟩, ⟨(PySem.PyData.keyHash P z29), (.str z29 329), (.int 24 328)⟩, ⟨(PySem.PyData.keyHash P z30), (.str z30 336), (.ref 125)⟩, ⟨(PySem.PyData.keyHash P z31), (.str z31 344), (.ref 132)⟩, ⟨(PySem.PyData.keyHash P z32), (.str z32 351), (.ref 139)⟩] 22), #[]⟩
noncomputable def o117 (P : Params) : Obj := ⟨.none, none, (.fields #[(.int 1 0), (.int 0 0), (.ref 20), (.int 5 0), (.int 0 0), (.ref 27), (.int 7 0), (.int 0 0), (.ref 40), (.int 9 0), (.int 0 0), (.ref 52), (.int 11 0), (.int 0 0), (.ref 64), (.int 13 0), (.int 0 0), (.ref 76), (.int 15 0), (.int 0 0), (.ref 88), (.int 17 0), (.int 0 0), (.ref 100), (.int 19 0), (.int 0 0), (.ref 112), (.int 23 0), (.int 0 0), (.ref 124), (.int 25 0), (.int 0 0), (.ref 131), (.int 27 0), (.int 0 0), (.ref 138)]), #[]⟩
noncomputable def o118 (P : Params) : Obj := ⟨(.type SL.s17162191345867700912x4), none, (.cls ⟨z14, [(.type SL.s6070975301684473832x10)], [(.ref 31), (.type SL.s6070975301684473832x10), (.type SL.s5946037652744460706x9), (.type SL.s4278001404047624695x13), (.type SL.s2742458400755230247x6)], 30, z14, true, [], [(.ref 44), (.ref 56), (.ref 68), (.ref 80), (.ref 92), (.ref 104), (.ref 116)], false, none, false⟩), #[(some (.ref 22)), none, (some (.str z14 196)), (some (.str z14 204)), (some (.builtin SL.s4209523147560561109x18)), (some (.bool true))]⟩
noncomputable def o119 (P : Params) : Obj := ⟨(.type SL.s2766695959194262286x5), none, (.seq #[(.ref 31)] 0), #[]⟩
noncomputable def o120 (P : Params) : Obj := ⟨(.type SL.s11030030927630378310x26), none, (.fields #[(.builtin SL.s10062305145149207511x16), (.type SL.s17162191345867700912x4)]), #[]⟩
noncomputable def o121 (P : Params) : Obj := ⟨(.type SL.s14018661285674007319x4), none, (.dict #[⟨(PySem.PyData.keyHash P z16), (.str z16 317), (.str z4 194)⟩, ⟨(PySem.PyData.keyHash P z17), (.str z17 319), (.str z28 318)⟩, ⟨(PySem.PyData.keyHash P z18), (.str z18 321), (.int 19 320)⟩, ⟨(PySem.PyData.keyHash P z19), (.str z19 322), (.ref 114)⟩] 4), #[]⟩
noncomputable def o122 (P : Params) : Obj := ⟨(.type SL.s2766695959194262286x5), none, (.seq #[] 0), #[]⟩
noncomputable def o123 (P : Params) : Obj := ⟨.none, none, (.fields #[]), #[]⟩
noncomputable def o124 (P : Params) : Obj := ⟨(.type SL.s5856160107412720595x4), none, (.fields #[(.str z28 312), (.str z28 313), (.str z1 314), (.int 19 0), (.int 0 0), (.int 0 0), (.int 0 0), (.int 0 0), (.ref 110), (.bool false), (.int 181 0), (.ref 111), .none, .none, .none, .none, (.int 315 0), (.int 19 0), (.str z1 316)]), #[]⟩
noncomputable def o125 (P : Params) : Obj := ⟨(.type SL.s658472552662922059x5), none, .plain, #[(some (.ref 112)), (some (.ref 3)), (some (.ref 109)), none, (some (.str z4 194)), none, (some (.ref 0))]⟩
noncomputable def o126 (P : Params) : Obj := ⟨(.type SL.s2766695959194262286x5), none, (.seq #[] 0), #[]⟩
noncomputable def o127 (P : Params) : Obj := ⟨(.type SL.s14018661285674007319x4), none, (.dict #[⟨(PySem.PyData.keyHash P z16), (.str z16 317), (.str z4 194)⟩, ⟨(PySem.PyData.keyHash P z18), (.str z18 321), (.int 19 320)⟩, ⟨(PySem.PyData.keyHash P z19), (.str z19 322), (.ref 114)⟩, ⟨(PySem.PyData.keyHash P z5), (.str z5 323), .none⟩] 2), #[]⟩
noncomputable def o128 (P : Params) : Obj := ⟨(.type SL.s17162191345867700912x4), none, (.cls ⟨z28, [(.ref 31)], [(.ref 116), (.ref 31), (.type SL.s6070975301684473832x10), (.type SL.s5946037652744460706x9), (.type SL.s4278001404047624695x13), (.type SL.s2742458400755230247x6)], 115, z28, true, [], [], false, none, false⟩), #[(some (.ref 107)), none, (some (.str z28 310)), (some (.str z28 318)), (some (.builtin SL.s4209523147560561109x18)), (some (.bool true))]⟩
noncomputable def o129 (P : Params) : Obj := ⟨(.type SL.s4290257624100764138x5), none, (.fields #[(.ref 116), (.ref 116), (.ref 116)]), #[]⟩
noncomputable def o130 (P : Params) : Obj := ⟨(.type SL.s11030030927630378310x26), none, (.fields #[(.builtin SL.s4860613602091757760x24), (.ref 116)]), #[]⟩
noncomputable def o131 (P : Params) : Obj := ⟨(.type SL.s2766695959194262286x5), none, (.seq #[] 0), #[]⟩
noncomputable def o132 (P : Params) : Obj := ⟨.none, none, (.fields #[]), #[]⟩
noncomputable def o133 (P : Params) : Obj := ⟨(.type SL.s2766695959194262286x5), none, (.seq #[(.str z33 333)] 0), #[]⟩
noncomputable def o134 (P : Params) : Obj := ⟨(.type SL.s2766695959194262286x5), none, (.seq #[] 0), #[]⟩
noncomputable def o135 (P : Params) : Obj := ⟨.none, none, (.func ⟨z30, z30, (fA (sT 12)), (.stmts (fB (sT 12))), (fS (sT 12)), 0, [], .none, .none, .none, .none, none, .none, .none, 0⟩), #[]⟩
noncomputable def o136 (P : Params) : Obj := ⟨(.type SL.s5856160107412720595x4), none, (.fields #[(.str z30 330), (.str z30 331), (.str z1 332), (.int 23 0), (.int 1 0), (.int 0 0), (.int 0 0), (.int 3 0), (.ref 119), (.bool true), (.int 181 0), (.ref 120), .none, (.ref 121), (.ref 122), (.ref 123), (.int 334 0), (.int 23 0), (.str z1 335)]), #[]⟩
noncomputable def o137 (P : Params) : Obj := ⟨(.type SL.s7174869446012820540x8), none, (.func ⟨z30, z30, (fA (sT 12)), (.stmts (fB (sT 12))), (fS (sT 12)), 3, [], .none, .none, .none, (.str z27 326), none, (.ref 124), .none, 0⟩), #[]⟩
noncomputable def o138 (P : Params) : Obj := ⟨(.type SL.s2766695959194262286x5), none, (.seq #[] 0), #[]⟩
noncomputable def o139 (P : Params) : Obj := ⟨.none, none, (.fields #[]), #[]⟩
noncomputable def o140 (P : Params) : Obj := ⟨(.type SL.s2766695959194262286x5), none, (.seq #[(.str z34 340), (.str z33 341)] 0), #[]⟩
noncomputable def o141 (P : Params) : Obj := ⟨(.type SL.s2766695959194262286x5), none, (.seq #[] 0), #[]⟩
noncomputable def o142 (P : Params) : Obj := ⟨.none, none, (.func ⟨z31, z31, (fA (sT 13)), (.stmts (fB (sT 13))), (fS (sT 13)), 0, [], .none, .none, .none, .none, none, .none, .none, 0⟩), #[]⟩
noncomputable def o143 (P : Params) : Obj := ⟨(.type SL.s5856160107412720595x4), none, (.fields #[(.str z31 337), (.str z31 338), (.str z1 339), (.int 25 0), (.int 2 0), (.int 0 0), (.int 0 0), (.int 3 0), (.ref 126), (.bool true), (.int 181 0), (.ref 127), .none, (.ref 128), (.ref 129), (.ref 130), (.int 342 0), (.int 25 0), (.str z1 343)]), #[]⟩
noncomputable def o144 (P : Params) : Obj := ⟨(.type SL.s7174869446012820540x8), none, (.func ⟨z31, z31, (fA (sT 13)), (.stmts (fB (sT 13))), (fS (sT 13)), 3, [], .none, .none, .none, (.str z27 326), none, (.ref 131), .none, 0⟩), #[]⟩
noncomputable def o145 (P : Params) : Obj := ⟨(.type SL.s2766695959194262286x5), none, (.seq #[] 0), #[]⟩
noncomputable def o146 (P : Params) : Obj := ⟨.none, none, (.fields #[]), #[]⟩
noncomputable def o147 (P : Params) : Obj := ⟨(.type SL.s2766695959194262286x5), none, (.seq #[(.str z34 348)] 0), #[]⟩
noncomputable def o148 (P : Params) : Obj := ⟨(.type SL.s2766695959194262286x5), none, (.seq #[] 0), #[]⟩
noncomputable def o149 (P : Params) : Obj := ⟨.none, none, (.func ⟨z32, z32, (fA (sT 14)), (.stmts (fB (sT 14))), (fS (sT 14)), 0, [], .none, .none, .none, .none, none, .none, .none, 0⟩), #[]⟩
noncomputable def o150 (P : Params) : Obj := ⟨(.type SL.s5856160107412720595x4), none, (.fields #[(.str z32 345), (.str z32 346), (.str z1 347), (.int 27 0), (.int 1 0), (.int 0 0), (.int 0 0), (.int 3 0), (.ref 133), (.bool true), (.int 181 0), (.ref 134), .none, (.ref 135), (.ref 136), (.ref 137), (.int 349 0), (.int 27 0), (.str z1 350)]), #[]⟩
noncomputable def o151 (P : Params) : Obj := ⟨(.type SL.s7174869446012820540x8), none, (.func ⟨z32, z32, (fA (sT 14)), (.stmts (fB (sT 14))), (fS (sT 14)), 3, [], .none, .none, .none, (.str z27 326), none, (.ref 138), .none, 0⟩), #[]⟩
noncomputable def tr8 (P : Params) : BT := (.node (boot_o_0 P) (.node (boot_o_1 P) (.node (o116 P) (.node (boot_o_7 P) (.node (o6 P) (.node (o118 P) (.node (o63 P) (.node (o139 P) .nil .nil) .nil) (.node (o104 P) .nil .nil)) (.node (o44 P) (.node (o82 P) .nil .nil) (.node (o123 P) .nil .nil))) (.node (o14 P) (.node (o33 P) (.node (o74 P) (.node (o147 P) .nil .nil) .nil) (.node (o112 P) .nil .nil)) (.node (o52 P) (.node (o93 P) .nil .nil) (.node (o131 P) .nil .nil)))) (.node (o0 P) (.node (o10 P) (.node (o29 P) (.node (o67 P) (.node (o143 P) .nil .nil) .nil) (.node (o108 P) .nil .nil)) (.node (o48 P) (.node (o89 P) .nil .nil) (.node (o127 P) .nil .nil))) (.node (o18 P) (.node (o37 P) (.node (o78 P) (.node (o151 P) .nil .nil) .nil) (.node (o119 P) .nil .nil)) (.node (o59 P) (.node (o97 P) .nil .nil) (.node (o135 P) .nil .nil))))) (.node (boot_o_5 P) (.node (boot_o_9 P) (.node (o8 P) (.node (o24 P) (.node (o65 P) (.node (o141 P) .nil .nil) .nil) (.node (o106 P) .nil .nil)) (.node (o46 P) (.node (o84 P) .nil .nil) (.node (o125 P) .nil .nil))) (.node (o16 P) (.node (o35 P) (.node (o76 P) (.node (o149 P) .nil .nil) .nil) (.node (o114 P) .nil .nil)) (.node (o54 P) (.node (o95 P) .nil .nil) (.node (o133 P) .nil .nil)))) (.node (o2 P) (.node (o12 P) (.node (o31 P) (.node (o69 P) (.node (o145 P) .nil .nil) .nil) (.node (o110 P) .nil .nil)) (.node (o50 P) (.node (o91 P) .nil .nil) (.node (o129 P) .nil .nil))) (.node (o20 P) (.node (o39 P) (.node (o80 P) .nil .nil) (.node (o121 P) .nil .nil)) (.node (o61 P) (.node (o99 P) .nil .nil) (.node (o137 P) .nil .nil)))))) (.node (boot_o_2 P) (.node (boot_o_4 P) (.node (boot_o_8 P) (.node (o7 P) (.node (o23 P) (.node (o64 P) (.node (o140 P) .nil .nil) .nil) (.node (o105 P) .nil .nil)) (.node (o45 P) (.node (o83 P) .nil .nil) (.node (o124 P) .nil .nil))) (.node (o15 P) (.node (o34 P) (.node (o75 P) (.node (o148 P) .nil .nil) .nil) (.node (o113 P) .nil .nil)) (.node (o53 P) (.node (o94 P) .nil .nil) (.node (o132 P) .nil .nil)))) (.node (o117 P) (.node (o11 P) (.node (o30 P) (.node (o68 P) (.node (o144 P) .nil .nil) .nil) (.node (o109 P) .nil .nil)) (.node (o49 P) (.node (o90 P) .nil .nil) (.node (o128 P) .nil .nil))) (.node (o19 P) (.node (o38 P) (.node (o79 P) .nil .nil) (.node (o120 P) .nil .nil)) (.node (o60 P) (.node (o98 P) .nil .nil) (.node (o136 P) .nil .nil))))) (.node (boot_o_6 P) (.node (boot_o_10 P) (.node (o9 P) (.node (o25 P) (.node (o66 P) (.node (o142 P) .nil .nil) .nil) (.node (o107 P) .nil .nil)) (.node (o47 P) (.node (o85 P) .nil .nil) (.node (o126 P) .nil .nil))) (.node (o17 P) (.node (o36 P) (.node (o77 P) (.node (o150 P) .nil .nil) .nil) (.node (o115 P) .nil .nil)) (.node (o55 P) (.node (o96 P) .nil .nil) (.node (o134 P) .nil .nil)))) (.node (o3 P) (.node (o13 P) (.node (o32 P) (.node (o70 P) (.node (o146 P) .nil .nil) .nil) (.node (o111 P) .nil .nil)) (.node (o51 P) (.node (o92 P) .nil .nil) (.node (o130 P) .nil .nil))) (.node (o21 P) (.node (o40 P) (.node (o81 P) .nil .nil) (.node (o122 P) .nil .nil)) (.node (o62 P) (.node (o100 P) .nil .nil) (.node (o138 P) .nil .nil)))))))
noncomputable def sts7 : List Stmt := (pw.main.body.drop 9).take 6
noncomputable def o152 (P : Params) : Obj := ⟨(.type SL.s14018661285674007319x4), none, (.dict #[⟨(PySem.PyData.keyHash P z3), (.str z3 165), (.str z35 412)⟩, ⟨(PySem.PyData.keyHash P z5), (.str z5 166), .none⟩, ⟨(PySem.PyData.keyHash P z6), (.str z6 167), .none⟩, ⟨(PySem.PyData.keyHash P z7), (.str z7 168), (.builtin SL.s7097527257260152453x26)⟩, ⟨(PySem.PyData.keyHash P z8), (.str z8 169), .none⟩, ⟨(PySem.PyData.keyHash P z9), (.str z9 170), (.ref 6)⟩, ⟨(PySem.PyData.keyHash P z10), (.str z10 171), (.ref 4)⟩, ⟨(PySem.PyData.keyHash P z11), (.str z11 173), (.str z1 172)⟩, ⟨(PySem.PyData.keyHash P z12), (.str z12 174), .none⟩, ⟨(PySem.PyData.keyHash P z13), (.str z13 193), (.ref 21)⟩, ⟨(PySem.PyData.keyHash P z14), (.str z14 213), (.ref 31)⟩, ⟨(PySem.PyData.keyHash P z21), (.str z21 229), (.ref 44)⟩, ⟨(PySem.PyData.keyHash P z22), (.str z22 245), (.ref 56)⟩, ⟨(PySem.PyData.keyHash P z23), (.str z23 261), (.ref 68)⟩, ⟨(PySem.PyData.keyHash P z24), (.str z24 277), (.ref 80)⟩, ⟨(PySem.PyData.keyHash P z25), (.str z25 293), (.ref 92)⟩, ⟨(PySem.PyData.keyHash P z26), (.str z26 309), (.ref 104)⟩, ⟨(PySem.PyData.keyHash P z28), (.str z28 325), (.ref 116)⟩, ⟨(PySem.PyData.keyHash P z29), (.str z29 329), (.int 24 328)⟩, ⟨(PySem.PyData.keyHash P z30), (.str z30 336), (.ref 125)⟩, ⟨(PySem.PyData.keyHash P z31), (.str z31 344), (.ref 132)⟩, ⟨(PySem.PyData.keyHash P z32), (.str z32 351), (.ref 139)⟩, ⟨(PySem.PyData.keyHash P z36), (.str z36 411), (.ref 182)⟩, ⟨(PySem.PyData.keyHash P z37), (.str z37 421), (.ref 193)⟩] 24), #[]⟩
noncomputable def o153 (P : Params) : Obj := ⟨.none, none, (.fields #[(.int 1 0), (.int 0 0), (.ref 20), (.int 5 0), (.int 0 0), (.ref 27), (.int 7 0), (.int 0 0), (.ref 40), (.int 9 0), (.int 0 0), (.ref 52), (.int 11 0), (.int 0 0), (.ref 64), (.int 13 0), (.int 0 0), (.ref 76), (.int 15 0), (.int 0 0), (.ref 88), (.int 17 0), (.int 0 0), (.ref 100), (.int 19 0), (.int 0 0), (.ref 112), (.int 23 0), (.int 0 0), (.ref 124), (.int 25 0), (.int 0 0), (.ref 131), (.int 27 0), (.int 0 0), (.ref 138), (.int 30 0), (.int 0 0), (.ref 145), (.int 59 0), (.int 0 0), (.ref 192)]), #[]⟩
noncomputable def o154 (P : Params) : Obj := ⟨(.type SL.s2766695959194262286x5), none, (.seq #[] 0), #[]⟩
noncomputable def o155 (P : Params) : Obj := ⟨(.type SL.s11030030927630378310x26), none, (.fields #[(.builtin SL.s10062305145149207511x16), (.type SL.s17162191345867700912x4)]), #[]⟩
noncomputable def o156 (P : Params) : Obj := ⟨(.type SL.s14018661285674007319x4), none, (.dict #[⟨(PySem.PyData.keyHash P z16), (.str z16 359), (.str z27 326)⟩, ⟨(PySem.PyData.keyHash P z17), (.str z17 361), (.str z36 360)⟩, ⟨(PySem.PyData.keyHash P z18), (.str z18 363), (.int 30 362)⟩, ⟨(PySem.PyData.keyHash P z38), (.str z38 369), (.ref 151)⟩, ⟨(PySem.PyData.keyHash P z39), (.str z39 377), (.ref 158)⟩, ⟨(PySem.PyData.keyHash P z40), (.str z40 386), (.ref 165)⟩, ⟨(PySem.PyData.keyHash P z41), (.str z41 394), (.ref 172)⟩, ⟨(PySem.PyData.keyHash P z42), (.str z42 401), (.ref 179)⟩, ⟨(PySem.PyData.keyHash P z19), (.str z19 404), (.ref 180)⟩] 9), #[]⟩
noncomputable def o157 (P : Params) : Obj := ⟨(.type SL.s2766695959194262286x5), none, (.seq #[] 0), #[]⟩
noncomputable def o158 (P : Params) : Obj := ⟨.none, none, (.fields #[(.int 32 0), (.int 4 0), (.ref 150), (.int 44 0), (.int 4 0), (.ref 157), (.int 48 0), (.int 4 0), (.ref 164), (.int 53 0), (.int 4 0), (.ref 171), (.int 56 0), (.int 4 0), (.ref 178)]), #[]⟩
noncomputable def o159 (P : Params) : Obj := ⟨(.type SL.s5856160107412720595x4), none, (.fields #[(.str z36 354), (.str z36 355), (.str z1 356), (.int 30 0), (.int 0 0), (.int 0 0), (.int 0 0), (.int 0 0), (.ref 143), (.bool false), (.int 181 0), (.ref 144), .none, .none, .none, .none, (.int 357 0), (.int 30 0), (.str z1 358)]), #[]⟩
noncomputable def o160 (P : Params) : Obj := ⟨(.type SL.s658472552662922059x5), none, .plain, #[(some (.ref 145)), (some (.ref 3)), (some (.ref 142)), none, (some (.str z27 326)), none, (some (.ref 0))]⟩
noncomputable def o161 (P : Params) : Obj := ⟨(.type SL.s2766695959194262286x5), none, (.seq #[] 0), #[]⟩
noncomputable def o162 (P : Params) : Obj := ⟨.none, none, (.fields #[]), #[]⟩
noncomputable def o163 (P : Params) : Obj := ⟨.none, none, (.func ⟨z38, z43, (fA (sM 15 0)), (.stmts (fB (sM 15 0))), (fS (sM 15 0)), 0, [], .none, .none, .none, .none, none, .none, .none, 0⟩), #[]⟩
noncomputable def o164 (P : Params) : Obj := ⟨(.type SL.s5856160107412720595x4), none, (.fields #[(.str z38 364), (.str z43 365), (.str z1 366), (.int 32 0), (.int 3 0), (.int 0 0), (.int 0 0), (.int 3 0), (.ref 147), (.bool true), (.int 181 0), (.ref 148), .none, .none, .none, (.ref 149), (.int 367 0), (.int 32 0), (.str z1 368)]), #[]⟩
noncomputable def o165 (P : Params) : Obj := ⟨(.type SL.s7174869446012820540x8), none, (.func ⟨z38, z43, (fA (sM 15 0)), (.stmts (fB (sM 15 0))), (fS (sM 15 0)), 3, [], .none, .none, .none, (.str z27 326), none, (.ref 150), .none, 0⟩), #[]⟩
noncomputable def o166 (P : Params) : Obj := ⟨(.type SL.s2766695959194262286x5), none, (.seq #[] 0), #[]⟩
noncomputable def o167 (P : Params) : Obj := ⟨.none, none, (.fields #[]), #[]⟩
noncomputable def o168 (P : Params) : Obj := ⟨(.type SL.s2766695959194262286x5), none, (.seq #[(.str z44 373), (.str z45 374)] 0), #[]⟩
noncomputable def o169 (P : Params) : Obj := ⟨(.type SL.s2766695959194262286x5), none, (.seq #[] 0), #[]⟩
noncomputable def o170 (P : Params) : Obj := ⟨.none, none, (.func ⟨z39, z46, (fA (sM 15 1)), (.stmts (fB (sM 15 1))), (fS (sM 15 1)), 0, [], .none, .none, .none, .none, none, .none, .none, 0⟩), #[]⟩
noncomputable def o171 (P : Params) : Obj := ⟨(.type SL.s5856160107412720595x4), none, (.fields #[(.str z39 370), (.str z46 371), (.str z1 372), (.int 44 0), (.int 2 0), (.int 0 0), (.int 0 0), (.int 3 0), (.ref 152), (.bool true), (.int 181 0), (.ref 153), .none, (.ref 154), (.ref 155), (.ref 156), (.int 375 0), (.int 44 0), (.str z1 376)]), #[]⟩
noncomputable def o172 (P : Params) : Obj := ⟨(.type SL.s7174869446012820540x8), none, (.func ⟨z39, z46, (fA (sM 15 1)), (.stmts (fB (sM 15 1))), (fS (sM 15 1)), 3, [], .none, .none, .none, (.str z27 326), none, (.ref 157), .none, 0⟩), #[]⟩
noncomputable def o173 (P : Params) : Obj := ⟨(.type SL.s2766695959194262286x5), none, (.seq #[] 0), #[]⟩
noncomputable def o174 (P : Params) : Obj := ⟨.none, none, (.fields #[]), #[]⟩
noncomputable def o175 (P : Params) : Obj := ⟨(.type SL.s2766695959194262286x5), none, (.seq #[(.str z44 381), (.str z45 382), (.str z47 383)] 0), #[]⟩
noncomputable def o176 (P : Params) : Obj := ⟨(.type SL.s2766695959194262286x5), none, (.seq #[] 0), #[]⟩
noncomputable def o177 (P : Params) : Obj := ⟨.none, none, (.func ⟨z40, z48, (fA (sM 15 2)), (.stmts (fB (sM 15 2))), (fS (sM 15 2)), 0, [], .none, .none, .none, .none, none, .none, .none, 0⟩), #[]⟩
noncomputable def o178 (P : Params) : Obj := ⟨(.type SL.s5856160107412720595x4), none, (.fields #[(.str z40 378), (.str z48 379), (.str z1 380), (.int 48 0), (.int 3 0), (.int 0 0), (.int 0 0), (.int 3 0), (.ref 159), (.bool true), (.int 181 0), (.ref 160), .none, (.ref 161), (.ref 162), (.ref 163), (.int 384 0), (.int 48 0), (.str z1 385)]), #[]⟩
noncomputable def o179 (P : Params) : Obj := ⟨(.type SL.s7174869446012820540x8), none, (.func ⟨z40, z48, (fA (sM 15 2)), (.stmts (fB (sM 15 2))), (fS (sM 15 2)), 3, [], .none, .none, .none, (.str z27 326), none, (.ref 164), .none, 0⟩), #[]⟩
noncomputable def o180 (P : Params) : Obj := ⟨(.type SL.s2766695959194262286x5), none, (.seq #[] 0), #[]⟩
noncomputable def o181 (P : Params) : Obj := ⟨.none, none, (.fields #[]), #[]⟩
noncomputable def o182 (P : Params) : Obj := ⟨(.type SL.s2766695959194262286x5), none, (.seq #[(.str z44 390), (.str z45 391)] 0), #[]⟩
noncomputable def o183 (P : Params) : Obj := ⟨(.type SL.s2766695959194262286x5), none, (.seq #[] 0), #[]⟩
noncomputable def o184 (P : Params) : Obj := ⟨.none, none, (.func ⟨z41, z49, (fA (sM 15 3)), (.stmts (fB (sM 15 3))), (fS (sM 15 3)), 0, [], .none, .none, .none, .none, none, .none, .none, 0⟩), #[]⟩
noncomputable def o185 (P : Params) : Obj := ⟨(.type SL.s5856160107412720595x4), none, (.fields #[(.str z41 387), (.str z49 388), (.str z1 389), (.int 53 0), (.int 2 0), (.int 0 0), (.int 0 0), (.int 3 0), (.ref 166), (.bool true), (.int 181 0), (.ref 167), .none, (.ref 168), (.ref 169), (.ref 170), (.int 392 0), (.int 53 0), (.str z1 393)]), #[]⟩
noncomputable def o186 (P : Params) : Obj := ⟨(.type SL.s7174869446012820540x8), none, (.func ⟨z41, z49, (fA (sM 15 3)), (.stmts (fB (sM 15 3))), (fS (sM 15 3)), 3, [], .none, .none, .none, (.str z27 326), none, (.ref 171), .none, 0⟩), #[]⟩
noncomputable def o187 (P : Params) : Obj := ⟨(.type SL.s2766695959194262286x5), none, (.seq #[] 0), #[]⟩
noncomputable def o188 (P : Params) : Obj := ⟨.none, none, (.fields #[]), #[]⟩
noncomputable def o189 (P : Params) : Obj := ⟨(.type SL.s2766695959194262286x5), none, (.seq #[(.str z44 398)] 0), #[]⟩
noncomputable def o190 (P : Params) : Obj := ⟨(.type SL.s2766695959194262286x5), none, (.seq #[] 0), #[]⟩
noncomputable def o191 (P : Params) : Obj := ⟨.none, none, (.func ⟨z42, z50, (fA (sM 15 4)), (.stmts (fB (sM 15 4))), (fS (sM 15 4)), 0, [], .none, .none, .none, .none, none, .none, .none, 0⟩), #[]⟩
noncomputable def o192 (P : Params) : Obj := ⟨(.type SL.s5856160107412720595x4), none, (.fields #[(.str z42 395), (.str z50 396), (.str z1 397), (.int 56 0), (.int 1 0), (.int 0 0), (.int 0 0), (.int 3 0), (.ref 173), (.bool true), (.int 181 0), (.ref 174), .none, (.ref 175), (.ref 176), (.ref 177), (.int 399 0), (.int 56 0), (.str z1 400)]), #[]⟩
noncomputable def o193 (P : Params) : Obj := ⟨(.type SL.s7174869446012820540x8), none, (.func ⟨z42, z50, (fA (sM 15 4)), (.stmts (fB (sM 15 4))), (fS (sM 15 4)), 3, [], .none, .none, .none, (.str z27 326), none, (.ref 178), .none, 0⟩), #[]⟩
noncomputable def o194 (P : Params) : Obj := ⟨(.type SL.s2766695959194262286x5), none, (.seq #[(.str z34 402), (.str z51 403)] 0), #[]⟩
noncomputable def o195 (P : Params) : Obj := ⟨(.type SL.s14018661285674007319x4), none, (.dict #[⟨(PySem.PyData.keyHash P z16), (.str z16 359), (.str z27 326)⟩, ⟨(PySem.PyData.keyHash P z18), (.str z18 363), (.int 30 362)⟩, ⟨(PySem.PyData.keyHash P z38), (.str z38 369), (.ref 151)⟩, ⟨(PySem.PyData.keyHash P z39), (.str z39 377), (.ref 158)⟩, ⟨(PySem.PyData.keyHash P z40), (.str z40 386), (.ref 165)⟩, ⟨(PySem.PyData.keyHash P z41), (.str z41 394), (.ref 172)⟩, ⟨(PySem.PyData.keyHash P z42), (.str z42 401), (.ref 179)⟩, ⟨(PySem.PyData.keyHash P z19), (.str z19 404), (.ref 180)⟩, ⟨(PySem.PyData.keyHash P z52), (.str z52 406), (.ref 183)⟩, ⟨(PySem.PyData.keyHash P z20), (.str z20 408), (.ref 184)⟩, ⟨(PySem.PyData.keyHash P z5), (.str z5 409), .none⟩] 4), #[]⟩
noncomputable def o196 (P : Params) : Obj := ⟨(.type SL.s17162191345867700912x4), none, (.cls ⟨z36, [(.type SL.s2742458400755230247x6)], [(.ref 182), (.type SL.s2742458400755230247x6)], 181, z36, true, [], [], false, none, false⟩), #[none, none, (some (.str z36 352)), (some (.str z36 360)), (some (.builtin SL.s11443829558043349243x14)), (some (.bool true))]⟩
noncomputable def o197 (P : Params) : Obj := ⟨(.type SL.s14755015743595814543x17), none, (.fields #[(.str z52 405), (.ref 182), (.builtin SL.s6511155373996960695x17), (.builtin SL.s12411053484034534018x21)]), #[]⟩
noncomputable def o198 (P : Params) : Obj := ⟨(.type SL.s14755015743595814543x17), none, (.fields #[(.str z20 407), (.ref 182), (.builtin SL.s10220274742760427390x26), .none]), #[]⟩
noncomputable def o199 (P : Params) : Obj := ⟨(.type SL.s4290257624100764138x5), none, (.fields #[(.ref 182), (.ref 182), (.ref 182)]), #[]⟩
noncomputable def o200 (P : Params) : Obj := ⟨(.type SL.s11030030927630378310x26), none, (.fields #[(.builtin SL.s4860613602091757760x24), (.ref 182)]), #[]⟩
noncomputable def o201 (P : Params) : Obj := ⟨(.type SL.s2766695959194262286x5), none, (.seq #[] 0), #[]⟩
noncomputable def o202 (P : Params) : Obj := ⟨.none, none, (.fields #[]), #[]⟩
noncomputable def o203 (P : Params) : Obj := ⟨(.type SL.s2766695959194262286x5), none, (.seq #[(.str z53 417), (.str z54 418)] 0), #[]⟩
noncomputable def o204 (P : Params) : Obj := ⟨(.type SL.s2766695959194262286x5), none, (.seq #[] 0), #[]⟩
noncomputable def o205 (P : Params) : Obj := ⟨.none, none, (.func ⟨z37, z37, (fA (sT 17)), (.stmts (fB (sT 17))), (fS (sT 17)), 0, [], .none, .none, .none, .none, none, .none, .none, 0⟩), #[]⟩
noncomputable def o206 (P : Params) : Obj := ⟨(.type SL.s5856160107412720595x4), none, (.fields #[(.str z37 414), (.str z37 415), (.str z1 416), (.int 59 0), (.int 2 0), (.int 0 0), (.int 0 0), (.int 3 0), (.ref 187), (.bool true), (.int 181 0), (.ref 188), .none, (.ref 189), (.ref 190), (.ref 191), (.int 419 0), (.int 59 0), (.str z1 420)]), #[]⟩
noncomputable def o207 (P : Params) : Obj := ⟨(.type SL.s7174869446012820540x8), none, (.func ⟨z37, z37, (fA (sT 17)), (.stmts (fB (sT 17))), (fS (sT 17)), 3, [], .none, .none, .none, (.str z35 412), none, (.ref 192), .none, 0⟩), #[]⟩
noncomputable def tr9 (P : Params) : BT := (.node (boot_o_0 P) (.node (boot_o_1 P) (.node (o152 P) (.node (boot_o_7 P) (.node (o6 P) (.node (o118 P) (.node (o63 P) (.node (o139 P) .nil .nil) (.node (o205 P) .nil .nil)) (.node (o104 P) (.node (o173 P) .nil .nil) .nil)) (.node (o44 P) (.node (o82 P) (.node (o157 P) .nil .nil) .nil) (.node (o123 P) (.node (o189 P) .nil .nil) .nil))) (.node (o14 P) (.node (o33 P) (.node (o74 P) (.node (o147 P) .nil .nil) .nil) (.node (o112 P) (.node (o181 P) .nil .nil) .nil)) (.node (o52 P) (.node (o93 P) (.node (o165 P) .nil .nil) .nil) (.node (o131 P) (.node (o197 P) .nil .nil) .nil)))) (.node (o0 P) (.node (o10 P) (.node (o29 P) (.node (o67 P) (.node (o143 P) .nil .nil) .nil) (.node (o108 P) (.node (o177 P) .nil .nil) .nil)) (.node (o48 P) (.node (o89 P) (.node (o161 P) .nil .nil) .nil) (.node (o127 P) (.node (o193 P) .nil .nil) .nil))) (.node (o18 P) (.node (o37 P) (.node (o78 P) (.node (o151 P) .nil .nil) .nil) (.node (o119 P) (.node (o185 P) .nil .nil) .nil)) (.node (o59 P) (.node (o97 P) (.node (o169 P) .nil .nil) .nil) (.node (o135 P) (.node (o201 P) .nil .nil) .nil))))) (.node (boot_o_5 P) (.node (boot_o_9 P) (.node (o8 P) (.node (o24 P) (.node (o65 P) (.node (o141 P) .nil .nil) (.node (o207 P) .nil .nil)) (.node (o106 P) (.node (o175 P) .nil .nil) .nil)) (.node (o46 P) (.node (o84 P) (.node (o159 P) .nil .nil) .nil) (.node (o125 P) (.node (o191 P) .nil .nil) .nil))) (.node (o16 P) (.node (o35 P) (.node (o76 P) (.node (o149 P) .nil .nil) .nil) (.node (o114 P) (.node (o183 P) .nil .nil) .nil)) (.node (o54 P) (.node (o95 P) (.node (o167 P) .nil .nil) .nil) (.node (o133 P) (.node (o199 P) .nil .nil) .nil)))) (.node (o2 P) (.node (o12 P) (.node (o31 P) (.node (o69 P) (.node (o145 P) .nil .nil) .nil) (.node (o110 P) (.node (o179 P) .nil .nil) .nil)) (.node (o50 P) (.node (o91 P) (.node (o163 P) .nil .nil) .nil) (.node (o129 P) (.node (o195 P) .nil .nil) .nil))) (.node (o20 P) (.node (o39 P) (.node (o80 P) (.node (o155 P) .nil .nil) .nil) (.node (o121 P) (.node (o187 P) .nil .nil) .nil)) (.node (o61 P) (.node (o99 P) (.node (o171 P) .nil .nil) .nil) (.node (o137 P) (.node (o203 P) .nil .nil) .nil)))))) (.node (boot_o_2 P) (.node (boot_o_4 P) (.node (boot_o_8 P) (.node (o7 P) (.node (o23 P) (.node (o64 P) (.node (o140 P) .nil .nil) (.node (o206 P) .nil .nil)) (.node (o105 P) (.node (o174 P) .nil .nil) .nil)) (.node (o45 P) (.node (o83 P) (.node (o158 P) .nil .nil) .nil) (.node (o124 P) (.node (o190 P) .nil .nil) .nil))) (.node (o15 P) (.node (o34 P) (.node (o75 P) (.node (o148 P) .nil .nil) .nil) (.node (o113 P) (.node (o182 P) .nil .nil) .nil)) (.node (o53 P) (.node (o94 P) (.node (o166 P) .nil .nil) .nil) (.node (o132 P) (.node (o198 P) .nil .nil) .nil)))) (.node (o153 P) (.node (o11 P) (.node (o30 P) (.node (o68 P) (.node (o144 P) .nil .nil) .nil) (.node (o109 P) (.node (o178 P) .nil .nil) .nil)) (.node (o49 P) (.node (o90 P) (.node (o162 P) .nil .nil) .nil) (.node (o128 P) (.node (o194 P) .nil .nil) .nil))) (.node (o19 P) (.node (o38 P) (.node (o79 P) (.node (o154 P) .nil .nil) .nil) (.node (o120 P) (.node (o186 P) .nil .nil) .nil)) (.node (o60 P) (.node (o98 P) (.node (o170 P) .nil .nil) .nil) (.node (o136 P) (.node (o202 P) .nil .nil) .nil))))) (.node (boot_o_6 P) (.node (boot_o_10 P) (.node (o9 P) (.node (o25 P) (.node (o66 P) (.node (o142 P) .nil .nil) .nil) (.node (o107 P) (.node (o176 P) .nil .nil) .nil)) (.node (o47 P) (.node (o85 P) (.node (o160 P) .nil .nil) .nil) (.node (o126 P) (.node (o192 P) .nil .nil) .nil))) (.node (o17 P) (.node (o36 P) (.node (o77 P) (.node (o150 P) .nil .nil) .nil) (.node (o115 P) (.node (o184 P) .nil .nil) .nil)) (.node (o55 P) (.node (o96 P) (.node (o168 P) .nil .nil) .nil) (.node (o134 P) (.node (o200 P) .nil .nil) .nil)))) (.node (o3 P) (.node (o13 P) (.node (o32 P) (.node (o70 P) (.node (o146 P) .nil .nil) .nil) (.node (o111 P) (.node (o180 P) .nil .nil) .nil)) (.node (o51 P) (.node (o92 P) (.node (o164 P) .nil .nil) .nil) (.node (o130 P) (.node (o196 P) .nil .nil) .nil))) (.node (o21 P) (.node (o40 P) (.node (o81 P) (.node (o156 P) .nil .nil) .nil) (.node (o122 P) (.node (o188 P) .nil .nil) .nil)) (.node (o62 P) (.node (o100 P) (.node (o172 P) .nil .nil) .nil) (.node (o138 P) (.node (o204 P) .nil .nil) .nil)))))))
noncomputable def sts8 : List Stmt := (pw.main.body.drop 15).take 3
noncomputable def o208 (P : Params) : Obj := ⟨(.type SL.s14018661285674007319x4), none, (.dict #[⟨(PySem.PyData.keyHash P z3), (.str z3 165), (.str z35 412)⟩, ⟨(PySem.PyData.keyHash P z5), (.str z5 166), .none⟩, ⟨(PySem.PyData.keyHash P z6), (.str z6 167), .none⟩, ⟨(PySem.PyData.keyHash P z7), (.str z7 168), (.builtin SL.s7097527257260152453x26)⟩, ⟨(PySem.PyData.keyHash P z8), (.str z8 169), .none⟩, ⟨(PySem.PyData.keyHash P z9), (.str z9 170), (.ref 6)⟩, ⟨(PySem.PyData.keyHash P z10), (.str z10 171), (.ref 4)⟩, ⟨(PySem.PyData.keyHash P z11), (.str z11 173), (.str z1 172)⟩, ⟨(PySem.PyData.keyHash P z12), (.str z12 174), .none⟩, ⟨(PySem.PyData.keyHash P z13), (.str z13 193), (.ref 21)⟩, ⟨(PySem.PyData.keyHash P z14), (.str z14 213), (.ref 31)⟩, ⟨(PySem.PyData.keyHash P z21), (.str z21 229), (.ref 44)⟩, ⟨(PySem.PyData.keyHash P z22), (.str z22 245), (.ref 56)⟩, ⟨(PySem.PyData.keyHash P z23), (.str z23 261), (.ref 68)⟩, ⟨(PySem.PyData.keyHash P z24), (.str z24 277), (.ref 80)⟩, ⟨(PySem.PyData.keyHash P z25), (.str z25 293), (.ref 92)⟩, ⟨(PySem.PyData.keyHash P z26), (.str z26 309), (.ref 104)⟩, ⟨(PySem.PyData.keyHash P z28), (.str z28 325), (.ref 116)⟩, ⟨(PySem.PyData.keyHash P z29), (.str z29 329), (.int 24 328)⟩, ⟨(PySem.PyData.keyHash P z30), (.str z30 336), (.ref 125)⟩, ⟨(PySem.PyData.keyHash P z31), (.str z31 344), (.ref 132)⟩, ⟨(PySem.PyData.keyHash P z32), (.str z32 351), (.ref 139)⟩, ⟨(PySem.PyData.keyHash P z36), (.str z36 411), (.ref 182)⟩, ⟨(PySem.PyData.keyHash P z37), (.str z37 421), (.ref 193)⟩, ⟨(PySem.PyData.keyHash P z55), (.str z55 430), (.ref 200)⟩, ⟨(PySem.PyData.keyHash P z56), (.str z56 440), (.ref 207)⟩, ⟨(PySem.PyData.keyHash P z57), (.str z57 450), (.ref 214)⟩, ⟨(PySem.PyData.keyHash P z58), (.str z58 458), (.ref 221)⟩, ⟨(PySem.PyData.keyHash P z59), (.str z59 471), (.ref 228)⟩, ⟨(PySem.PyData.keyHash P z60), (.str z60 483), (.ref 235)⟩, ⟨(PySem.PyData.keyHash P z61), (.str z61 493), (.ref 242)⟩, ⟨(PySem.PyData.keyHash P z62), (.str z62 505), (.ref 249)⟩, ⟨(PySem.PyData.keyHash P z63), (.str z63 520), (.ref 256)⟩, ⟨(PySem.PyData.keyHash P z64), (.str z64 529), (.ref 263)⟩, ⟨(PySem.PyData.keyHash P z65), (.str z65 538), (.ref 270)⟩, ⟨(PySem.PyData.keyHash P z66), (.str z66 549), (.ref 277)⟩] 36), #[]⟩
noncomputable def o209 (P : Params) : Obj := ⟨.none, none, (.fields #[(.int 1 0), (.int 0 0), (.ref 20), (.int 5 0), (.int 0 0), (.ref 27), (.int 7 0), (.int 0 0), (.ref 40), (.int 9 0), (.int 0 0), (.ref 52), (.int 11 0), (.int 0 0), (.ref 64), (.int 13 0), (.int 0 0), (.ref 76), (.int 15 0), (.int 0 0), (.ref 88), (.int 17 0), (.int 0 0), (.ref 100), (.int 19 0), (.int 0 0), (.ref 112), (.int 23 0), (.int 0 0), (.ref 124), (.int 25 0), (.int 0 0), (.ref 131), (.int 27 0), (.int 0 0), (.ref 138), (.int 30 0), (.int 0 0), (.ref 145), (.int 59 0), (.int 0 0), (.ref 192), (.int 63 0), (.int 0 0), (.ref 199), (.int 67 0), (.int 0 0), (.ref 206), (.int 71 0), (.int 0 0), (.ref 213), (.int 76 0), (.int 0 0), (.ref 220), (.int 78 0), (.int 0 0), (.ref 227), (.int 85 0), (.int 0 0), (.ref 234), (.int 96 0), (.int 0 0), (.ref 241), (.int 103 0), (.int 0 0), (.ref 248), (.int 124 0), (.int 0 0), (.ref 255), (.int 140 0), (.int 0 0), (.ref 262), (.int 146 0), (.int 0 0), (.ref 269), (.int 151 0), (.int 0 0), (.ref 276)]), #[]⟩
noncomputable def o210 (P : Params) : Obj := ⟨(.type SL.s2766695959194262286x5), none, (.seq #[] 0), #[]⟩
noncomputable def o211 (P : Params) : Obj := ⟨.none, none, (.fields #[]), #[]⟩
noncomputable def o212 (P : Params) : Obj := ⟨(.type SL.s2766695959194262286x5), none, (.seq #[(.str z67 425), (.str z68 426), (.str z69 427)] 0), #[]⟩
noncomputable def o213 (P : Params) : Obj := ⟨(.type SL.s2766695959194262286x5), none, (.seq #[] 0), #[]⟩
noncomputable def o214 (P : Params) : Obj := ⟨.none, none, (.func ⟨z55, z55, (fA (sT 18)), (.stmts (fB (sT 18))), (fS (sT 18)), 0, [], .none, .none, .none, .none, none, .none, .none, 0⟩), #[]⟩
noncomputable def o215 (P : Params) : Obj := ⟨(.type SL.s5856160107412720595x4), none, (.fields #[(.str z55 422), (.str z55 423), (.str z1 424), (.int 63 0), (.int 2 0), (.int 0 0), (.int 0 0), (.int 3 0), (.ref 194), (.bool true), (.int 181 0), (.ref 195), .none, (.ref 196), (.ref 197), (.ref 198), (.int 428 0), (.int 63 0), (.str z1 429)]), #[]⟩
noncomputable def o216 (P : Params) : Obj := ⟨(.type SL.s7174869446012820540x8), none, (.func ⟨z55, z55, (fA (sT 18)), (.stmts (fB (sT 18))), (fS (sT 18)), 3, [], .none, .none, .none, (.str z35 412), none, (.ref 199), .none, 0⟩), #[]⟩
noncomputable def o217 (P : Params) : Obj := ⟨(.type SL.s2766695959194262286x5), none, (.seq #[] 0), #[]⟩
noncomputable def o218 (P : Params) : Obj := ⟨.none, none, (.fields #[]), #[]⟩
noncomputable def o219 (P : Params) : Obj := ⟨(.type SL.s2766695959194262286x5), none, (.seq #[(.str z70 434), (.str z54 435), (.str z71 436), (.str z72 437)] 0), #[]⟩
noncomputable def o220 (P : Params) : Obj := ⟨(.type SL.s2766695959194262286x5), none, (.seq #[] 0), #[]⟩
noncomputable def o221 (P : Params) : Obj := ⟨.none, none, (.func ⟨z56, z56, (fA (sT 19)), (.stmts (fB (sT 19))), (fS (sT 19)), 0, [], .none, .none, .none, .none, none, .none, .none, 0⟩), #[]⟩
noncomputable def o222 (P : Params) : Obj := ⟨(.type SL.s5856160107412720595x4), none, (.fields #[(.str z56 431), (.str z56 432), (.str z1 433), (.int 67 0), (.int 2 0), (.int 0 0), (.int 0 0), (.int 3 0), (.ref 201), (.bool true), (.int 181 0), (.ref 202), .none, (.ref 203), (.ref 204), (.ref 205), (.int 438 0), (.int 67 0), (.str z1 439)]), #[]⟩
noncomputable def o223 (P : Params) : Obj := ⟨(.type SL.s7174869446012820540x8), none, (.func ⟨z56, z56, (fA (sT 19)), (.stmts (fB (sT 19))), (fS (sT 19)), 3, [], .none, .none, .none, (.str z35 412), none, (.ref 206), .none, 0⟩), #[]⟩
noncomputable def o224 (P : Params) : Obj := ⟨(.type SL.s2766695959194262286x5), none, (.seq #[] 0), #[]⟩
noncomputable def o225 (P : Params) : Obj := ⟨.none, none, (.fields #[]), #[]⟩
noncomputable def o226 (P : Params) : Obj := ⟨(.type SL.s2766695959194262286x5), none, (.seq #[(.str z70 444), (.str z73 445), (.str z69 446), (.str z54 447)] 0), #[]⟩
noncomputable def o227 (P : Params) : Obj := ⟨(.type SL.s2766695959194262286x5), none, (.seq #[] 0), #[]⟩
noncomputable def o228 (P : Params) : Obj := ⟨.none, none, (.func ⟨z57, z57, (fA (sT 20)), (.stmts (fB (sT 20))), (fS (sT 20)), 0, [], .none, .none, .none, .none, none, .none, .none, 0⟩), #[]⟩
noncomputable def o229 (P : Params) : Obj := ⟨(.type SL.s5856160107412720595x4), none, (.fields #[(.str z57 441), (.str z57 442), (.str z1 443), (.int 71 0), (.int 2 0), (.int 0 0), (.int 0 0), (.int 3 0), (.ref 208), (.bool true), (.int 181 0), (.ref 209), .none, (.ref 210), (.ref 211), (.ref 212), (.int 448 0), (.int 71 0), (.str z1 449)]), #[]⟩
noncomputable def o230 (P : Params) : Obj := ⟨(.type SL.s7174869446012820540x8), none, (.func ⟨z57, z57, (fA (sT 20)), (.stmts (fB (sT 20))), (fS (sT 20)), 3, [], .none, .none, .none, (.str z35 412), none, (.ref 213), .none, 0⟩), #[]⟩
noncomputable def o231 (P : Params) : Obj := ⟨(.type SL.s2766695959194262286x5), none, (.seq #[] 0), #[]⟩
noncomputable def o232 (P : Params) : Obj := ⟨.none, none, (.fields #[]), #[]⟩
noncomputable def o233 (P : Params) : Obj := ⟨(.type SL.s2766695959194262286x5), none, (.seq #[(.str z70 454), (.str z54 455)] 0), #[]⟩
noncomputable def o234 (P : Params) : Obj := ⟨(.type SL.s2766695959194262286x5), none, (.seq #[] 0), #[]⟩
noncomputable def o235 (P : Params) : Obj := ⟨.none, none, (.func ⟨z58, z58, (fA (sT 21)), (.stmts (fB (sT 21))), (fS (sT 21)), 0, [], .none, .none, .none, .none, none, .none, .none, 0⟩), #[]⟩
noncomputable def o236 (P : Params) : Obj := ⟨(.type SL.s5856160107412720595x4), none, (.fields #[(.str z58 451), (.str z58 452), (.str z1 453), (.int 76 0), (.int 2 0), (.int 0 0), (.int 0 0), (.int 3 0), (.ref 215), (.bool true), (.int 181 0), (.ref 216), .none, (.ref 217), (.ref 218), (.ref 219), (.int 456 0), (.int 76 0), (.str z1 457)]), #[]⟩
noncomputable def o237 (P : Params) : Obj := ⟨(.type SL.s7174869446012820540x8), none, (.func ⟨z58, z58, (fA (sT 21)), (.stmts (fB (sT 21))), (fS (sT 21)), 3, [], .none, .none, .none, (.str z35 412), none, (.ref 220), .none, 0⟩), #[]⟩
noncomputable def o238 (P : Params) : Obj := ⟨(.type SL.s2766695959194262286x5), none, (.seq #[] 0), #[]⟩
noncomputable def o239 (P : Params) : Obj := ⟨.none, none, (.fields #[]), #[]⟩
noncomputable def o240 (P : Params) : Obj := ⟨(.type SL.s2766695959194262286x5), none, (.seq #[(.str z73 462), (.str z74 463), (.str z75 464), (.str z69 465), (.str z71 466), (.str z72 467), (.str z76 468)] 0), #[]⟩
noncomputable def o241 (P : Params) : Obj := ⟨(.type SL.s2766695959194262286x5), none, (.seq #[] 0), #[]⟩
noncomputable def o242 (P : Params) : Obj := ⟨.none, none, (.func ⟨z59, z59, (fA (sT 22)), (.stmts (fB (sT 22))), (fS (sT 22)), 0, [], .none, .none, .none, .none, none, .none, .none, 0⟩), #[]⟩
noncomputable def o243 (P : Params) : Obj := ⟨(.type SL.s5856160107412720595x4), none, (.fields #[(.str z59 459), (.str z59 460), (.str z1 461), (.int 78 0), (.int 3 0), (.int 0 0), (.int 0 0), (.int 3 0), (.ref 222), (.bool true), (.int 181 0), (.ref 223), .none, (.ref 224), (.ref 225), (.ref 226), (.int 469 0), (.int 78 0), (.str z1 470)]), #[]⟩
noncomputable def o244 (P : Params) : Obj := ⟨(.type SL.s7174869446012820540x8), none, (.func ⟨z59, z59, (fA (sT 22)), (.stmts (fB (sT 22))), (fS (sT 22)), 3, [], .none, .none, .none, (.str z35 412), none, (.ref 227), .none, 0⟩), #[]⟩
noncomputable def o245 (P : Params) : Obj := ⟨(.type SL.s2766695959194262286x5), none, (.seq #[] 0), #[]⟩
noncomputable def o246 (P : Params) : Obj := ⟨.none, none, (.fields #[]), #[]⟩
noncomputable def o247 (P : Params) : Obj := ⟨(.type SL.s2766695959194262286x5), none, (.seq #[(.str z73 475), (.str z70 476), (.str z69 477), (.str z71 478), (.str z72 479), (.str z77 480)] 0), #[]⟩
noncomputable def o248 (P : Params) : Obj := ⟨(.type SL.s2766695959194262286x5), none, (.seq #[] 0), #[]⟩
noncomputable def o249 (P : Params) : Obj := ⟨.none, none, (.func ⟨z60, z60, (fA (sT 23)), (.stmts (fB (sT 23))), (fS (sT 23)), 0, [], .none, .none, .none, .none, none, .none, .none, 0⟩), #[]⟩
noncomputable def o250 (P : Params) : Obj := ⟨(.type SL.s5856160107412720595x4), none, (.fields #[(.str z60 472), (.str z60 473), (.str z1 474), (.int 85 0), (.int 2 0), (.int 0 0), (.int 0 0), (.int 3 0), (.ref 229), (.bool true), (.int 181 0), (.ref 230), .none, (.ref 231), (.ref 232), (.ref 233), (.int 481 0), (.int 85 0), (.str z1 482)]), #[]⟩
noncomputable def o251 (P : Params) : Obj := ⟨(.type SL.s7174869446012820540x8), none, (.func ⟨z60, z60, (fA (sT 23)), (.stmts (fB (sT 23))), (fS (sT 23)), 3, [], .none, .none, .none, (.str z35 412), none, (.ref 234), .none, 0⟩), #[]⟩
noncomputable def o252 (P : Params) : Obj := ⟨(.type SL.s2766695959194262286x5), none, (.seq #[] 0), #[]⟩
noncomputable def o253 (P : Params) : Obj := ⟨.none, none, (.fields #[]), #[]⟩
noncomputable def o254 (P : Params) : Obj := ⟨(.type SL.s2766695959194262286x5), none, (.seq #[(.str z73 487), (.str z70 488), (.str z69 489), (.str z71 490)] 0), #[]⟩
noncomputable def o255 (P : Params) : Obj := ⟨(.type SL.s2766695959194262286x5), none, (.seq #[] 0), #[]⟩
noncomputable def o256 (P : Params) : Obj := ⟨.none, none, (.func ⟨z61, z61, (fA (sT 24)), (.stmts (fB (sT 24))), (fS (sT 24)), 0, [], .none, .none, .none, .none, none, .none, .none, 0⟩), #[]⟩
noncomputable def o257 (P : Params) : Obj := ⟨(.type SL.s5856160107412720595x4), none, (.fields #[(.str z61 484), (.str z61 485), (.str z1 486), (.int 96 0), (.int 2 0), (.int 0 0), (.int 0 0), (.int 3 0), (.ref 236), (.bool true), (.int 181 0), (.ref 237), .none, (.ref 238), (.ref 239), (.ref 240), (.int 491 0), (.int 96 0), (.str z1 492)]), #[]⟩
noncomputable def o258 (P : Params) : Obj := ⟨(.type SL.s7174869446012820540x8), none, (.func ⟨z61, z61, (fA (sT 24)), (.stmts (fB (sT 24))), (fS (sT 24)), 3, [], .none, .none, .none, (.str z35 412), none, (.ref 241), .none, 0⟩), #[]⟩
noncomputable def o259 (P : Params) : Obj := ⟨(.type SL.s2766695959194262286x5), none, (.seq #[] 0), #[]⟩
noncomputable def o260 (P : Params) : Obj := ⟨.none, none, (.fields #[]), #[]⟩
noncomputable def o261 (P : Params) : Obj := ⟨(.type SL.s2766695959194262286x5), none, (.seq #[(.str z78 497), (.str z73 498), (.str z70 499), (.str z69 500), (.str z71 501), (.str z72 502)] 0), #[]⟩
noncomputable def o262 (P : Params) : Obj := ⟨(.type SL.s2766695959194262286x5), none, (.seq #[] 0), #[]⟩
noncomputable def o263 (P : Params) : Obj := ⟨.none, none, (.func ⟨z62, z62, (fA (sT 25)), (.stmts (fB (sT 25))), (fS (sT 25)), 0, [], .none, .none, .none, .none, none, .none, .none, 0⟩), #[]⟩
noncomputable def o264 (P : Params) : Obj := ⟨(.type SL.s5856160107412720595x4), none, (.fields #[(.str z62 494), (.str z62 495), (.str z1 496), (.int 103 0), (.int 3 0), (.int 0 0), (.int 0 0), (.int 3 0), (.ref 243), (.bool true), (.int 181 0), (.ref 244), .none, (.ref 245), (.ref 246), (.ref 247), (.int 503 0), (.int 103 0), (.str z1 504)]), #[]⟩
noncomputable def o265 (P : Params) : Obj := ⟨(.type SL.s7174869446012820540x8), none, (.func ⟨z62, z62, (fA (sT 25)), (.stmts (fB (sT 25))), (fS (sT 25)), 3, [], .none, .none, .none, (.str z35 412), none, (.ref 248), .none, 0⟩), #[]⟩
noncomputable def o266 (P : Params) : Obj := ⟨(.type SL.s2766695959194262286x5), none, (.seq #[] 0), #[]⟩
noncomputable def o267 (P : Params) : Obj := ⟨.none, none, (.fields #[]), #[]⟩
noncomputable def o268 (P : Params) : Obj := ⟨(.type SL.s2766695959194262286x5), none, (.seq #[(.str z53 509), (.str z78 510), (.str z73 511), (.str z70 512), (.str z69 513), (.str z79 514), (.str z80 515), (.str z81 516), (.str z82 517)] 0), #[]⟩
noncomputable def o269 (P : Params) : Obj := ⟨(.type SL.s2766695959194262286x5), none, (.seq #[] 0), #[]⟩
noncomputable def o270 (P : Params) : Obj := ⟨.none, none, (.func ⟨z63, z63, (fA (sT 26)), (.stmts (fB (sT 26))), (fS (sT 26)), 0, [], .none, .none, .none, .none, none, .none, .none, 0⟩), #[]⟩
noncomputable def o271 (P : Params) : Obj := ⟨(.type SL.s5856160107412720595x4), none, (.fields #[(.str z63 506), (.str z63 507), (.str z1 508), (.int 124 0), (.int 1 0), (.int 0 0), (.int 0 0), (.int 3 0), (.ref 250), (.bool true), (.int 181 0), (.ref 251), .none, (.ref 252), (.ref 253), (.ref 254), (.int 518 0), (.int 124 0), (.str z1 519)]), #[]⟩
noncomputable def o272 (P : Params) : Obj := ⟨(.type SL.s7174869446012820540x8), none, (.func ⟨z63, z63, (fA (sT 26)), (.stmts (fB (sT 26))), (fS (sT 26)), 3, [], .none, .none, .none, (.str z35 412), none, (.ref 255), .none, 0⟩), #[]⟩
noncomputable def o273 (P : Params) : Obj := ⟨(.type SL.s2766695959194262286x5), none, (.seq #[] 0), #[]⟩
noncomputable def o274 (P : Params) : Obj := ⟨.none, none, (.fields #[]), #[]⟩
noncomputable def o275 (P : Params) : Obj := ⟨(.type SL.s2766695959194262286x5), none, (.seq #[(.str z80 524), (.str z69 525), (.str z82 526)] 0), #[]⟩
noncomputable def o276 (P : Params) : Obj := ⟨(.type SL.s2766695959194262286x5), none, (.seq #[] 0), #[]⟩
noncomputable def o277 (P : Params) : Obj := ⟨.none, none, (.func ⟨z64, z64, (fA (sT 27)), (.stmts (fB (sT 27))), (fS (sT 27)), 0, [], .none, .none, .none, .none, none, .none, .none, 0⟩), #[]⟩
noncomputable def o278 (P : Params) : Obj := ⟨(.type SL.s5856160107412720595x4), none, (.fields #[(.str z64 521), (.str z64 522), (.str z1 523), (.int 140 0), (.int 1 0), (.int 0 0), (.int 0 0), (.int 3 0), (.ref 257), (.bool true), (.int 181 0), (.ref 258), .none, (.ref 259), (.ref 260), (.ref 261), (.int 527 0), (.int 140 0), (.str z1 528)]), #[]⟩
noncomputable def o279 (P : Params) : Obj := ⟨(.type SL.s7174869446012820540x8), none, (.func ⟨z64, z64, (fA (sT 27)), (.stmts (fB (sT 27))), (fS (sT 27)), 3, [], .none, .none, .none, (.str z35 412), none, (.ref 262), .none, 0⟩), #[]⟩
noncomputable def o280 (P : Params) : Obj := ⟨(.type SL.s2766695959194262286x5), none, (.seq #[] 0), #[]⟩
noncomputable def o281 (P : Params) : Obj := ⟨.none, none, (.fields #[]), #[]⟩
noncomputable def o282 (P : Params) : Obj := ⟨(.type SL.s2766695959194262286x5), none, (.seq #[(.str z67 533), (.str z83 534), (.str z68 535)] 0), #[]⟩
noncomputable def o283 (P : Params) : Obj := ⟨(.type SL.s2766695959194262286x5), none, (.seq #[] 0), #[]⟩
noncomputable def o284 (P : Params) : Obj := ⟨.none, none, (.func ⟨z65, z65, (fA (sT 28)), (.stmts (fB (sT 28))), (fS (sT 28)), 0, [], .none, .none, .none, .none, none, .none, .none, 0⟩), #[]⟩
noncomputable def o285 (P : Params) : Obj := ⟨(.type SL.s5856160107412720595x4), none, (.fields #[(.str z65 530), (.str z65 531), (.str z1 532), (.int 146 0), (.int 1 0), (.int 0 0), (.int 0 0), (.int 3 0), (.ref 264), (.bool true), (.int 181 0), (.ref 265), .none, (.ref 266), (.ref 267), (.ref 268), (.int 536 0), (.int 146 0), (.str z1 537)]), #[]⟩
noncomputable def o286 (P : Params) : Obj := ⟨(.type SL.s7174869446012820540x8), none, (.func ⟨z65, z65, (fA (sT 28)), (.stmts (fB (sT 28))), (fS (sT 28)), 3, [], .none, .none, .none, (.str z35 412), none, (.ref 269), .none, 0⟩), #[]⟩
noncomputable def o287 (P : Params) : Obj := ⟨(.type SL.s2766695959194262286x5), none, (.seq #[] 0), #[]⟩
noncomputable def o288 (P : Params) : Obj := ⟨.none, none, (.fields #[]), #[]⟩
noncomputable def o289 (P : Params) : Obj := ⟨(.type SL.s2766695959194262286x5), none, (.seq #[(.str z73 542), (.str z80 543), (.str z84 544), (.str z71 545), (.str z72 546)] 0), #[]⟩
noncomputable def o290 (P : Params) : Obj := ⟨(.type SL.s2766695959194262286x5), none, (.seq #[] 0), #[]⟩
noncomputable def o291 (P : Params) : Obj := ⟨.none, none, (.func ⟨z66, z66, (fA (sT 29)), (.stmts (fB (sT 29))), (fS (sT 29)), 0, [], .none, .none, .none, .none, none, .none, .none, 0⟩), #[]⟩
noncomputable def o292 (P : Params) : Obj := ⟨(.type SL.s5856160107412720595x4), none, (.fields #[(.str z66 539), (.str z66 540), (.str z1 541), (.int 151 0), (.int 2 0), (.int 0 0), (.int 0 0), (.int 3 0), (.ref 271), (.bool true), (.int 181 0), (.ref 272), .none, (.ref 273), (.ref 274), (.ref 275), (.int 547 0), (.int 151 0), (.str z1 548)]), #[]⟩
noncomputable def o293 (P : Params) : Obj := ⟨(.type SL.s7174869446012820540x8), none, (.func ⟨z66, z66, (fA (sT 29)), (.stmts (fB (sT 29))), (fS (sT 29)), 3, [], .none, .none, .none, (.str z35 412), none, (.ref 276), .none, 0⟩), #[]⟩
noncomputable def tr10 (P : Params) : BT := (.node (boot_o_0 P) (.node (boot_o_1 P) (.node (o208 P) (.node (boot_o_7 P) (.node (o6 P) (.node (o118 P) (.node (o63 P) (.node (o139 P) (.node (o271 P) .nil .nil) .nil) (.node (o205 P) .nil .nil)) (.node (o104 P) (.node (o173 P) .nil .nil) (.node (o239 P) .nil .nil))) (.node (o44 P) (.node (o82 P) (.node (o157 P) (.node (o287 P) .nil .nil) .nil) (.node (o223 P) .nil .nil)) (.node (o123 P) (.node (o189 P) .nil .nil) (.node (o255 P) .nil .nil)))) (.node (o14 P) (.node (o33 P) (.node (o74 P) (.node (o147 P) (.node (o279 P) .nil .nil) .nil) (.node (o215 P) .nil .nil)) (.node (o112 P) (.node (o181 P) .nil .nil) (.node (o247 P) .nil .nil))) (.node (o52 P) (.node (o93 P) (.node (o165 P) .nil .nil) (.node (o231 P) .nil .nil)) (.node (o131 P) (.node (o197 P) .nil .nil) (.node (o263 P) .nil .nil))))) (.node (o0 P) (.node (o10 P) (.node (o29 P) (.node (o67 P) (.node (o143 P) (.node (o275 P) .nil .nil) .nil) (.node (o211 P) .nil .nil)) (.node (o108 P) (.node (o177 P) .nil .nil) (.node (o243 P) .nil .nil))) (.node (o48 P) (.node (o89 P) (.node (o161 P) (.node (o291 P) .nil .nil) .nil) (.node (o227 P) .nil .nil)) (.node (o127 P) (.node (o193 P) .nil .nil) (.node (o259 P) .nil .nil)))) (.node (o18 P) (.node (o37 P) (.node (o78 P) (.node (o151 P) (.node (o283 P) .nil .nil) .nil) (.node (o219 P) .nil .nil)) (.node (o119 P) (.node (o185 P) .nil .nil) (.node (o251 P) .nil .nil))) (.node (o59 P) (.node (o97 P) (.node (o169 P) .nil .nil) (.node (o235 P) .nil .nil)) (.node (o135 P) (.node (o201 P) .nil .nil) (.node (o267 P) .nil .nil)))))) (.node (boot_o_5 P) (.node (boot_o_9 P) (.node (o8 P) (.node (o24 P) (.node (o65 P) (.node (o141 P) (.node (o273 P) .nil .nil) .nil) (.node (o207 P) .nil .nil)) (.node (o106 P) (.node (o175 P) .nil .nil) (.node (o241 P) .nil .nil))) (.node (o46 P) (.node (o84 P) (.node (o159 P) (.node (o289 P) .nil .nil) .nil) (.node (o225 P) .nil .nil)) (.node (o125 P) (.node (o191 P) .nil .nil) (.node (o257 P) .nil .nil)))) (.node (o16 P) (.node (o35 P) (.node (o76 P) (.node (o149 P) (.node (o281 P) .nil .nil) .nil) (.node (o217 P) .nil .nil)) (.node (o114 P) (.node (o183 P) .nil .nil) (.node (o249 P) .nil .nil))) (.node (o54 P) (.node (o95 P) (.node (o167 P) .nil .nil) (.node (o233 P) .nil .nil)) (.node (o133 P) (.node (o199 P) .nil .nil) (.node (o265 P) .nil .nil))))) (.node (o2 P) (.node (o12 P) (.node (o31 P) (.node (o69 P) (.node (o145 P) (.node (o277 P) .nil .nil) .nil) (.node (o213 P) .nil .nil)) (.node (o110 P) (.node (o179 P) .nil .nil) (.node (o245 P) .nil .nil))) (.node (o50 P) (.node (o91 P) (.node (o163 P) (.node (o293 P) .nil .nil) .nil) (.node (o229 P) .nil .nil)) (.node (o129 P) (.node (o195 P) .nil .nil) (.node (o261 P) .nil .nil)))) (.node (o20 P) (.node (o39 P) (.node (o80 P) (.node (o155 P) (.node (o285 P) .nil .nil) .nil) (.node (o221 P) .nil .nil)) (.node (o121 P) (.node (o187 P) .nil .nil) (.node (o253 P) .nil .nil))) (.node (o61 P) (.node (o99 P) (.node (o171 P) .nil .nil) (.node (o237 P) .nil .nil)) (.node (o137 P) (.node (o203 P) .nil .nil) (.node (o269 P) .nil .nil))))))) (.node (boot_o_2 P) (.node (boot_o_4 P) (.node (boot_o_8 P) (.node (o7 P) (.node (o23 P) (.node (o64 P) (.node (o140 P) (.node (o272 P) .nil .nil) .nil) (.node (o206 P) .nil .nil)) (.node (o105 P) (.node (o174 P) .nil .nil) (.node (o240 P) .nil .nil))) (.node (o45 P) (.node (o83 P) (.node (o158 P) (.node (o288 P) .nil .nil) .nil) (.node (o224 P) .nil .nil)) (.node (o124 P) (.node (o190 P) .nil .nil) (.node (o256 P) .nil .nil)))) (.node (o15 P) (.node (o34 P) (.node (o75 P) (.node (o148 P) (.node (o280 P) .nil .nil) .nil) (.node (o216 P) .nil .nil)) (.node (o113 P) (.node (o182 P) .nil .nil) (.node (o248 P) .nil .nil))) (.node (o53 P) (.node (o94 P) (.node (o166 P) .nil .nil) (.node (o232 P) .nil .nil)) (.node (o132 P) (.node (o198 P) .nil .nil) (.node (o264 P) .nil .nil))))) (.node (o209 P) (.node (o11 P) (.node (o30 P) (.node (o68 P) (.node (o144 P) (.node (o276 P) .nil .nil) .nil) (.node (o212 P) .nil .nil)) (.node (o109 P) (.node (o178 P) .nil .nil) (.node (o244 P) .nil .nil))) (.node (o49 P) (.node (o90 P) (.node (o162 P) (.node (o292 P) .nil .nil) .nil) (.node (o228 P) .nil .nil)) (.node (o128 P) (.node (o194 P) .nil .nil) (.node (o260 P) .nil .nil)))) (.node (o19 P) (.node (o38 P) (.node (o79 P) (.node (o154 P) (.node (o284 P) .nil .nil) .nil) (.node (o220 P) .nil .nil)) (.node (o120 P) (.node (o186 P) .nil .nil) (.node (o252 P) .nil .nil))) (.node (o60 P) (.node (o98 P) (.node (o170 P) .nil .nil) (.node (o236 P) .nil .nil)) (.node (o136 P) (.node (o202 P) .nil .nil) (.node (o268 P) .nil .nil)))))) (.node (boot_o_6 P) (.node (boot_o_10 P) (.node (o9 P) (.node (o25 P) (.node (o66 P) (.node (o142 P) (.node (o274 P) .nil .nil) .nil) (.node (o210 P) .nil .nil)) (.node (o107 P) (.node (o176 P) .nil .nil) (.node (o242 P) .nil .nil))) (.node (o47 P) (.node (o85 P) (.node (o160 P) (.node (o290 P) .nil .nil) .nil) (.node (o226 P) .nil .nil)) (.node (o126 P) (.node (o192 P) .nil .nil) (.node (o258 P) .nil .nil)))) (.node (o17 P) (.node (o36 P) (.node (o77 P) (.node (o150 P) (.node (o282 P) .nil .nil) .nil) (.node (o218 P) .nil .nil)) (.node (o115 P) (.node (o184 P) .nil .nil) (.node (o250 P) .nil .nil))) (.node (o55 P) (.node (o96 P) (.node (o168 P) .nil .nil) (.node (o234 P) .nil .nil)) (.node (o134 P) (.node (o200 P) .nil .nil) (.node (o266 P) .nil .nil))))) (.node (o3 P) (.node (o13 P) (.node (o32 P) (.node (o70 P) (.node (o146 P) (.node (o278 P) .nil .nil) .nil) (.node (o214 P) .nil .nil)) (.node (o111 P) (.node (o180 P) .nil .nil) (.node (o246 P) .nil .nil))) (.node (o51 P) (.node (o92 P) (.node (o164 P) .nil .nil) (.node (o230 P) .nil .nil)) (.node (o130 P) (.node (o196 P) .nil .nil) (.node (o262 P) .nil .nil)))) (.node (o21 P) (.node (o40 P) (.node (o81 P) (.node (o156 P) (.node (o286 P) .nil .nil) .nil) (.node (o222 P) .nil .nil)) (.node (o122 P) (.node (o188 P) .nil .nil) (.node (o254 P) .nil .nil))) (.node (o62 P) (.node (o100 P) (.node (o172 P) .nil .nil) (.node (o238 P) .nil .nil)) (.node (o138 P) (.node (o204 P) .nil .nil) (.node (o270 P) .nil .nil))))))))
noncomputable def sts9 : List Stmt := (pw.main.body.drop 18).take 12
noncomputable def o294 (P : Params) : Obj := ⟨(.type SL.s14018661285674007319x4), none, (.dict #[⟨(PySem.PyData.keyHash P z3), (.str z3 165), (.str z35 412)⟩, ⟨(PySem.PyData.keyHash P z5), (.str z5 166), .none⟩, ⟨(PySem.PyData.keyHash P z6), (.str z6 167), .none⟩, ⟨(PySem.PyData.keyHash P z7), (.str z7 168), (.builtin SL.s7097527257260152453x26)⟩, ⟨(PySem.PyData.keyHash P z8), (.str z8 169), .none⟩, ⟨(PySem.PyData.keyHash P z9), (.str z9 170), (.ref 6)⟩, ⟨(PySem.PyData.keyHash P z10), (.str z10 171), (.ref 4)⟩, ⟨(PySem.PyData.keyHash P z11), (.str z11 173), (.str z1 172)⟩, ⟨(PySem.PyData.keyHash P z12), (.str z12 174), .none⟩, ⟨(PySem.PyData.keyHash P z13), (.str z13 193), (.ref 21)⟩, ⟨(PySem.PyData.keyHash P z14), (.str z14 213), (.ref 31)⟩, ⟨(PySem.PyData.keyHash P z21), (.str z21 229), (.ref 44)⟩, ⟨(PySem.PyData.keyHash P z22), (.str z22 245), (.ref 56)⟩, ⟨(PySem.PyData.keyHash P z23), (.str z23 261), (.ref 68)⟩, ⟨(PySem.PyData.keyHash P z24), (.str z24 277), (.ref 80)⟩, ⟨(PySem.PyData.keyHash P z25), (.str z25 293), (.ref 92)⟩, ⟨(PySem.PyData.keyHash P z26), (.str z26 309), (.ref 104)⟩, ⟨(PySem.PyData.keyHash P z28), (.str z28 325), (.ref 116)⟩, ⟨(PySem.PyData.keyHash P z29), (.str z29 329), (.int 24 328)⟩, ⟨(PySem.PyData.keyHash P z30), (.str z30 336), (.ref 125)⟩, ⟨(PySem.PyData.keyHash P z31), (.str z31 344), (.ref 132)⟩, ⟨(PySem.PyData.keyHash P z32), (.str z32 351), (.ref 139)⟩, ⟨(PySem.PyData.keyHash P z36), (.str z36 411), (.ref 182)⟩, ⟨(PySem.PyData.keyHash P z37), (.str z37 421), (.ref 193)⟩, ⟨(PySem.PyData.keyHash P z55), (.str z55 430), (.ref 200)⟩, ⟨(PySem.PyData.keyHash P z56), (.str z56 440), (.ref 207)⟩, ⟨(PySem.PyData.keyHash P z57), (.str z57 450), (.ref 214)⟩, ⟨(PySem.PyData.keyHash P z58), (.str z58 458), (.ref 221)⟩, ⟨(PySem.PyData.keyHash P z59), (.str z59 471), (.ref 228)⟩, ⟨(PySem.PyData.keyHash P z60), (.str z60 483), (.ref 235)⟩, ⟨(PySem.PyData.keyHash P z61), (.str z61 493), (.ref 242)⟩, ⟨(PySem.PyData.keyHash P z62), (.str z62 505), (.ref 249)⟩, ⟨(PySem.PyData.keyHash P z63), (.str z63 520), (.ref 256)⟩, ⟨(PySem.PyData.keyHash P z64), (.str z64 529), (.ref 263)⟩, ⟨(PySem.PyData.keyHash P z65), (.str z65 538), (.ref 270)⟩, ⟨(PySem.PyData.keyHash P z66), (.str z66 549), (.ref 277)⟩, ⟨(PySem.PyData.keyHash P z85), (.str z85 562), (.ref 284)⟩, ⟨(PySem.PyData.keyHash P z86), (.str z86 577), (.ref 291)⟩] 38), #[]⟩
noncomputable def o295 (P : Params) : Obj := ⟨.none, none, (.fields #[(.int 1 0), (.int 0 0), (.ref 20), (.int 5 0), (.int 0 0), (.ref 27), (.int 7 0), (.int 0 0), (.ref 40), (.int 9 0), (.int 0 0), (.ref 52), (.int 11 0), (.int 0 0), (.ref 64), (.int 13 0), (.int 0 0), (.ref 76), (.int 15 0), (.int 0 0), (.ref 88), (.int 17 0), (.int 0 0), (.ref 100), (.int 19 0), (.int 0 0), (.ref 112), (.int 23 0), (.int 0 0), (.ref 124), (.int 25 0), (.int 0 0), (.ref 131), (.int 27 0), (.int 0 0), (.ref 138), (.int 30 0), (.int 0 0), (.ref 145), (.int 59 0), (.int 0 0), (.ref 192), (.int 63 0), (.int 0 0), (.ref 199), (.int 67 0), (.int 0 0), (.ref 206), (.int 71 0), (.int 0 0), (.ref 213), (.int 76 0), (.int 0 0), (.ref 220), (.int 78 0), (.int 0 0), (.ref 227), (.int 85 0), (.int 0 0), (.ref 234), (.int 96 0), (.int 0 0), (.ref 241), (.int 103 0), (.int 0 0), (.ref 248), (.int 124 0), (.int 0 0), (.ref 255), (.int 140 0), (.int 0 0), (.ref 262), (.int 146 0), (.int 0 0), (.ref 269), (.int 151 0), (.int 0 0), (.ref 276), (.int 163 0), (.int 0 0), (.ref 283), (.int 180 0), (.int 0 0), (.ref 290)]), #[]⟩
noncomputable def o296 (P : Params) : Obj := ⟨(.type SL.s2766695959194262286x5), none, (.seq #[] 0), #[]⟩
noncomputable def o297 (P : Params) : Obj := ⟨.none, none, (.fields #[]), #[]⟩
noncomputable def o298 (P : Params) : Obj := ⟨(.type SL.s2766695959194262286x5), none, (.seq #[(.str z73 553), (.str z80 554), (.str z70 555), (.str z87 556), (.str z78 557), (.str z88 558), (.str z82 559)] 0), #[]⟩
noncomputable def o299 (P : Params) : Obj := ⟨(.type SL.s2766695959194262286x5), none, (.seq #[] 0), #[]⟩
noncomputable def o300 (P : Params) : Obj := ⟨.none, none, (.func ⟨z85, z85, (fA (sT 30)), (.stmts (fB (sT 30))), (fS (sT 30)), 0, [], .none, .none, .none, .none, none, .none, .none, 0⟩), #[]⟩
noncomputable def o301 (P : Params) : Obj := ⟨(.type SL.s5856160107412720595x4), none, (.fields #[(.str z85 550), (.str z85 551), (.str z1 552), (.int 163 0), (.int 4 0), (.int 0 0), (.int 0 0), (.int 3 0), (.ref 278), (.bool true), (.int 181 0), (.ref 279), .none, (.ref 280), (.ref 281), (.ref 282), (.int 560 0), (.int 163 0), (.str z1 561)]), #[]⟩
noncomputable def o302 (P : Params) : Obj := ⟨(.type SL.s7174869446012820540x8), none, (.func ⟨z85, z85, (fA (sT 30)), (.stmts (fB (sT 30))), (fS (sT 30)), 3, [], .none, .none, .none, (.str z35 412), none, (.ref 283), .none, 0⟩), #[]⟩
noncomputable def o303 (P : Params) : Obj := ⟨(.type SL.s2766695959194262286x5), none, (.seq #[] 0), #[]⟩
noncomputable def o304 (P : Params) : Obj := ⟨.none, none, (.fields #[]), #[]⟩
noncomputable def o305 (P : Params) : Obj := ⟨(.type SL.s2766695959194262286x5), none, (.seq #[(.str z53 566), (.str z73 567), (.str z80 568), (.str z89 569), (.str z90 570), (.str z68 571), (.str z91 572), (.str z83 573), (.str z67 574)] 0), #[]⟩
noncomputable def o306 (P : Params) : Obj := ⟨(.type SL.s2766695959194262286x5), none, (.seq #[] 0), #[]⟩
noncomputable def o307 (P : Params) : Obj := ⟨.none, none, (.func ⟨z86, z86, (fA (sT 31)), (.stmts (fB (sT 31))), (fS (sT 31)), 0, [], .none, .none, .none, .none, none, .none, .none, 0⟩), #[]⟩
noncomputable def o308 (P : Params) : Obj := ⟨(.type SL.s5856160107412720595x4), none, (.fields #[(.str z86 563), (.str z86 564), (.str z1 565), (.int 180 0), (.int 1 0), (.int 0 0), (.int 0 0), (.int 3 0), (.ref 285), (.bool true), (.int 181 0), (.ref 286), .none, (.ref 287), (.ref 288), (.ref 289), (.int 575 0), (.int 180 0), (.str z1 576)]), #[]⟩
noncomputable def o309 (P : Params) : Obj := ⟨(.type SL.s7174869446012820540x8), none, (.func ⟨z86, z86, (fA (sT 31)), (.stmts (fB (sT 31))), (fS (sT 31)), 3, [], .none, .none, .none, (.str z35 412), none, (.ref 290), .none, 0⟩), #[]⟩
noncomputable def tr11 (P : Params) : BT := (.node (boot_o_0 P) (.node (boot_o_1 P) (.node (o294 P) (.node (boot_o_7 P) (.node (o6 P) (.node (o118 P) (.node (o63 P) (.node (o139 P) (.node (o271 P) .nil .nil) .nil) (.node (o205 P) .nil .nil)) (.node (o104 P) (.node (o173 P) (.node (o305 P) .nil .nil) .nil) (.node (o239 P) .nil .nil))) (.node (o44 P) (.node (o82 P) (.node (o157 P) (.node (o287 P) .nil .nil) .nil) (.node (o223 P) .nil .nil)) (.node (o123 P) (.node (o189 P) .nil .nil) (.node (o255 P) .nil .nil)))) (.node (o14 P) (.node (o33 P) (.node (o74 P) (.node (o147 P) (.node (o279 P) .nil .nil) .nil) (.node (o215 P) .nil .nil)) (.node (o112 P) (.node (o181 P) .nil .nil) (.node (o247 P) .nil .nil))) (.node (o52 P) (.node (o93 P) (.node (o165 P) (.node (o297 P) .nil .nil) .nil) (.node (o231 P) .nil .nil)) (.node (o131 P) (.node (o197 P) .nil .nil) (.node (o263 P) .nil .nil))))) (.node (o0 P) (.node (o10 P) (.node (o29 P) (.node (o67 P) (.node (o143 P) (.node (o275 P) .nil .nil) .nil) (.node (o211 P) .nil .nil)) (.node (o108 P) (.node (o177 P) (.node (o309 P) .nil .nil) .nil) (.node (o243 P) .nil .nil))) (.node (o48 P) (.node (o89 P) (.node (o161 P) (.node (o291 P) .nil .nil) .nil) (.node (o227 P) .nil .nil)) (.node (o127 P) (.node (o193 P) .nil .nil) (.node (o259 P) .nil .nil)))) (.node (o18 P) (.node (o37 P) (.node (o78 P) (.node (o151 P) (.node (o283 P) .nil .nil) .nil) (.node (o219 P) .nil .nil)) (.node (o119 P) (.node (o185 P) .nil .nil) (.node (o251 P) .nil .nil))) (.node (o59 P) (.node (o97 P) (.node (o169 P) (.node (o301 P) .nil .nil) .nil) (.node (o235 P) .nil .nil)) (.node (o135 P) (.node (o201 P) .nil .nil) (.node (o267 P) .nil .nil)))))) (.node (boot_o_5 P) (.node (boot_o_9 P) (.node (o8 P) (.node (o24 P) (.node (o65 P) (.node (o141 P) (.node (o273 P) .nil .nil) .nil) (.node (o207 P) .nil .nil)) (.node (o106 P) (.node (o175 P) (.node (o307 P) .nil .nil) .nil) (.node (o241 P) .nil .nil))) (.node (o46 P) (.node (o84 P) (.node (o159 P) (.node (o289 P) .nil .nil) .nil) (.node (o225 P) .nil .nil)) (.node (o125 P) (.node (o191 P) .nil .nil) (.node (o257 P) .nil .nil)))) (.node (o16 P) (.node (o35 P) (.node (o76 P) (.node (o149 P) (.node (o281 P) .nil .nil) .nil) (.node (o217 P) .nil .nil)) (.node (o114 P) (.node (o183 P) .nil .nil) (.node (o249 P) .nil .nil))) (.node (o54 P) (.node (o95 P) (.node (o167 P) (.node (o299 P) .nil .nil) .nil) (.node (o233 P) .nil .nil)) (.node (o133 P) (.node (o199 P) .nil .nil) (.node (o265 P) .nil .nil))))) (.node (o2 P) (.node (o12 P) (.node (o31 P) (.node (o69 P) (.node (o145 P) (.node (o277 P) .nil .nil) .nil) (.node (o213 P) .nil .nil)) (.node (o110 P) (.node (o179 P) .nil .nil) (.node (o245 P) .nil .nil))) (.node (o50 P) (.node (o91 P) (.node (o163 P) (.node (o293 P) .nil .nil) .nil) (.node (o229 P) .nil .nil)) (.node (o129 P) (.node (o195 P) .nil .nil) (.node (o261 P) .nil .nil)))) (.node (o20 P) (.node (o39 P) (.node (o80 P) (.node (o155 P) (.node (o285 P) .nil .nil) .nil) (.node (o221 P) .nil .nil)) (.node (o121 P) (.node (o187 P) .nil .nil) (.node (o253 P) .nil .nil))) (.node (o61 P) (.node (o99 P) (.node (o171 P) (.node (o303 P) .nil .nil) .nil) (.node (o237 P) .nil .nil)) (.node (o137 P) (.node (o203 P) .nil .nil) (.node (o269 P) .nil .nil))))))) (.node (boot_o_2 P) (.node (boot_o_4 P) (.node (boot_o_8 P) (.node (o7 P) (.node (o23 P) (.node (o64 P) (.node (o140 P) (.node (o272 P) .nil .nil) .nil) (.node (o206 P) .nil .nil)) (.node (o105 P) (.node (o174 P) (.node (o306 P) .nil .nil) .nil) (.node (o240 P) .nil .nil))) (.node (o45 P) (.node (o83 P) (.node (o158 P) (.node (o288 P) .nil .nil) .nil) (.node (o224 P) .nil .nil)) (.node (o124 P) (.node (o190 P) .nil .nil) (.node (o256 P) .nil .nil)))) (.node (o15 P) (.node (o34 P) (.node (o75 P) (.node (o148 P) (.node (o280 P) .nil .nil) .nil) (.node (o216 P) .nil .nil)) (.node (o113 P) (.node (o182 P) .nil .nil) (.node (o248 P) .nil .nil))) (.node (o53 P) (.node (o94 P) (.node (o166 P) (.node (o298 P) .nil .nil) .nil) (.node (o232 P) .nil .nil)) (.node (o132 P) (.node (o198 P) .nil .nil) (.node (o264 P) .nil .nil))))) (.node (o295 P) (.node (o11 P) (.node (o30 P) (.node (o68 P) (.node (o144 P) (.node (o276 P) .nil .nil) .nil) (.node (o212 P) .nil .nil)) (.node (o109 P) (.node (o178 P) .nil .nil) (.node (o244 P) .nil .nil))) (.node (o49 P) (.node (o90 P) (.node (o162 P) (.node (o292 P) .nil .nil) .nil) (.node (o228 P) .nil .nil)) (.node (o128 P) (.node (o194 P) .nil .nil) (.node (o260 P) .nil .nil)))) (.node (o19 P) (.node (o38 P) (.node (o79 P) (.node (o154 P) (.node (o284 P) .nil .nil) .nil) (.node (o220 P) .nil .nil)) (.node (o120 P) (.node (o186 P) .nil .nil) (.node (o252 P) .nil .nil))) (.node (o60 P) (.node (o98 P) (.node (o170 P) (.node (o302 P) .nil .nil) .nil) (.node (o236 P) .nil .nil)) (.node (o136 P) (.node (o202 P) .nil .nil) (.node (o268 P) .nil .nil)))))) (.node (boot_o_6 P) (.node (boot_o_10 P) (.node (o9 P) (.node (o25 P) (.node (o66 P) (.node (o142 P) (.node (o274 P) .nil .nil) .nil) (.node (o210 P) .nil .nil)) (.node (o107 P) (.node (o176 P) (.node (o308 P) .nil .nil) .nil) (.node (o242 P) .nil .nil))) (.node (o47 P) (.node (o85 P) (.node (o160 P) (.node (o290 P) .nil .nil) .nil) (.node (o226 P) .nil .nil)) (.node (o126 P) (.node (o192 P) .nil .nil) (.node (o258 P) .nil .nil)))) (.node (o17 P) (.node (o36 P) (.node (o77 P) (.node (o150 P) (.node (o282 P) .nil .nil) .nil) (.node (o218 P) .nil .nil)) (.node (o115 P) (.node (o184 P) .nil .nil) (.node (o250 P) .nil .nil))) (.node (o55 P) (.node (o96 P) (.node (o168 P) (.node (o300 P) .nil .nil) .nil) (.node (o234 P) .nil .nil)) (.node (o134 P) (.node (o200 P) .nil .nil) (.node (o266 P) .nil .nil))))) (.node (o3 P) (.node (o13 P) (.node (o32 P) (.node (o70 P) (.node (o146 P) (.node (o278 P) .nil .nil) .nil) (.node (o214 P) .nil .nil)) (.node (o111 P) (.node (o180 P) .nil .nil) (.node (o246 P) .nil .nil))) (.node (o51 P) (.node (o92 P) (.node (o164 P) (.node (o296 P) .nil .nil) .nil) (.node (o230 P) .nil .nil)) (.node (o130 P) (.node (o196 P) .nil .nil) (.node (o262 P) .nil .nil)))) (.node (o21 P) (.node (o40 P) (.node (o81 P) (.node (o156 P) (.node (o286 P) .nil .nil) .nil) (.node (o222 P) .nil .nil)) (.node (o122 P) (.node (o188 P) .nil .nil) (.node (o254 P) .nil .nil))) (.node (o62 P) (.node (o100 P) (.node (o172 P) (.node (o304 P) .nil .nil) .nil) (.node (o238 P) .nil .nil)) (.node (o138 P) (.node (o204 P) .nil .nil) (.node (o270 P) .nil .nil))))))))
noncomputable def sts10 : List Stmt := (pw.main.body.drop 30).take 2
noncomputable def hf (P : Params) : Heap := ⟨⟨[(boot_o_0 P), (boot_o_1 P), (boot_o_2 P), (o294 P), (boot_o_4 P), (boot_o_5 P), (boot_o_6 P), (boot_o_7 P), (boot_o_8 P), (boot_o_9 P), (boot_o_10 P), (o0 P), (o295 P), (o2 P), (o3 P), (o6 P), (o7 P), (o8 P), (o9 P), (o10 P), (o11 P), (o12 P), (o13 P), (o14 P), (o15 P), (o16 P), (o17 P), (o18 P), (o19 P), (o20 P), (o21 P), (o118 P), (o23 P), (o24 P), (o25 P), (o29 P), (o30 P), (o31 P), (o32 P), (o33 P), (o34 P), (o35 P), (o36 P), (o37 P), (o38 P), (o39 P), (o40 P), (o44 P), (o45 P), (o46 P), (o47 P), (o48 P), (o49 P), (o50 P), (o51 P), (o52 P), (o53 P), (o54 P), (o55 P), (o59 P), (o60 P), (o61 P), (o62 P), (o63 P), (o64 P), (o65 P), (o66 P), (o67 P), (o68 P), (o69 P), (o70 P), (o74 P), (o75 P), (o76 P), (o77 P), (o78 P), (o79 P), (o80 P), (o81 P), (o82 P), (o83 P), (o84 P), (o85 P), (o89 P), (o90 P), (o91 P), (o92 P), (o93 P), (o94 P), (o95 P), (o96 P), (o97 P), (o98 P), (o99 P), (o100 P), (o104 P), (o105 P), (o106 P), (o107 P), (o108 P), (o109 P), (o110 P), (o111 P), (o112 P), (o113 P), (o114 P), (o115 P), (o119 P), (o120 P), (o121 P), (o122 P), (o123 P), (o124 P), (o125 P), (o126 P), (o127 P), (o128 P), (o129 P), (o130 P), (o131 P), (o132 P), (o133 P), (o134 P), (o135 P), (o136 P), (o137 P), (o138 P), (o139 P), (o140 P), (o141 P), (o142 P), (o143 P), (o144 P), (o145 P), (o146 P), (o147 P), (o148 P), (o149 P), (o150 P), (o151 P), (o154 P), (o155 P), (o156 P), (o157 P), (o158 P), (o159 P), (o160 P), (o161 P), (o162 P), (o163 P), (o164 P), (o165 P), (o166 P), (o167 P), (o168 P), (o169 P), (o170 P), (o171 P), (o172 P), (o173 P), (o174 P), (o175 P), (o176 P), (o177 P), (o178 P), (o179 P), (o180 P), (o181 P), (o182 P), (o183 P), (o184 P), (o185 P), (o186 P), (o187 P), (o188 P), (o189 P), (o190 P), (o191 P), (o192 P), (o193 P), (o194 P), (o195 P), (o196 P), (o197 P), (o198 P), (o199 P), (o200 P), (o201 P), (o202 P), (o203 P), (o204 P), (o205 P), (o206 P), (o207 P), (o210 P), (o211 P), (o212 P), (o213 P), (o214 P), (o215 P), (o216 P), (o217 P), (o218 P), (o219 P), (o220 P), (o221 P), (o222 P), (o223 P), (o224 P), (o225 P), (o226 P), (o227 P), (o228 P), (o229 P), (o230 P), (o231 P), (o232 P), (o233 P), (o234 P), (o235 P), (o236 P), (o237 P), (o238 P), (o239 P), (o240 P), (o241 P), (o242 P), (o243 P), (o244 P), (o245 P), (o246 P), (o247 P), (o248 P), (o249 P), (o250 P), (o251 P), (o252 P), (o253 P), (o254 P), (o255 P), (o256 P), (o257 P), (o258 P), (o259 P), (o260 P), (o261 P), (o262 P), (o263 P), (o264 P), (o265 P), (o266 P), (o267 P), (o268 P), (o269 P), (o270 P), (o271 P), (o272 P), (o273 P), (o274 P), (o275 P), (o276 P), (o277 P), (o278 P), (o279 P), (o280 P), (o281 P), (o282 P), (o283 P), (o284 P), (o285 P), (o286 P), (o287 P), (o288 P), (o289 P), (o290 P), (o291 P), (o292 P), (o293 P), (o296 P), (o297 P), (o298 P), (o299 P), (o300 P), (o301 P), (o302 P), (o303 P), (o304 P), (o305 P), (o306 P), (o307 P), (o308 P), (o309 P)]⟩, ⟨[], [], [], 0, [], [], false, #[], [], 0, false, false, false, 0, [2000, 10, 10], false, 0, true, [], [], 0, false⟩⟩
theorem pc0 (w : World) (os : OsState) : segRunT treeTable pw w 11 ann 1 225 (⟨tr0 w.params, 15, life, ⟨[]⟩, drawn, 187, os⟩ : SharedT) (piecesOf sts0 env cE ⟨0, 0, 0, 0⟩ [topFrame ⟨0, 0, 0, 0⟩]) = some (.next, (⟨tr1 w.params, 35, life, ⟨[]⟩, drawn, 214, os⟩ : SharedT), cE, ⟨5, 0, 6, 8⟩) := by_segT (by kernel_rfl)
theorem pc1 (w : World) (os : OsState) : segRunT treeTable pw w 11 ann 1 214 (⟨tr1 w.params, 35, life, ⟨[]⟩, drawn, 214, os⟩ : SharedT) (piecesOf sts1 env cE ⟨5, 0, 6, 8⟩ [topFrame ⟨0, 0, 0, 0⟩]) = some (.next, (⟨tr2 w.params, 47, life, ⟨[]⟩, drawn, 230, os⟩ : SharedT), cE, ⟨7, 0, 8, 8⟩) := by_segT (by kernel_rfl)
theorem pc2 (w : World) (os : OsState) : segRunT treeTable pw w 11 ann 1 214 (⟨tr2 w.params, 47, life, ⟨[]⟩, drawn, 230, os⟩ : SharedT) (piecesOf sts2 env cE ⟨7, 0, 8, 8⟩ [topFrame ⟨0, 0, 0, 0⟩]) = some (.next, (⟨tr3 w.params, 59, life, ⟨[]⟩, drawn, 246, os⟩ : SharedT), cE, ⟨9, 0, 10, 8⟩) := by_segT (by kernel_rfl)
theorem pc3 (w : World) (os : OsState) : segRunT treeTable pw w 11 ann 1 214 (⟨tr3 w.params, 59, life, ⟨[]⟩, drawn, 246, os⟩ : SharedT) (piecesOf sts3 env cE ⟨9, 0, 10, 8⟩ [topFrame ⟨0, 0, 0, 0⟩]) = some (.next, (⟨tr4 w.params, 71, life, ⟨[]⟩, drawn, 262, os⟩ : SharedT), cE, ⟨11, 0, 12, 8⟩) := by_segT (by kernel_rfl)
theorem pc4 (w : World) (os : OsState) : segRunT treeTable pw w 11 ann 1 214 (⟨tr4 w.params, 71, life, ⟨[]⟩, drawn, 262, os⟩ : SharedT) (piecesOf sts4 env cE ⟨11, 0, 12, 8⟩ [topFrame ⟨0, 0, 0, 0⟩]) = some (.next, (⟨tr5 w.params, 83, life, ⟨[]⟩, drawn, 278, os⟩ : SharedT), cE, ⟨13, 0, 14, 8⟩) := by_segT (by kernel_rfl)
theorem pc5 (w : World) (os : OsState) : segRunT treeTable pw w 11 ann 1 214 (⟨tr5 w.params, 83, life, ⟨[]⟩, drawn, 278, os⟩ : SharedT) (piecesOf sts5 env cE ⟨13, 0, 14, 8⟩ [topFrame ⟨0, 0, 0, 0⟩]) = some (.next, (⟨tr6 w.params, 95, life, ⟨[]⟩, drawn, 294, os⟩ : SharedT), cE, ⟨15, 0, 16, 8⟩) := by_segT (by kernel_rfl)
theorem pc6 (w : World) (os : OsState) : segRunT treeTable pw w 11 ann 1 214 (⟨tr6 w.params, 95, life, ⟨[]⟩, drawn, 294, os⟩ : SharedT) (piecesOf sts6 env cE ⟨15, 0, 16, 8⟩ [topFrame ⟨0, 0, 0, 0⟩]) = some (.next, (⟨tr7 w.params, 107, life, ⟨[]⟩, drawn, 310, os⟩ : SharedT), cE, ⟨17, 0, 18, 8⟩) := by_segT (by kernel_rfl)
theorem pc7 (w : World) (os : OsState) : segRunT treeTable pw w 11 ann 1 320 (⟨tr7 w.params, 107, life, ⟨[]⟩, drawn, 310, os⟩ : SharedT) (piecesOf sts7 env cE ⟨17, 0, 18, 8⟩ [topFrame ⟨0, 0, 0, 0⟩]) = some (.next, (⟨tr8 w.params, 140, life, ⟨[]⟩, drawn, 352, os⟩ : SharedT), cE, ⟨27, 0, 29, 45⟩) := by_segT (by kernel_rfl)
theorem pc8 (w : World) (os : OsState) : segRunT treeTable pw w 11 ann 1 387 (⟨tr8 w.params, 140, life, ⟨[]⟩, drawn, 352, os⟩ : SharedT) (piecesOf sts8 env cE ⟨27, 0, 29, 45⟩ [topFrame ⟨0, 0, 0, 0⟩]) = some (.next, (⟨tr9 w.params, 194, life, ⟨[]⟩, drawn, 422, os⟩ : SharedT), cE, ⟨59, 0, 62, 12⟩) := by_segT (by kernel_rfl)
theorem pc9 (w : World) (os : OsState) : segRunT treeTable pw w 11 ann 1 393 (⟨tr9 w.params, 194, life, ⟨[]⟩, drawn, 422, os⟩ : SharedT) (piecesOf sts9 env cE ⟨59, 0, 62, 12⟩ [topFrame ⟨0, 0, 0, 0⟩]) = some (.next, (⟨tr10 w.params, 278, life, ⟨[]⟩, drawn, 550, os⟩ : SharedT), cE, ⟨151, 0, 162, 12⟩) := by_segT (by kernel_rfl)
theorem pc10 (w : World) (os : OsState) : segRunT treeTable pw w 11 ann 1 73 (⟨tr10 w.params, 278, life, ⟨[]⟩, drawn, 550, os⟩ : SharedT) (piecesOf sts10 env cE ⟨151, 0, 162, 12⟩ [topFrame ⟨0, 0, 0, 0⟩]) = some (.next, (⟨tr11 w.params, 292, life, ⟨[]⟩, drawn, 578, os⟩ : SharedT), cE, ⟨180, 0, 194, 83⟩) := by_segT (by kernel_rfl)
theorem pre_ (w : World) (os : OsState) : topGo treeTable pw w 11 ann 12 (⟨boot_heap w.params, ⟨[]⟩, boot_drawn, boot_toks, os⟩ : Shared) (topStub pw) = some ((⟨ha w.params, ⟨[]⟩, drawn, 187, os⟩ : Shared), ⟨denote treeTable cE, cE, ⟨0, 0, 0, 0⟩, [topFrame ⟨0, 0, 0, 0⟩]⟩) := by_topGo (by kernel_rfl)
theorem blk (w : World) (os : OsState) : segRun treeTable pw w 11 ann 1 1 (⟨ha w.params, ⟨[]⟩, drawn, 187, os⟩ : Shared) (blockOf (behindTheImports pw) env cE ⟨0, 0, 0, 0⟩ [topFrame ⟨0, 0, 0, 0⟩]) = some (.next, (⟨tr0 w.params, 15, life, ⟨[]⟩, drawn, 187, os⟩ : SharedT).abs, cE, ⟨0, 0, 0, 0⟩) := by_seg (by kernel_rfl)
theorem fin_ (w : World) (os : OsState) : topRun treeTable pw w 11 ann 2 (⟨tr11 w.params, 292, life, ⟨[]⟩, drawn, 578, os⟩ : SharedT).abs ⟨doneF .next, cE, ⟨180, 0, 194, 83⟩, [topFrame ⟨0, 0, 0, 0⟩]⟩ = some (⟨hf w.params, ⟨[]⟩, drawn, 578, os⟩ : Shared) := by_topRun (by kernel_rfl)
theorem body_eq : behindTheImports pw = (sts0 ++ (sts1 ++ (sts2 ++ (sts3 ++ (sts4 ++ (sts5 ++ (sts6 ++ (sts7 ++ (sts8 ++ (sts9 ++ (sts10 ++ []))))))))))) := by kernel_rfl
theorem run_ (w : World) (os : OsState) : topRun treeTable pw w 11 ann (12 + (1 + (225 + (214 + (214 + (214 + (214 + (214 + (214 + (320 + (387 + (393 + (73 + 2))))))))))))) (⟨boot_heap w.params, ⟨[]⟩, boot_drawn, boot_toks, os⟩ : Shared) (topStub pw) = some (⟨hf w.params, ⟨[]⟩, drawn, 578, os⟩ : Shared) :=
  go_top (pre_ w os) (piece_block (blk w os) (by rw [body_eq]; exact piece_app (segRun_of (pc0 w os)) (piece_app (segRun_of (pc1 w os)) (piece_app (segRun_of (pc2 w os)) (piece_app (segRun_of (pc3 w os)) (piece_app (segRun_of (pc4 w os)) (piece_app (segRun_of (pc5 w os)) (piece_app (segRun_of (pc6 w os)) (piece_app (segRun_of (pc7 w os)) (piece_app (segRun_of (pc8 w os)) (piece_app (segRun_of (pc9 w os)) (piece_app (segRun_of (pc10 w os)) (piece_nil (fin_ w os))))))))))))))
theorem size_ (w : World) : ((boot_heap w.params).isNs mainGlobals && (⟨[]⟩ : Array GenState).size == 0, (boot_heap w.params).objs.size, (boot_heap w.params).nsMap mainGlobals "__annotations__") = (true, 11, ann) := by kernel_rfl
theorem open_ : ∀ w : World, (fencedOpening treeTable pw w 5468).map (fun s => (s.heap, s.gens, s.drawn, s.toks)) = some (boot_heap w.params, Array.mk [], boot_drawn, boot_toks) :=
  boot_open (show opening pw = plainProg pw.main.scope.names by kernel_rfl) (by decide +kernel) (fun s => (show fenceModules? pw s = some s by kernel_rfl))
noncomputable def vw : Program := view pw [0, 2, 3, 4, 5, 6, 7, 8, 9, 11, 12, 13, 14, 15, 17, 18, 19, 20, 21, 22, 23, 24, 25, 26, 27, 28, 29, 30, 31]
noncomputable def kf (P : Params) : Frag := [(2, (boot_o_2 P)), (3, (o294 P)), (11, (o0 P)), (12, (o295 P)), (13, (o2 P)), (14, (o3 P)), (15, (o6 P)), (16, (o7 P)), (17, (o8 P)), (18, (o9 P)), (19, (o10 P)), (20, (o11 P)), (21, (o12 P)), (22, (o13 P)), (23, (o14 P)), (24, (o15 P)), (25, (o16 P)), (26, (o17 P)), (27, (o18 P)), (28, (o19 P)), (29, (o20 P)), (30, (o21 P)), (31, (o118 P)), (32, (o23 P)), (33, (o24 P)), (34, (o25 P)), (35, (o29 P)), (36, (o30 P)), (37, (o31 P)), (38, (o32 P)), (39, (o33 P)), (40, (o34 P)), (41, (o35 P)), (42, (o36 P)), (43, (o37 P)), (44, (o38 P)), (45, (o39 P)), (46, (o40 P)), (47, (o44 P)), (48, (o45 P)), (49, (o46 P)), (50, (o47 P)), (51, (o48 P)), (52, (o49 P)), (53, (o50 P)), (54, (o51 P)), (55, (o52 P)), (56, (o53 P)), (57, (o54 P)), (58, (o55 P)), (59, (o59 P)), (60, (o60 P)), (61, (o61 P)), (62, (o62 P)), (63, (o63 P)), (64, (o64 P)), (65, (o65 P)), (66, (o66 P)), (67, (o67 P)), (68, (o68 P)), (69, (o69 P)), (70, (o70 P)), (71, (o74 P)), (72, (o75 P)), (73, (o76 P)), (74, (o77 P)), (75, (o78 P)), (76, (o79 P)), (77, (o80 P)), (78, (o81 P)), (79, (o82 P)), (80, (o83 P)), (81, (o84 P)), (82, (o85 P)), (83, (o89 P)), (84, (o90 P)), (85, (o91 P)), (86, (o92 P)), (87, (o93 P)), (88, (o94 P)), (89, (o95 P)), (90, (o96 P)), (91, (o97 P)), (92, (o98 P)), (93, (o99 P)), (94, (o100 P)), (95, (o104 P)), (96, (o105 P)), (97, (o106 P)), (98, (o107 P)), (99, (o108 P)), (100, (o109 P)), (101, (o110 P)), (102, (o111 P)), (103, (o112 P)), (104, (o113 P)), (105, (o114 P)), (106, (o115 P)), (107, (o119 P)), (108, (o120 P)), (109, (o121 P)), (110, (o122 P)), (111, (o123 P)), (112, (o124 P)), (113, (o125 P)), (114, (o126 P)), (115, (o127 P)), (116, (o128 P)), (117, (o129 P)), (118, (o130 P)), (119, (o131 P)), (120, (o132 P)), (121, (o133 P)), (122, (o134 P)), (123, (o135 P)), (124, (o136 P)), (125, (o137 P)), (126, (o138 P)), (127, (o139 P)), (128, (o140 P)), (129, (o141 P)), (130, (o142 P)), (131, (o143 P)), (132, (o144 P)), (133, (o145 P)), (134, (o146 P)), (135, (o147 P)), (136, (o148 P)), (137, (o149 P)), (138, (o150 P)), (139, (o151 P)), (140, (o154 P)), (141, (o155 P)), (142, (o156 P)), (143, (o157 P)), (144, (o158 P)), (145, (o159 P)), (146, (o160 P)), (147, (o161 P)), (148, (o162 P)), (149, (o163 P)), (150, (o164 P)), (151, (o165 P)), (152, (o166 P)), (153, (o167 P)), (154, (o168 P)), (155, (o169 P)), (156, (o170 P)), (157, (o171 P)), (158, (o172 P)), (159, (o173 P)), (160, (o174 P)), (161, (o175 P)), (162, (o176 P)), (163, (o177 P)), (164, (o178 P)), (165, (o179 P)), (166, (o180 P)), (167, (o181 P)), (168, (o182 P)), (169, (o183 P)), (170, (o184 P)), (171, (o185 P)), (172, (o186 P)), (173, (o187 P)), (174, (o188 P)), (175, (o189 P)), (176, (o190 P)), (177, (o191 P)), (178, (o192 P)), (179, (o193 P)), (180, (o194 P)), (181, (o195 P)), (182, (o196 P)), (183, (o197 P)), (184, (o198 P)), (185, (o199 P)), (186, (o200 P)), (187, (o201 P)), (188, (o202 P)), (189, (o203 P)), (190, (o204 P)), (191, (o205 P)), (192, (o206 P)), (193, (o207 P)), (194, (o210 P)), (195, (o211 P)), (196, (o212 P)), (197, (o213 P)), (198, (o214 P)), (199, (o215 P)), (200, (o216 P)), (201, (o217 P)), (202, (o218 P)), (203, (o219 P)), (204, (o220 P)), (205, (o221 P)), (206, (o222 P)), (207, (o223 P)), (208, (o224 P)), (209, (o225 P)), (210, (o226 P)), (211, (o227 P)), (212, (o228 P)), (213, (o229 P)), (214, (o230 P)), (215, (o231 P)), (216, (o232 P)), (217, (o233 P)), (218, (o234 P)), (219, (o235 P)), (220, (o236 P)), (221, (o237 P)), (222, (o238 P)), (223, (o239 P)), (224, (o240 P)), (225, (o241 P)), (226, (o242 P)), (227, (o243 P)), (228, (o244 P)), (229, (o245 P)), (230, (o246 P)), (231, (o247 P)), (232, (o248 P)), (233, (o249 P)), (234, (o250 P)), (235, (o251 P)), (236, (o252 P)), (237, (o253 P)), (238, (o254 P)), (239, (o255 P)), (240, (o256 P)), (241, (o257 P)), (242, (o258 P)), (243, (o259 P)), (244, (o260 P)), (245, (o261 P)), (246, (o262 P)), (247, (o263 P)), (248, (o264 P)), (249, (o265 P)), (250, (o266 P)), (251, (o267 P)), (252, (o268 P)), (253, (o269 P)), (254, (o270 P)), (255, (o271 P)), (256, (o272 P)), (257, (o273 P)), (258, (o274 P)), (259, (o275 P)), (260, (o276 P)), (261, (o277 P)), (262, (o278 P)), (263, (o279 P)), (264, (o280 P)), (265, (o281 P)), (266, (o282 P)), (267, (o283 P)), (268, (o284 P)), (269, (o285 P)), (270, (o286 P)), (271, (o287 P)), (272, (o288 P)), (273, (o289 P)), (274, (o290 P)), (275, (o291 P)), (276, (o292 P)), (277, (o293 P)), (278, (o296 P)), (279, (o297 P)), (280, (o298 P)), (281, (o299 P)), (282, (o300 P)), (283, (o301 P)), (284, (o302 P)), (285, (o303 P)), (286, (o304 P)), (287, (o305 P)), (288, (o306 P)), (289, (o307 P)), (290, (o308 P)), (291, (o309 P))]
noncomputable def ka : List Addr := [2, 3, 11, 12, 13, 14, 15, 16, 17, 18, 19, 20, 21, 22, 23, 24, 25, 26, 27, 28, 29, 30, 31, 32, 33, 34, 35, 36, 37, 38, 39, 40, 41, 42, 43, 44, 45, 46, 47, 48, 49, 50, 51, 52, 53, 54, 55, 56, 57, 58, 59, 60, 61, 62, 63, 64, 65, 66, 67, 68, 69, 70, 71, 72, 73, 74, 75, 76, 77, 78, 79, 80, 81, 82, 83, 84, 85, 86, 87, 88, 89, 90, 91, 92, 93, 94, 95, 96, 97, 98, 99, 100, 101, 102, 103, 104, 105, 106, 107, 108, 109, 110, 111, 112, 113, 114, 115, 116, 117, 118, 119, 120, 121, 122, 123, 124, 125, 126, 127, 128, 129, 130, 131, 132, 133, 134, 135, 136, 137, 138, 139, 140, 141, 142, 143, 144, 145, 146, 147, 148, 149, 150, 151, 152, 153, 154, 155, 156, 157, 158, 159, 160, 161, 162, 163, 164, 165, 166, 167, 168, 169, 170, 171, 172, 173, 174, 175, 176, 177, 178, 179, 180, 181, 182, 183, 184, 185, 186, 187, 188, 189, 190, 191, 192, 193, 194, 195, 196, 197, 198, 199, 200, 201, 202, 203, 204, 205, 206, 207, 208, 209, 210, 211, 212, 213, 214, 215, 216, 217, 218, 219, 220, 221, 222, 223, 224, 225, 226, 227, 228, 229, 230, 231, 232, 233, 234, 235, 236, 237, 238, 239, 240, 241, 242, 243, 244, 245, 246, 247, 248, 249, 250, 251, 252, 253, 254, 255, 256, 257, 258, 259, 260, 261, 262, 263, 264, 265, 266, 267, 268, 269, 270, 271, 272, 273, 274, 275, 276, 277, 278, 279, 280, 281, 282, 283, 284, 285, 286, 287, 288, 289, 290, 291]
noncomputable def hk : Hook := kHook kf ka (fun _ => by kernel_rfl)
noncomputable def xt (s : Shared) : Bool := xlAt vw [] s && recOk [] s
theorem look1 (w : World) (os : OsState) : (staticsOk (importedModules pw.main.body) (boot_heap w.params) (hf w.params) && namesBound pw (hf w.params) && gensDone (⟨hf w.params, ⟨[]⟩, drawn, 578, os⟩ : Shared) && laidKept (boot_heap w.params) (hf w.params)) = true := by kernel_rfl
theorem look2 (w : World) (os : OsState) : openSeen vw [] (importedModules pw.main.body) xt true (⟨hf w.params, ⟨[]⟩, drawn, 578, os⟩ : Shared) = openGood vw [] := by_seen (by kernel_rfl)
theorem look3 (w : World) (os : OsState) : ka.map (hf w.params).get? = (kf w.params).map fun p => some p.2 := by kernel_rfl
theorem left : LeftO pw vw [] xt hk.obs hk.val 5468 true :=
  LeftO.of_pieces open_ size_ run_ (by decide +kernel) fun w => funext fun os => looks_pair (look1 w os) (looks_pair (look2 w os) (look3 w os))
-- keep [0, 2, 3, 4, 5, 6, 7, 8, 9, 11, 12, 13, 14, 15, 17, 18, 19, 20, 21, 22, 23, 24, 25, 26, 27, 28, 29, 30, 31] loose [] lv [] lits []
end Mine.Hd

set_option maxRecDepth 100000
set_option maxHeartbeats 0
set_option Elab.async false
namespace Mine.Hd
open PySem PySem.W PySem.Calls PyProof.Rows
theorem by_said {l : OpenLaw} (h : Fast.tw9446332074065402090 l = true) : l.wellSaid = true := by
  rw [Fast.te9446332074065402090]; exact h
abbrev rw_ : OpenLaw := PySem.Challenge.rw_uf050028_02
theorem said : rw_.wellSaid = true := by_said (by kernel_rfl)
noncomputable def lawD : DefRec := ((defOf vw rw_.name).map (·.1)).getD ⟨"", default, [], default, default⟩
theorem law_def : defOf vw rw_.row.name = some (lawD, []) := by kernel_rfl
theorem hd (walk : WalkO vw [] (XL vw []) hk.says rw_.row.toRowW lawD [] fun f vs => PySem.call f vs) : PySem.Challenge.rw_uf050028_02.Holds :=
  holds_law said fun said' => holds_open (r := rw_.row) (q := vw) (loose := []) (Xt := xt) (XP := XL vw []) (Yf := hk.obs) (Ya := hk.val) (YP := hk.says) left hk.of hk.keeps (fun s e => xl_of s (Bool.and_eq_true_iff.mp e).1) XL.keeps law_def
    (show rw_.row.prog.theDef rw_.row.name = some (lawD.params, lawD.body, lawD.scope) by kernel_rfl) (show kwWritten? lawD.params.kwonlyargs lawD.params.kw_defaults = some [] by kernel_rfl) (fun s e => recFacts_of (Bool.and_eq_true_iff.mp e).2) (by kernel_rfl) said'
    (by kernel_rfl) ⟨rfl, rfl, rfl, rfl, rfl, by decide +kernel⟩ (by w_on; w_witness2) walk
end Mine.Hd

set_option linter.unusedVariables false
set_option maxRecDepth 100000
set_option maxHeartbeats 0
namespace Mine
open PySem PySem.W PyProof.Rows

noncomputable def fnT : List (Str × Addr) := [(("is_whole" : Str), 125), (("is_point" : Str), 132), (("need_points" : Str), 139), (("_law_cell_at" : Str), 193), (("_law_only" : Str), 200), (("_law_drawn" : Str), 207), (("_law_order" : Str), 214), (("_law_bit" : Str), 221), (("_law_above" : Str), 228), (("_law_reached" : Str), 235), (("_law_ringed" : Str), 242), (("_law_made" : Str), 249), (("_law_net" : Str), 256), (("_law_class" : Str), 270), (("_law_due" : Str), 277), (("_law_wrong" : Str), 284), (("law" : Str), 291)]
noncomputable def mtT : List ((Str × Str) × Addr) := [((("Net" : Str), ("__init__" : Str)), 151)]
noncomputable def clT : List (Str × Addr) := [(("TieError" : Str), 31), (("NoPoints" : Str), 44), (("NoPoint" : Str), 56), (("NoTie" : Str), 68), (("TwiceTold" : Str), 80), (("NoArrow" : Str), 92), (("Round" : Str), 104), (("Clash" : Str), 116), (("Net" : Str), 182)]
noncomputable def tabL (sa : Addr) (l : List Int) : Tab := { fn := fun n => fnT.lookup n, cls := fun c => clT.lookup c, meth := fun c n => mtT.lookup (c, n), scr := some (sa, l), isx := isxL, up := upL }
noncomputable def fdAt (K : Frag) (a : Addr) : FuncData := (fnIn? K a).getD default
noncomputable def FnK (K : Frag) (a : Addr) (t : List Str × List Stmt × Scope) : Prop := (fnIn? K a, fdOk K (fdAt K a), (fdAt K a).body, t) = (some (fdAt K a), true, FuncBody.stmts t.2.1, ((fdAt K a).params.args.map (·.arg), t.2.1, (fdAt K a).scope))
theorem FnK.at {K : Frag} {B : Heap} {a : Addr} {t : List Str × List Stmt × Scope} (X : K.In B) (h : FnK K a t) : FnAt B a mainGlobals builtinsNs t.1 t.2.1 t.2.2 :=
  fnAt_K X (congrArg (·.1) h) (congrArg (·.2.1) h) (congrArg (·.2.2.1) h) (congrArg (·.2.2.2) h)
noncomputable def GlK (K : Frag) (F : Tab) (B : Heap) (x : Str × Val) : Prop :=
  (∃ val, nsIn K mainGlobals x.1 = some (some val) ∧ VRel F B val x.2) ∨ (nsIn K mainGlobals x.1 = some none ∧ ∃ val, bootBuiltins x.1 = some val ∧ x.1 ≠ "__name__" ∧ VRel F B val x.2)
theorem fk0 (P : Params) : FnK (Hd.kf P) 125 (fnOf pwL "is_whole") := by unfold FnK; kernel_rfl
theorem fk1 (P : Params) : FnK (Hd.kf P) 132 (fnOf pwL "is_point") := by unfold FnK; kernel_rfl
theorem fk2 (P : Params) : FnK (Hd.kf P) 139 (fnOf pwL "need_points") := by unfold FnK; kernel_rfl
theorem fk3 (P : Params) : FnK (Hd.kf P) 193 (fnOf pwL "_law_cell_at") := by unfold FnK; kernel_rfl
theorem fk4 (P : Params) : FnK (Hd.kf P) 200 (fnOf pwL "_law_only") := by unfold FnK; kernel_rfl
theorem fk5 (P : Params) : FnK (Hd.kf P) 207 (fnOf pwL "_law_drawn") := by unfold FnK; kernel_rfl
theorem fk6 (P : Params) : FnK (Hd.kf P) 214 (fnOf pwL "_law_order") := by unfold FnK; kernel_rfl
theorem fk7 (P : Params) : FnK (Hd.kf P) 221 (fnOf pwL "_law_bit") := by unfold FnK; kernel_rfl
theorem fk8 (P : Params) : FnK (Hd.kf P) 228 (fnOf pwL "_law_above") := by unfold FnK; kernel_rfl
theorem fk9 (P : Params) : FnK (Hd.kf P) 235 (fnOf pwL "_law_reached") := by unfold FnK; kernel_rfl
theorem fk10 (P : Params) : FnK (Hd.kf P) 242 (fnOf pwL "_law_ringed") := by unfold FnK; kernel_rfl
theorem fk11 (P : Params) : FnK (Hd.kf P) 249 (fnOf pwL "_law_made") := by unfold FnK; kernel_rfl
theorem fk12 (P : Params) : FnK (Hd.kf P) 256 (fnOf pwL "_law_net") := by unfold FnK; kernel_rfl
theorem fk13 (P : Params) : FnK (Hd.kf P) 270 (fnOf pwL "_law_class") := by unfold FnK; kernel_rfl
theorem fk14 (P : Params) : FnK (Hd.kf P) 277 (fnOf pwL "_law_due") := by unfold FnK; kernel_rfl
theorem fk15 (P : Params) : FnK (Hd.kf P) 284 (fnOf pwL "_law_wrong") := by unfold FnK; kernel_rfl
theorem fk16 (P : Params) : FnK (Hd.kf P) 291 (fnOf pwL "law") := by unfold FnK; kernel_rfl
theorem mk0 (P : Params) : FnK (Hd.kf P) 151 (methIn (clsBody pwL "Net") "__init__") := by unfold FnK; kernel_rfl
theorem fn_all (P : Params) : ∀ x ∈ fnT, FnK (Hd.kf P) x.2 (fnOf pwL x.1) := (List.forall_mem_cons.mpr ⟨fk0 P, (List.forall_mem_cons.mpr ⟨fk1 P, (List.forall_mem_cons.mpr ⟨fk2 P, (List.forall_mem_cons.mpr ⟨fk3 P, (List.forall_mem_cons.mpr ⟨fk4 P, (List.forall_mem_cons.mpr ⟨fk5 P, (List.forall_mem_cons.mpr ⟨fk6 P, (List.forall_mem_cons.mpr ⟨fk7 P, (List.forall_mem_cons.mpr ⟨fk8 P, (List.forall_mem_cons.mpr ⟨fk9 P, (List.forall_mem_cons.mpr ⟨fk10 P, (List.forall_mem_cons.mpr ⟨fk11 P, (List.forall_mem_cons.mpr ⟨fk12 P, (List.forall_mem_cons.mpr ⟨fk13 P, (List.forall_mem_cons.mpr ⟨fk14 P, (List.forall_mem_cons.mpr ⟨fk15 P, (List.forall_mem_cons.mpr ⟨fk16 P, (fun _ h => nomatch h)⟩)⟩)⟩)⟩)⟩)⟩)⟩)⟩)⟩)⟩)⟩)⟩)⟩)⟩)⟩)⟩)⟩)
theorem mt_all (P : Params) : ∀ x ∈ mtT, FnK (Hd.kf P) x.2 (methIn (clsBody pwL x.1.1) x.1.2) := (List.forall_mem_cons.mpr ⟨mk0 P, (fun _ h => nomatch h)⟩)
noncomputable def tokOf (v : Option (Option Value)) : Tok := match v with
  | some (some (.int _ t)) => t
  | _ => 0
section
variable {sa : Addr} {l : List Int} {B : Heap} (P : Params)
theorem gk0 : GlK (Hd.kf P) (tabL sa l) B ("is_whole", .fn "is_whole") := .inl ⟨.ref 125, by kernel_rfl, .fn (by kernel_rfl)⟩
theorem gk1 : GlK (Hd.kf P) (tabL sa l) B ("is_point", .fn "is_point") := .inl ⟨.ref 132, by kernel_rfl, .fn (by kernel_rfl)⟩
theorem gk2 : GlK (Hd.kf P) (tabL sa l) B ("need_points", .fn "need_points") := .inl ⟨.ref 139, by kernel_rfl, .fn (by kernel_rfl)⟩
theorem gk3 : GlK (Hd.kf P) (tabL sa l) B ("_law_cell_at", .fn "_law_cell_at") := .inl ⟨.ref 193, by kernel_rfl, .fn (by kernel_rfl)⟩
theorem gk4 : GlK (Hd.kf P) (tabL sa l) B ("_law_only", .fn "_law_only") := .inl ⟨.ref 200, by kernel_rfl, .fn (by kernel_rfl)⟩
theorem gk5 : GlK (Hd.kf P) (tabL sa l) B ("_law_drawn", .fn "_law_drawn") := .inl ⟨.ref 207, by kernel_rfl, .fn (by kernel_rfl)⟩
theorem gk6 : GlK (Hd.kf P) (tabL sa l) B ("_law_order", .fn "_law_order") := .inl ⟨.ref 214, by kernel_rfl, .fn (by kernel_rfl)⟩
theorem gk7 : GlK (Hd.kf P) (tabL sa l) B ("_law_bit", .fn "_law_bit") := .inl ⟨.ref 221, by kernel_rfl, .fn (by kernel_rfl)⟩
theorem gk8 : GlK (Hd.kf P) (tabL sa l) B ("_law_above", .fn "_law_above") := .inl ⟨.ref 228, by kernel_rfl, .fn (by kernel_rfl)⟩
theorem gk9 : GlK (Hd.kf P) (tabL sa l) B ("_law_reached", .fn "_law_reached") := .inl ⟨.ref 235, by kernel_rfl, .fn (by kernel_rfl)⟩
theorem gk10 : GlK (Hd.kf P) (tabL sa l) B ("_law_ringed", .fn "_law_ringed") := .inl ⟨.ref 242, by kernel_rfl, .fn (by kernel_rfl)⟩
theorem gk11 : GlK (Hd.kf P) (tabL sa l) B ("_law_made", .fn "_law_made") := .inl ⟨.ref 249, by kernel_rfl, .fn (by kernel_rfl)⟩
theorem gk12 : GlK (Hd.kf P) (tabL sa l) B ("_law_net", .fn "_law_net") := .inl ⟨.ref 256, by kernel_rfl, .fn (by kernel_rfl)⟩
theorem gk13 : GlK (Hd.kf P) (tabL sa l) B ("_law_class", .fn "_law_class") := .inl ⟨.ref 270, by kernel_rfl, .fn (by kernel_rfl)⟩
theorem gk14 : GlK (Hd.kf P) (tabL sa l) B ("_law_due", .fn "_law_due") := .inl ⟨.ref 277, by kernel_rfl, .fn (by kernel_rfl)⟩
theorem gk15 : GlK (Hd.kf P) (tabL sa l) B ("_law_wrong", .fn "_law_wrong") := .inl ⟨.ref 284, by kernel_rfl, .fn (by kernel_rfl)⟩
theorem gk16 : GlK (Hd.kf P) (tabL sa l) B ("law", .fn "law") := .inl ⟨.ref 291, by kernel_rfl, .fn (by kernel_rfl)⟩
theorem gk17 : GlK (Hd.kf P) (tabL sa l) B ("TieError", .cls "TieError") := .inl ⟨.ref 31, by kernel_rfl, .cls (by kernel_rfl)⟩
theorem gk18 : GlK (Hd.kf P) (tabL sa l) B ("NoPoints", .cls "NoPoints") := .inl ⟨.ref 44, by kernel_rfl, .cls (by kernel_rfl)⟩
theorem gk19 : GlK (Hd.kf P) (tabL sa l) B ("NoPoint", .cls "NoPoint") := .inl ⟨.ref 56, by kernel_rfl, .cls (by kernel_rfl)⟩
theorem gk20 : GlK (Hd.kf P) (tabL sa l) B ("NoTie", .cls "NoTie") := .inl ⟨.ref 68, by kernel_rfl, .cls (by kernel_rfl)⟩
theorem gk21 : GlK (Hd.kf P) (tabL sa l) B ("TwiceTold", .cls "TwiceTold") := .inl ⟨.ref 80, by kernel_rfl, .cls (by kernel_rfl)⟩
theorem gk22 : GlK (Hd.kf P) (tabL sa l) B ("NoArrow", .cls "NoArrow") := .inl ⟨.ref 92, by kernel_rfl, .cls (by kernel_rfl)⟩
theorem gk23 : GlK (Hd.kf P) (tabL sa l) B ("Round", .cls "Round") := .inl ⟨.ref 104, by kernel_rfl, .cls (by kernel_rfl)⟩
theorem gk24 : GlK (Hd.kf P) (tabL sa l) B ("Clash", .cls "Clash") := .inl ⟨.ref 116, by kernel_rfl, .cls (by kernel_rfl)⟩
theorem gk25 : GlK (Hd.kf P) (tabL sa l) B ("Net", .cls "Net") := .inl ⟨.ref 182, by kernel_rfl, .cls (by kernel_rfl)⟩
theorem gk26 : GlK (Hd.kf P) (tabL sa l) B ("MOST_POINTS", .int 24) := .inl ⟨.int 24 (tokOf (nsIn (Hd.kf P) mainGlobals "MOST_POINTS")), by kernel_rfl, .int _ _⟩
theorem gk27 : GlK (Hd.kf P) (tabL sa l) B ("len", .blt "len") := .inr ⟨by kernel_rfl, .builtin "len", by kernel_rfl, by decide +kernel, .blt _⟩
theorem gk28 : GlK (Hd.kf P) (tabL sa l) B ("isinstance", .blt "isinstance") := .inr ⟨by kernel_rfl, .builtin "isinstance", by kernel_rfl, by decide +kernel, .blt _⟩
theorem gk29 : GlK (Hd.kf P) (tabL sa l) B ("min", .blt "min") := .inr ⟨by kernel_rfl, .builtin "min", by kernel_rfl, by decide +kernel, .blt _⟩
theorem gk30 : GlK (Hd.kf P) (tabL sa l) B ("max", .blt "max") := .inr ⟨by kernel_rfl, .builtin "max", by kernel_rfl, by decide +kernel, .blt _⟩
theorem gk31 : GlK (Hd.kf P) (tabL sa l) B ("range", .typ "range") := .inr ⟨by kernel_rfl, .type "range", by kernel_rfl, by decide +kernel, .typ _⟩
theorem gk32 : GlK (Hd.kf P) (tabL sa l) B ("list", .typ "list") := .inr ⟨by kernel_rfl, .type "list", by kernel_rfl, by decide +kernel, .typ _⟩
theorem gk33 : GlK (Hd.kf P) (tabL sa l) B ("int", .typ "int") := .inr ⟨by kernel_rfl, .type "int", by kernel_rfl, by decide +kernel, .typ _⟩
theorem gk34 : GlK (Hd.kf P) (tabL sa l) B ("bool", .typ "bool") := .inr ⟨by kernel_rfl, .type "bool", by kernel_rfl, by decide +kernel, .typ _⟩
theorem gk35 : GlK (Hd.kf P) (tabL sa l) B ("ValueError", .typ "ValueError") := .inr ⟨by kernel_rfl, .type "ValueError", by kernel_rfl, by decide +kernel, .typ _⟩
theorem gl_all : ∀ x ∈ glT, GlK (Hd.kf P) (tabL sa l) B x := (List.forall_mem_cons.mpr ⟨gk0 P, (List.forall_mem_cons.mpr ⟨gk1 P, (List.forall_mem_cons.mpr ⟨gk2 P, (List.forall_mem_cons.mpr ⟨gk3 P, (List.forall_mem_cons.mpr ⟨gk4 P, (List.forall_mem_cons.mpr ⟨gk5 P, (List.forall_mem_cons.mpr ⟨gk6 P, (List.forall_mem_cons.mpr ⟨gk7 P, (List.forall_mem_cons.mpr ⟨gk8 P, (List.forall_mem_cons.mpr ⟨gk9 P, (List.forall_mem_cons.mpr ⟨gk10 P, (List.forall_mem_cons.mpr ⟨gk11 P, (List.forall_mem_cons.mpr ⟨gk12 P, (List.forall_mem_cons.mpr ⟨gk13 P, (List.forall_mem_cons.mpr ⟨gk14 P, (List.forall_mem_cons.mpr ⟨gk15 P, (List.forall_mem_cons.mpr ⟨gk16 P, (List.forall_mem_cons.mpr ⟨gk17 P, (List.forall_mem_cons.mpr ⟨gk18 P, (List.forall_mem_cons.mpr ⟨gk19 P, (List.forall_mem_cons.mpr ⟨gk20 P, (List.forall_mem_cons.mpr ⟨gk21 P, (List.forall_mem_cons.mpr ⟨gk22 P, (List.forall_mem_cons.mpr ⟨gk23 P, (List.forall_mem_cons.mpr ⟨gk24 P, (List.forall_mem_cons.mpr ⟨gk25 P, (List.forall_mem_cons.mpr ⟨gk26 P, (List.forall_mem_cons.mpr ⟨gk27 P, (List.forall_mem_cons.mpr ⟨gk28 P, (List.forall_mem_cons.mpr ⟨gk29 P, (List.forall_mem_cons.mpr ⟨gk30 P, (List.forall_mem_cons.mpr ⟨gk31 P, (List.forall_mem_cons.mpr ⟨gk32 P, (List.forall_mem_cons.mpr ⟨gk33 P, (List.forall_mem_cons.mpr ⟨gk34 P, (List.forall_mem_cons.mpr ⟨gk35 P, (fun _ h => nomatch h)⟩)⟩)⟩)⟩)⟩)⟩)⟩)⟩)⟩)⟩)⟩)⟩)⟩)⟩)⟩)⟩)⟩)⟩)⟩)⟩)⟩)⟩)⟩)⟩)⟩)⟩)⟩)⟩)⟩)⟩)⟩)⟩)⟩)⟩)⟩)⟩)
theorem xc_all : ∀ x ∈ excN, ∃ D, clT.lookup x = some D ∧ XcOk (Hd.kf P) D ∧ nsIn (Hd.kf P) mainGlobals x = some (some (.ref D)) ∧ excIn (Hd.kf P) D [.type "ValueError", .type "Exception", .type "BaseException", .type "object"] "ValueError.__new__" = true ∧ kitOne (Hd.kf P) (.ref D) (.type "ValueError") = some true := (List.forall_mem_cons.mpr ⟨⟨31, by kernel_rfl, ⟨by kernel_rfl, by kernel_rfl, by kernel_rfl, by kernel_rfl, by kernel_rfl, by kernel_rfl, by kernel_rfl, by kernel_rfl⟩, by kernel_rfl, by kernel_rfl, by kernel_rfl⟩, (List.forall_mem_cons.mpr ⟨⟨44, by kernel_rfl, ⟨by kernel_rfl, by kernel_rfl, by kernel_rfl, by kernel_rfl, by kernel_rfl, by kernel_rfl, by kernel_rfl, by kernel_rfl⟩, by kernel_rfl, by kernel_rfl, by kernel_rfl⟩, (List.forall_mem_cons.mpr ⟨⟨56, by kernel_rfl, ⟨by kernel_rfl, by kernel_rfl, by kernel_rfl, by kernel_rfl, by kernel_rfl, by kernel_rfl, by kernel_rfl, by kernel_rfl⟩, by kernel_rfl, by kernel_rfl, by kernel_rfl⟩, (List.forall_mem_cons.mpr ⟨⟨68, by kernel_rfl, ⟨by kernel_rfl, by kernel_rfl, by kernel_rfl, by kernel_rfl, by kernel_rfl, by kernel_rfl, by kernel_rfl, by kernel_rfl⟩, by kernel_rfl, by kernel_rfl, by kernel_rfl⟩, (List.forall_mem_cons.mpr ⟨⟨80, by kernel_rfl, ⟨by kernel_rfl, by kernel_rfl, by kernel_rfl, by kernel_rfl, by kernel_rfl, by kernel_rfl, by kernel_rfl, by kernel_rfl⟩, by kernel_rfl, by kernel_rfl, by kernel_rfl⟩, (List.forall_mem_cons.mpr ⟨⟨92, by kernel_rfl, ⟨by kernel_rfl, by kernel_rfl, by kernel_rfl, by kernel_rfl, by kernel_rfl, by kernel_rfl, by kernel_rfl, by kernel_rfl⟩, by kernel_rfl, by kernel_rfl, by kernel_rfl⟩, (List.forall_mem_cons.mpr ⟨⟨104, by kernel_rfl, ⟨by kernel_rfl, by kernel_rfl, by kernel_rfl, by kernel_rfl, by kernel_rfl, by kernel_rfl, by kernel_rfl, by kernel_rfl⟩, by kernel_rfl, by kernel_rfl, by kernel_rfl⟩, (List.forall_mem_cons.mpr ⟨⟨116, by kernel_rfl, ⟨by kernel_rfl, by kernel_rfl, by kernel_rfl, by kernel_rfl, by kernel_rfl, by kernel_rfl, by kernel_rfl, by kernel_rfl⟩, by kernel_rfl, by kernel_rfl, by kernel_rfl⟩, (fun _ h => nomatch h)⟩)⟩)⟩)⟩)⟩)⟩)⟩)⟩)
noncomputable def xiB (K : Frag) : Bool := clT.all fun x => clT.all fun y => (!isxL x.1 || kitOne K (.ref x.2) (.ref y.2) == some ((upL x.1).contains y.1)) && (!(upL x.1).contains y.1 || exmOne K (.ref x.2) (.ref y.2) == some true)
theorem xi_ok : xiB (Hd.kf P) = true := by kernel_rfl
theorem xi_at {c d : Str} {C D : Addr} (hc : clT.lookup c = some C) (hd : clT.lookup d = some D) : (isxL c = true → kitOne (Hd.kf P) (.ref C) (.ref D) = some ((upL c).contains d)) ∧ ((upL c).contains d = true → exmOne (Hd.kf P) (.ref C) (.ref D) = some true) := by
  have h := List.all_eq_true.mp (List.all_eq_true.mp (xi_ok P) _ (mem_lk hc)) _ (mem_lk hd)
  dsimp only at h
  obtain ⟨h1, h2⟩ := Bool.and_eq_true_iff.mp h
  refine ⟨fun q => ?_, fun q => ?_⟩
  · rw [q] at h1; exact beq_iff_eq.mp h1
  · rw [q] at h2; exact beq_iff_eq.mp h2
theorem net_only {c : Str} {C : Addr} (h : clT.lookup c = some C) (hx : isxL c = false) : c = "Net" ∧ C = 182 := by
  have key : ∀ x ∈ clT, isxL x.1 = false → x = (("Net" : Str), 182) := (List.forall_mem_cons.mpr ⟨(fun h => absurd h (by decide +kernel)), (List.forall_mem_cons.mpr ⟨(fun h => absurd h (by decide +kernel)), (List.forall_mem_cons.mpr ⟨(fun h => absurd h (by decide +kernel)), (List.forall_mem_cons.mpr ⟨(fun h => absurd h (by decide +kernel)), (List.forall_mem_cons.mpr ⟨(fun h => absurd h (by decide +kernel)), (List.forall_mem_cons.mpr ⟨(fun h => absurd h (by decide +kernel)), (List.forall_mem_cons.mpr ⟨(fun h => absurd h (by decide +kernel)), (List.forall_mem_cons.mpr ⟨(fun h => absurd h (by decide +kernel)), (List.forall_mem_cons.mpr ⟨(fun _ => rfl), (fun _ h => nomatch h)⟩)⟩)⟩)⟩)⟩)⟩)⟩)⟩)⟩)
  have := key _ (mem_lk h) hx
  cases this; exact ⟨rfl, rfl⟩
theorem mt_only {c n : Str} {f : Addr} (h : mtT.lookup (c, n) = some f) : c = "Net" ∧ n = "__init__" ∧ f = 151 := by
  have := List.mem_singleton.mp (mem_lk h)
  cases this; exact ⟨rfl, rfl, rfl⟩
theorem cls_ok {w : World} (KX : (Hd.kf w.params).In B) : ClsOk pwL w (tabL sa l) B (Hd.kf w.params) "Net" 182 where
  X := KX
  makes := by kernel_rfl
  init := ⟨151, by kernel_rfl⟩
  ga := by kernel_rfl
  gx := by kernel_rfl
  sa := by kernel_rfl
  over := by kernel_rfl
  own := by kernel_rfl
  att := fun n h => by
    unfold okAtt at h
    rcases Bool.or_eq_true_iff.mp h with h | h <;> (rw [beq_iff_eq] at h; subst h)
    · show findIn (Hd.kf w.params) (.ref 182) "many" = some none
      kernel_rfl
    · show findIn (Hd.kf w.params) (.ref 182) "rows" = some none
      kernel_rfl
  meth := fun n f h => by
    obtain ⟨_, rfl, rfl⟩ := mt_only h
    obtain ⟨o, fd, e1, e2, _⟩ := ((mt_all w.params _ (.head _)).at KX).fd
    exact ⟨by kernel_rfl, by kernel_rfl, by kernel_rfl, o, fd, e1, e2⟩
  kept := keeps_K (M := model pwL w) (by kernel_rfl) B KX
theorem exc_mem {c : Str} (h : isxL c = true) : c ∈ excN := List.contains_iff_mem.mp h
theorem sup_c {w : World} {loose : List Str} {mean : ExcName → Option Value} {mg mb : Str → Option Value} {q : Program} (T : Top q loose mean mg mb B) (hs : importsNone q = true) (KX : (Hd.kf w.params).In B) : SupC pwL w (tabL sa l) B glL where
  fns := fun n a h => (fn_all w.params (n, a) (mem_lk h)).at KX
  gl := ⟨mg, mb, T.g, T.b, fun x v h => by
    rcases gl_all (sa := sa) (l := l) (B := B) w.params (x, v) (mem_lk h) with ⟨val, h1, h2⟩ | ⟨h1, val, h2, h3, h4⟩
    · exact .inl ⟨val, ns_some_of KX T.g h1, h2⟩
    · exact .inr ⟨ns_none_of KX T.g h1, val, (T.builtins _ h3).trans h2, h4⟩⟩
  sys := by obtain ⟨mm, ⟨o, _, _, e, _⟩, _⟩ := (T.seer hs).mods; exact ⟨o, e⟩
  lim := T.nolimit
  cls := ⟨Hd.kf w.params, fun c C h hx => by
    obtain ⟨rfl, rfl⟩ := net_only h hx
    exact cls_ok KX⟩
  mcls := fun c n f h => by
    obtain ⟨rfl, _, _⟩ := mt_only h
    exact ⟨182, by kernel_rfl, by kernel_rfl⟩
  xis := fun c C hc hx A E s e Q hB he => by
    obtain ⟨D, h1, h2, h3, h4, h5⟩ := xc_all w.params c (exc_mem hx)
    have hc' : clT.lookup c = some C := hc
    rw [h1] at hc'; cases hc'
    have X : (Hd.kf w.params).In s.heap := fun a o q => hB a o (KX a o q)
    exact ⟨fun d D' hd k => x_isi X he h2 ((xi_at w.params hc hd).1 hx) k, fun k => x_isi X he h2 h5 k⟩
  exn := fun c hx => by
    obtain ⟨D, h1, h2, h3, h4, h5⟩ := xc_all w.params c (exc_mem hx)
    exact ⟨D, h1, c, mg, _, _, _, _, own_of_in KX (topRead_of T) h3 h4, PySem.F.excBase_ValueError⟩
  xm := fun c d K D hc hd hu h e o hB he ho => exm_one (fun a o q => hB a o (KX a o q)) (ho ▸ (Looks.ld he).andThen .now) ((xi_at w.params hc hd).2 hu)
theorem sup_m {w : World} (KX : (Hd.kf w.params).In B) : SupM pwL (tabL sa l) B :=
  ⟨fun c n f h => (mt_all w.params ((c, n), f) (mem_lk h)).at KX⟩
theorem look_has {α : Type} (n : Str) : ∀ t : List (Str × α), (t.lookup n).isSome = (t.map (·.1)).contains n := by
  intro t
  induction t with
  | nil => rfl
  | cons x r ih =>
    obtain ⟨y, v⟩ := x
    rw [List.lookup_cons, List.map_cons, List.contains_cons]
    cases n == y with
    | true => rfl
    | false => exact ih
theorem sup_w {w : World} (U : SupC pwL w (tabL sa l) B glL) (V : SupM pwL (tabL sa l) B) : W02 (langA pwL w (tabL sa l) B) where
  U := U.runs V
  has := by
    funext f
    cases f with
    | top n => exact (look_has n fnT).trans (by rw [show fnT.map (·.1) = fnN from by kernel_rfl]; rfl)
    | meth c n =>
      show (mtT.lookup (c, n)).isSome = (c == "Net" && n == "__init__")
      unfold mtT
      rw [List.lookup_cons]
      show Option.isSome (match (c == "Net" && n == "__init__") with | true => some 151 | false => List.lookup (c, n) []) = _
      cases (c == "Net" && n == "__init__") <;> rfl
  isx := rfl
  up := rfl
end
end Mine

set_option linter.unusedVariables false
set_option maxRecDepth 100000
set_option maxHeartbeats 8000000
set_option Elab.async false
namespace Mine
open PySem PySem.W PyProof.Rows

theorem law_post (L : OpenLaw) (args : List WData) : L.row.toRowW.claim.post args (.bool true) args = true := by
  with_unfolding_all rfl
theorem head_law (L : OpenLaw) {w : World} {s₁ : Shared} {cl : Str → Option Addr} {mean : ExcName → Option Value} {args : List WData} {F : Tab} {d : Nat} {f : Fn} {fa sa : Addr} {l : List Int}
    (hcall : LTop L.prog w F s₁.heap d f [.scr l] (fun _ => none) (fun v _ => v = .bool true)) (hd : d ≤ 300) (hF : F.addr f = some fa) (hs : F.scr = some (sa, l))
    (hL : ∃ items, s₁.heap.IsList sa items ∧ IntsAre items.toList l ∧ l.length ≤ cap) (hg : s₁.gens = #[]) :
    wpAny (model L.prog w) callerA (call (.ref fa) [.ref sa]) (fun v s' => GoodWG L.row.toRowW.claim cl mean args s₁ (.ok (.ret v)) s') (fun e s' => GoodWG L.row.toRowW.claim cl mean args s₁ (.error e) s') s₁ := by
  have hI : Inv L.prog w F s₁.heap (fun _ => none) s₁.heap := ⟨fun _ _ e => e, fun _ _ e => (by cases e), fun a l' e => by rw [hs] at e; cases e; exact hL⟩
  refine wpAny_mono (RetP.run (hcall callerA s₁ [.ref sa] fa ?_ rfl rfl hF hI (.cons (.scr hs) .nil))) (fun v s' ⟨a, σ', hv, J, g, e⟩ => ?_) fun e s' q => q.elim
  · refine ⟨?_, ?_⟩
    · show 301 + 2 * d < recursionLimit
      have : recursionLimit = 1000 := by decide
      lia
    · show 4 + 4 * d + 71 < cLine
      have : cLine = 9900 := by decide
      lia
  · subst e
    cases hv
    obtain ⟨h', tk, rfl⟩ := g.same
    refine GoodW.toG ⟨.inl ⟨_, .bool true, [], rfl, fun _ => rfl, .bool true, law_post L args, fun _ => ⟨.nil, fun _ h => by simp at h⟩⟩, J.keep, rfl, hg⟩
end Mine

open PySem PySem.W PyProof.Rows
theorem PySem.Challenge.cw_uf050028_02_holds : PySem.Challenge.rw_uf050028_02.Holds :=
  Mine.Hd.hd (by
  intro w s₀ s₁ mg mb G Y fa o pm cd doc dV kV ho hdat hcd hD hmg hg args vals as hpre hlay hrd hwl hlo
  refine Ground.open G ?_
  intro T B D TE TW
  wrow_args hpre hlay hrd hwl hlo
  rename_i l hs hlay0 hL1 hr1 hl2 x4 x3 sa vs x0 hL ra ww r0 hI hr hc1 hc2
  have KX : (Mine.Hd.kf w.params).In s₁.heap := kIn_of Y
  have U := Mine.sup_c (sa := sa) (l := l) T (by kernel_rfl) KX
  have V := Mine.sup_m (sa := sa) (l := l) KX
  have hfa : fa = 291 := by
    have h1 : mg "law" = some (.ref 291) := Mine.ns_some_of KX T.g (by kernel_rfl)
    have h2 : mg "law" = some (.ref fa) := hmg
    rw [h1] at h2; cases h2; rfl
  subst hfa
  refine Mine.head_law PySem.Challenge.rw_uf050028_02 (F := Mine.tabL sa l) (d := 6) (f := .top "law") (Mine.s_law (Mine.sup_w U V) (Nat.le_refl _) fun _ => rfl) (by decide) (by kernel_rfl) rfl ⟨vs.toArray, hL, hI, ?_⟩ hg
  have : Mine.cap = 1000000 := rfl
  omega)
