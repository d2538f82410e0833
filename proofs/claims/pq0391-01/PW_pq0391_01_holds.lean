import PyProof.Rows.All
import Wide.All
import OpenK.KCell
import KE.BitLaws
import Wide.FinOn
import Lean
import PySem.Challenge.RW_pq0391_01
set_option Elab.async false
set_option linter.all false
set_option maxRecDepth 100000
namespace Mine
open PySem PySem.W PyProof.Rows

/-- abstract values -/
inductive AV where
  | none
  | bool (b : Bool)
  | int (i : Int)
  | tup (l : List AV)
  | lst (i : Nat)
  | scr (l : List Int)
  | curve (p b : Int) (g : AV) (n : Int)

abbrev St := List (List AV)
abbrev Loc := List (Nat × AV)

mutual
inductive PE where
  | none
  | bool (b : Bool)
  | int (i : Int)
  | var (x : Nat)
  | glob (x : Nat)
  | bin (op : Operator) (l r : PE)
  | neg (x : PE)
  | not (x : PE)
  | and (xs : PEs)
  | or (xs : PEs)
  | ite (t b o : PE)
  | tup (es : PEs)
  | list (es : PEs)
  | cmp (l : PE) (ops : List CmpOp) (rs : PEs)
  | sub (v i : PE)
  | cut (v : PE) (k : Nat)
  | attr (v : PE) (a : Nat)
  | call (f : Nat) (args : PEs)
  | meth (f : Nat) (o : PE) (args : PEs)
  | comp1 (caps : List Nat) (x : Nat) (it : PI) (c : PEs) (elt : PE)
  | comp2 (caps : List Nat) (x : Nat) (it : PI) (y : Nat) (it2 : PE) (elt : PE)
inductive PEs where
  | nil
  | cons (e : PE) (r : PEs)
inductive PI where
  | rng1 (b : PE)
  | rng2 (a b : PE)
  | seq (e : PE)
end

inductive PT where
  | name (x : Nat)
  | names (l : List Nat)
  | nest (l : List (List Nat))

mutual
inductive PS where
  | assign (x : Nat) (e : PE)
  | assignC (x : Nat) (e : PE)
  | assignT (swapped : Bool) (t : PT) (e : PE)
  | setItem (o i v : PE)
  | append (o v : PE)
  | ite (c : PE) (a b : PSs)
  | whl (c : PE) (b : PSs)
  | forr (x : Nat) (it : PI) (b : PSs)
  | ret (e : PE)
inductive PSs where
  | nil
  | cons (s : PS) (r : PSs)
end

noncomputable def look : Loc → Nat → Option AV
  | [], _ => Option.none
  | (y, d) :: r, x => bif y == x then some d else look r x
noncomputable def upd : Loc → Nat → AV → Loc
  | [], x, d => [(x, d)]
  | (y, e) :: r, x, d => bif y == x then (x, d) :: r else (y, e) :: upd r x d
theorem look_cons {y x : Nat} {d : AV} {r : Loc} : look ((y, d) :: r) x = if y = x then some d else look r x := by
  by_cases h : y = x
  · rw [if_pos h]; show (bif y == x then some d else look r x) = _; rw [beq_iff_eq.mpr h]; rfl
  · rw [if_neg h]; show (bif y == x then some d else look r x) = _; rw [beq_eq_false_iff_ne.mpr h]; rfl
theorem upd_cons {y x : Nat} {e d : AV} {r : Loc} : upd ((y, e) :: r) x d = if y = x then (x, d) :: r else (y, e) :: upd r x d := by
  by_cases h : y = x
  · rw [if_pos h]; show (bif y == x then (x, d) :: r else (y, e) :: upd r x d) = _; rw [beq_iff_eq.mpr h]; rfl
  · rw [if_neg h]; show (bif y == x then (x, d) :: r else (y, e) :: upd r x d) = _; rw [beq_eq_false_iff_ne.mpr h]; rfl
theorem look_upd {d : AV} {x : Nat} : ∀ (l : Loc) (y : Nat), look (upd l x d) y = if x = y then some d else look l y
  | [], y => look_cons
  | (z, e) :: r, y => by
    rw [upd_cons]
    by_cases h : z = x
    · subst h
      rw [if_pos rfl, look_cons, look_cons]
      by_cases h2 : z = y
      · rw [if_pos h2, if_pos h2]
      · rw [if_neg h2, if_neg h2, if_neg h2]
    · rw [if_neg h, look_cons, look_cons, look_upd r y]
      by_cases h2 : z = y
      · rw [if_pos h2, if_pos h2, if_neg (fun q => h (h2.trans q.symm))]
      · rw [if_neg h2, if_neg h2]
noncomputable def capture (loc : Loc) : List Nat → Option Loc
  | [] => some []
  | c :: r => match look loc c, capture loc r with
    | some d, some l => some ((c, d) :: l)
    | _, _ => Option.none

noncomputable def intsO : List AV → Option (List Int)
  | [] => some []
  | .int i :: r => match intsO r with
    | some l => some (i :: l)
    | Option.none => Option.none
  | _ :: _ => Option.none
/-- an int small enough for a product -/
noncomputable def Small (a : Int) : Prop := a.natAbs < 2 ^ 100000

noncomputable def binI (op : Operator) (i j : Int) (P : Int → Prop) : Prop := match op with
  | .Add => P (i + j)
  | .Sub => P (i - j)
  | .Mult => Small i ∧ Small j ∧ P (i * j)
  | .Mod => 0 < j ∧ P (i % j)
  | .FloorDiv => 0 < j ∧ j < 1000000 ∧ P (i / j)
  | .Pow => 0 ≤ j ∧ j ≤ 1000000 ∧ i.natAbs < 2 ^ 64 ∧ P (i ^ j.toNat)
  | .LShift => 0 ≤ j ∧ j ≤ 1000000 ∧ i.natAbs < 2 ^ 64 ∧ P (i * 2 ^ j.toNat)
  | .RShift => 0 ≤ j ∧ P (i / 2 ^ j.toNat)
  | .BitAnd => P (Builtin.bitAnd i j)
  | _ => False
noncomputable def binW (op : Operator) (a b : AV) (st : St) (Q : AV → St → Prop) : Prop := match a with
  | .int i => match b with
    | .int j => binI op i j fun r => Q (.int r) st
    | _ => False
  | .lst i => match b with
    | .lst j => op = .Add ∧ match st[i]? with
      | some l => match st[j]? with
        | some m => l.length + m.length ≤ 1000 ∧ Q (.lst st.length) (st ++ [l ++ m])
        | Option.none => False
      | Option.none => False
    | _ => False
  | _ => False

noncomputable def flatPD : AV → Option PyData
  | .none => some .none
  | .bool b => some (.bool b)
  | .int i => some (.int i)
  | .tup l => match intsO l with
    | some m => some (.tuple (m.map .int))
    | Option.none => Option.none
  | _ => Option.none
noncomputable def flatsPD : List AV → Option (List PyData)
  | [] => some []
  | d :: r => match flatPD d, flatsPD r with
    | some x, some l => some (x :: l)
    | _, _ => Option.none
noncomputable def dataO (st : St) (d : AV) : Option PyData := match d with
  | .lst i => match st[i]? with
    | some l => (flatsPD l).map .list
    | Option.none => Option.none
  | d => flatPD d
noncomputable def eqO0 (st : St) (a b : AV) : Option Bool := match dataO st a, dataO st b with
  | some x, some y => some (PyData.eqv x y)
  | _, _ => Option.none
noncomputable def asInt : AV → Option Int
  | .int i => some i
  | _ => Option.none
noncomputable def eqO (st : St) (a b : AV) : Option Bool := match asInt a with
  | some i => match asInt b with
    | some j => some (decide (i = j))
    | Option.none => eqO0 st a b
  | Option.none => eqO0 st a b
theorem eqv_int (i j : Int) : PyData.eqv (.int i) (.int j) = decide (i = j) := by
  rw [PyData.eqv]; exact (Bool.beq_eq_decide_eq i j)
theorem eqO_eq (st : St) (a b : AV) : eqO st a b = eqO0 st a b := by
  cases a with
  | int i => cases b with
    | int j => exact (congrArg some (eqv_int i j)).symm
    | _ => rfl
  | _ => rfl
noncomputable def inO (st : St) (a b : AV) : Option Bool := match flatPD a, dataO st b with
  | some x, some (.tuple l) => some (l.any fun y => PyData.eqv y x)
  | some x, some (.list l) => some (l.any fun y => PyData.eqv y x)
  | _, _ => Option.none
noncomputable def isO : AV → AV → Option Bool
  | .none, .none => some true
  | .tup _, .none => some false
  | _, _ => Option.none
noncomputable def i2O (f : Int → Int → Bool) (a b : AV) : Option Bool := match asInt a with
  | some i => match asInt b with
    | some j => some (f i j)
    | Option.none => Option.none
  | Option.none => Option.none
noncomputable def cmpO (op : CmpOp) (st : St) (a b : AV) : Option Bool :=
  match op with
  | .Eq => eqO st a b
  | .NotEq => (eqO st a b).map not
  | .In => inO st a b
  | .NotIn => (inO st a b).map not
  | .Is => isO a b
  | .IsNot => (isO a b).map not
  | .Lt => i2O (fun i j => decide (i < j)) a b
  | .LtE => i2O (fun i j => decide (i ≤ j)) a b
  | .Gt => i2O (fun i j => decide (i > j)) a b
  | .GtE => i2O (fun i j => decide (i ≥ j)) a b
theorem asInt_eq {a : AV} {i : Int} (h : asInt a = some i) : a = .int i := by
  cases a with
  | int j => cases h; rfl
  | _ => cases h
theorem i2O_eq {f : Int → Int → Bool} {a b : AV} {c : Bool} (h : i2O f a b = some c) : ∃ i j, a = .int i ∧ b = .int j ∧ f i j = c := by
  cases e : asInt a with
  | none => simp only [i2O, e] at h; cases h
  | some i => cases e' : asInt b with
    | none => simp only [i2O, e, e'] at h; cases h
    | some j => simp only [i2O, e, e'] at h; exact ⟨i, j, asInt_eq e, asInt_eq e', Option.some.inj h⟩
theorem map_not {o : Option Bool} {c : Bool} (h : o.map not = some c) : ∃ b, o = some b ∧ (!b) = c := by
  cases o with
  | none => cases h
  | some b => exact ⟨b, rfl, Option.some.inj h⟩
noncomputable def cmpW (op : CmpOp) (a b : AV) (st : St) (k : Bool → Prop) : Prop :=
  match cmpO op st a b with
  | some c => k c
  | Option.none => False

/-- the place of a Python index in a sequence of n items -/
noncomputable def place (k : Int) (n : Nat) : Option Nat :=
  if k < -1000000 ∨ 1000000 < k then Option.none else
  if 0 ≤ k then (if k < n then some k.toNat else Option.none) else (if 0 ≤ k + n then some (k + n).toNat else Option.none)
noncomputable def subW (a b : AV) (st : St) (Q : AV → St → Prop) : Prop :=
  match a, b with
  | .tup l, .int k => match place k l.length with
    | some j => match l[j]? with
      | some d => Q d st
      | Option.none => False
    | Option.none => False
  | .lst i, .int k => match st[i]? with
    | some l => match place k l.length with
      | some j => match l[j]? with
        | some d => Q d st
        | Option.none => False
      | Option.none => False
    | Option.none => False
  | _, _ => False
noncomputable def attrW (a : Nat) (d : AV) (st : St) (Q : AV → St → Prop) : Prop :=
  match d with
  | .curve p b g n => match a with
    | 0 => Q (.int p) st
    | 1 => Q (.int b) st
    | 2 => Q g st
    | 3 => Q (.int n) st
    | _ => False
  | _ => False

/-- what a for runs over: its items, and the list that it reads (if it reads one) -/
noncomputable def rangeItems (a b : Int) : List AV := (List.range (b - a).toNat).map fun (k : Nat) => AV.int (a + (k : Int))
noncomputable def rngW (a b : AV) (st : St) (Q : List AV → Option Nat → St → Prop) : Prop :=
  match a, b with
  | .int i, .int j => -1000000 ≤ i ∧ i ≤ 1000000 ∧ -1000000 ≤ j ∧ j ≤ 1000000 ∧ Q (rangeItems i j) Option.none st
  | _, _ => False
noncomputable def seqW (a : AV) (st : St) (Q : List AV → Option Nat → St → Prop) : Prop :=
  match a with
  | .lst i => match st[i]? with
    | some l => Q l (some i) st
    | Option.none => False
  | _ => False
noncomputable def stillW (src : Option Nat) (items : List AV) (st : St) : Prop :=
  match src with
  | Option.none => True
  | some i => st[i]? = some items
noncomputable def appendW (a d : AV) (st : St) (Q : St → Prop) : Prop :=
  match a with
  | .lst k => match st[k]? with
    | some l => l.length ≤ 1000 ∧ Q (st.set k (l ++ [d]))
    | Option.none => False
  | _ => False
noncomputable def loopW {σ : Type} (f : AV → σ → (σ → Prop) → Prop) (items : List AV) (s : σ) (K : σ → Prop) : Prop :=
  items.foldr (fun v k s => f v s k) K s
@[simp] theorem loopW_nil {σ : Type} {f : AV → σ → (σ → Prop) → Prop} {s : σ} {K : σ → Prop} : loopW f [] s K = K s := rfl
@[simp] theorem loopW_cons {σ : Type} {f : AV → σ → (σ → Prop) → Prop} {v : AV} {r : List AV} {s : σ} {K : σ → Prop} : loopW f (v :: r) s K = f v s (fun s => loopW f r s K) := rfl

noncomputable def tob (Q : Bool → St → Prop) (d : AV) (st : St) : Prop := match d with
  | .bool b => Q b st
  | _ => False
@[simp] theorem tob_bool {Q : Bool → St → Prop} {b : Bool} {st : St} : tob Q (.bool b) st = Q b st := rfl
noncomputable def toi (Q : Int → St → Prop) (d : AV) (st : St) : Prop := match d with
  | .int b => Q b st
  | _ => False
@[simp] theorem toi_int {Q : Int → St → Prop} {b : Int} {st : St} : toi Q (.int b) st = Q b st := rfl
noncomputable def tos (Q : List Int → St → Prop) (d : AV) (st : St) : Prop := match d with
  | .scr b => Q b st
  | _ => False
@[simp] theorem tos_scr {Q : List Int → St → Prop} {b : List Int} {st : St} : tos Q (.scr b) st = Q b st := rfl
noncomputable def isCurve : AV → Prop
  | .curve .. => True
  | _ => False
@[simp] theorem isCurve_curve {p b : Int} {g : AV} {n : Int} : isCurve (.curve p b g n) = True := rfl

abbrev Calls := Nat → List AV → St → (AV → St → Prop) → Prop
structure Prims where
  call : Calls
  glob : Nat → Option AV

variable (T : Prims)
mutual
noncomputable def evalW : PE → Loc → St → (AV → St → Prop) → Prop
  | .none, _, st, Q => Q .none st
  | .bool b, _, st, Q => Q (.bool b) st
  | .int i, _, st, Q => Q (.int i) st
  | .var x, loc, st, Q => match look loc x with
    | some d => Q d st
    | Option.none => False
  | .glob x, _, st, Q => match T.glob x with
    | some d => Q d st
    | Option.none => False
  | .bin op l r, loc, st, Q => evalW l loc st fun a st => evalW r loc st fun b st => binW op a b st Q
  | .neg x, loc, st, Q => evalW x loc st (toi fun i st => Q (.int (-i)) st)
  | .not x, loc, st, Q => evalW x loc st (tob fun b st => Q (.bool (!b)) st)
  | .and xs, loc, st, Q => andW xs loc st Q
  | .or xs, loc, st, Q => orW xs loc st Q
  | .ite t b o, loc, st, Q => evalW t loc st (tob fun c st => if c = true then evalW b loc st Q else evalW o loc st Q)
  | .tup es, loc, st, Q => evalsW es loc st fun ds st => ds.length ≤ 1000 ∧ Q (.tup ds) st
  | .list es, loc, st, Q => evalsW es loc st fun ds st => ds.length ≤ 1000 ∧ Q (.lst st.length) (st ++ [ds])
  | .cmp l ops rs, loc, st, Q => evalW l loc st fun a st => chainW rs a ops loc st Q
  | .sub v i, loc, st, Q => evalW v loc st fun a st => evalW i loc st fun b st => subW a b st Q
  | .cut v k, loc, st, Q => evalW v loc st (tos fun l st => l.length ≤ 1000 ∧ Q (.lst st.length) (st ++ [(l.take k).map .int]))
  | .attr v a, loc, st, Q => evalW v loc st fun d st => attrW a d st Q
  | .call f args, loc, st, Q => evalsW args loc st fun ds st => T.call f ds st Q
  | .meth f o args, loc, st, Q => evalW o loc st fun d st => isCurve d ∧ evalsW args loc st fun ds st => T.call f (d :: ds) st Q
  | .comp1 caps x it c elt, loc, st, Q => itW it loc st fun items src st => match capture loc caps with
    | some loc₀ => loopW (fun v st' K => stillW src items st' ∧ andW' c ((x, v) :: loc₀) st' fun ok st' => if ok = true then evalW elt ((x, v) :: loc₀) st' fun d st' => appendW (.lst st.length) d st' K else K st')
        items (st ++ [[]]) fun st' => stillW src items st' ∧ Q (.lst st.length) st'
    | Option.none => False
  | .comp2 caps x it y it2 elt, loc, st, Q => itW it loc st fun items src st => match capture loc caps with
    | some loc₀ => loopW (fun v st' K => stillW src items st' ∧ evalW it2 ((x, v) :: loc₀) st' fun a st' => seqW a st' fun items2 src2 st' =>
          loopW (fun u st' K => stillW src2 items2 st' ∧ evalW elt ((y, u) :: (x, v) :: loc₀) st' fun d st' => appendW (.lst st.length) d st' K) items2 st' fun st' => stillW src2 items2 st' ∧ K st')
        items (st ++ [[]]) fun st' => stillW src items st' ∧ Q (.lst st.length) st'
    | Option.none => False
noncomputable def evalsW : PEs → Loc → St → (List AV → St → Prop) → Prop
  | .nil, _, st, Q => Q [] st
  | .cons e r, loc, st, Q => evalW e loc st fun d st => evalsW r loc st fun ds st => Q (d :: ds) st
noncomputable def andW : PEs → Loc → St → (AV → St → Prop) → Prop
  | .nil, _, _, _ => False
  | .cons e r, loc, st, Q => match r with
    | .nil => evalW e loc st Q
    | .cons e' r' => evalW e loc st (tob fun c st => if c = true then andW (.cons e' r') loc st Q else Q (.bool false) st)
noncomputable def orW : PEs → Loc → St → (AV → St → Prop) → Prop
  | .nil, _, _, _ => False
  | .cons e r, loc, st, Q => match r with
    | .nil => evalW e loc st Q
    | .cons e' r' => evalW e loc st (tob fun c st => if c = true then Q (.bool true) st else orW (.cons e' r') loc st Q)
noncomputable def andW' : PEs → Loc → St → (Bool → St → Prop) → Prop
  | .nil, _, st, Q => Q true st
  | .cons e r, loc, st, Q => match r with
    | .nil => evalW e loc st (tob Q)
    | .cons _ _ => False
noncomputable def chainW : PEs → AV → List CmpOp → Loc → St → (AV → St → Prop) → Prop
  | .nil, _, _, _, _, _ => False
  | .cons e r, a, ops, loc, st, Q => match r, ops with
    | .nil, [op] => evalW e loc st fun b st => cmpW op a b st fun c => Q (.bool c) st
    | .cons e' r', op :: op' :: ops => evalW e loc st fun b st => cmpW op a b st fun c => if c = true then chainW (.cons e' r') b (op' :: ops) loc st Q else Q (.bool false) st
    | _, _ => False
noncomputable def itW : PI → Loc → St → (List AV → Option Nat → St → Prop) → Prop
  | .rng1 b, loc, st, Q => evalW b loc st fun b st => rngW (.int 0) b st Q
  | .rng2 a b, loc, st, Q => evalW a loc st fun a st => evalW b loc st fun b st => rngW a b st Q
  | .seq e, loc, st, Q => evalW e loc st fun a st => seqW a st Q
end

noncomputable def bindNames : List Nat → List AV → Loc → Option Loc
  | [], [], loc => some loc
  | x :: xs, d :: ds, loc => bindNames xs ds (upd loc x d)
  | _, _, _ => Option.none
noncomputable def bindNest : List (List Nat) → List AV → Loc → Option Loc
  | [], [], loc => some loc
  | xs :: xss, .tup ds :: r, loc => match bindNames xs ds loc with
    | some loc => bindNest xss r loc
    | Option.none => Option.none
  | _, _, _ => Option.none
noncomputable def bindT (swapped : Bool) (t : PT) (d : AV) (loc : Loc) : Option Loc :=
  match t, d with
  | .name x, d => some (upd loc x d)
  | .names xs, .tup ds => if swapped = true then bindNames xs.reverse ds.reverse loc else bindNames xs ds loc
  | .nest xss, .tup ds => bindNest xss ds loc
  | _, _ => Option.none

abbrev Ends := Option AV → Loc → St → Prop
mutual
noncomputable def execW : PS → Loc → St → Ends → Prop
  | .assign x e, loc, st, Q => evalW T e loc st fun d st => Q Option.none (upd loc x d) st
  | .assignC x e, loc, st, Q => evalW T e loc st fun d st => Q Option.none (upd loc x d) st
  | .assignT sw t e, loc, st, Q => evalW T e loc st fun d st => match bindT sw t d loc with
    | some loc => Q Option.none loc st
    | Option.none => False
  | .setItem o i v, loc, st, Q => evalW T v loc st fun d st => evalW T o loc st fun a st => evalW T i loc st fun b st => match a, b with
    | .lst k, .int j => match st[k]? with
      | some l => l.length ≤ 1000 ∧ 0 ≤ j ∧ j < l.length ∧ Q Option.none loc (st.set k (l.set j.toNat d))
      | Option.none => False
    | _, _ => False
  | .append o v, loc, st, Q => evalW T o loc st fun a st => match a with
    | .lst k => evalW T v loc st fun d st => appendW (.lst k) d st fun st => Q Option.none loc st
    | _ => False
  | .ite c a b, loc, st, Q => evalW T c loc st (tob fun c st => if c = true then execsW a loc st Q else execsW b loc st Q)
  | .whl c b, loc, st, Q => ∃ (I : Nat → Loc → St → Prop) (n : Nat), I n loc st ∧ ∀ n loc st, I n loc st → evalW T c loc st (tob fun c st => if c = true then execsW b loc st (fun r loc st => match r with
        | Option.none => ∃ m, m < n ∧ I m loc st
        | some d => Q (some d) loc st)
      else Q Option.none loc st)
  | .forr x it b, loc, st, Q => itW T it loc st fun items src st =>
      ∃ I : Nat → Loc → St → Prop, I 0 loc st ∧ (∀ i v loc st, I i loc st → items[i]? = some v → stillW src items st ∧ execsW b (upd loc x v) st fun r loc st => match r with
        | Option.none => I (i + 1) loc st
        | some d => Q (some d) loc st) ∧ ∀ loc st, I items.length loc st → stillW src items st ∧ Q Option.none loc st
  | .ret e, loc, st, Q => evalW T e loc st fun d st => Q (some d) loc st
noncomputable def execsW : PSs → Loc → St → Ends → Prop
  | .nil, loc, st, Q => Q Option.none loc st
  | .cons s r, loc, st, Q => execW s loc st fun f loc st => match f with
    | Option.none => execsW r loc st Q
    | some d => Q (some d) loc st
end

end Mine
set_option maxRecDepth 100000
namespace Mine
open PySem PySem.W PyProof.Rows PySem.Calls

noncomputable def varNames : List String := ["at", "b", "back", "cell", "cells", "cube", "curve", "due", "far", "figure", "first", "found", "g", "here", "high", "inverses", "is_there", "k", "left", "low", "middle", "n", "number", "one", "other", "p", "parity", "places", "point", "points", "prime", "r", "right", "rise", "roots", "s", "script", "secret", "self", "size", "slope", "some", "square", "step", "table", "three", "total", "turn", "u", "v", "w", "way", "well", "word", "x", "y", "z"]
noncomputable def fnNames : List String := ["Curve", "is_on", "doubled", "added", "times", "lifted", "wide_doubled", "wide_added", "narrowed", "signature", "recovered", "secp256k1", "small_curve", "_law_draw", "_law_number", "_law_word", "_law_inverses", "_law_listed", "_law_sum", "_law_multiples", "_law_sums_right", "_law_places_right", "_law_signed_right", "_law_wild_right", "_law_even_right", "_law_great_right", "law", "pow", "len"]
noncomputable def fldNames : List String := ["p", "b", "g", "n"]
noncomputable def globNames : List String := ["_law_curves"]
noncomputable def b_is_on : PSs := (.cons (.ite (.cmp (.var 28) [.Is] (.cons .none .nil)) (.cons (.ret (.bool true)) .nil) .nil) (.cons (.assignT false (.names [54, 55]) (.var 28)) (.cons (.ret (.and (.cons (.cmp (.int 0) [.LtE, .Lt] (.cons (.var 54) (.cons (.attr (.var 38) 0) .nil))) (.cons (.cmp (.int 0) [.LtE, .Lt] (.cons (.var 55) (.cons (.attr (.var 38) 0) .nil))) (.cons (.cmp (.bin .Mod (.bin .Sub (.bin .Sub (.bin .Mult (.var 55) (.var 55)) (.bin .Mult (.bin .Mult (.var 54) (.var 54)) (.var 54))) (.attr (.var 38) 1)) (.attr (.var 38) 0)) [.Eq] (.cons (.int 0) .nil)) .nil))))) .nil)))
noncomputable def nv : Nat := 57
noncomputable def nm (x : Nat) : Str := Str.ofString (varNames.getD x "?")
noncomputable def fnm (f : Nat) : Str := Str.ofString (fnNames.getD f "?")
noncomputable def fldm (f : Nat) : Str := Str.ofString (fldNames.getD f "?")
noncomputable def glm (f : Nat) : Str := Str.ofString (globNames.getD f "?")
noncomputable def rangeName : Str := Str.ofString "range"
theorem nm_inj_b : ((List.range 57).all fun x => (List.range 57).all fun y => nm x != nm y || x == y) = true := by decide +kernel
theorem nm_inj {x y : Nat} (hx : x < nv) (hy : y < nv) (h : nm x = nm y) : x = y := by
  have h1 := List.all_eq_true.mp nm_inj_b x (List.mem_range.mpr hx)
  have h2 := List.all_eq_true.mp h1 y (List.mem_range.mpr hy)
  simpa [h] using h2
theorem nm_plain_b : ((List.range 57).all fun x => !(nm x == ("__debug__" : Str)) && !(nm x == ("__classdict__" : Str))) = true := by decide +kernel
theorem nm_plain {x : Nat} (hx : x < nv) : (nm x == ("__debug__" : Str)) = false ∧ (nm x == ("__classdict__" : Str)) = false := by
  have h1 := List.all_eq_true.mp nm_plain_b x (List.mem_range.mpr hx)
  simpa using h1
noncomputable def plainName (n : Str) : Bool := !(n == ("__debug__" : Str))

noncomputable def isComp : Expr → Bool
  | .ListComp .. | .SetComp .. | .DictComp .. => true
  | _ => false
noncomputable def isSet : Expr → Bool
  | .Set .. => true
  | _ => false
noncomputable def isName : Expr → Bool
  | .Name .. => true
  | _ => false
noncomputable def isStar : Expr → Bool
  | .Starred .. => true
  | _ => false
noncomputable def isTree : Expr → Bool
  | .Tuple .. | .List .. => true
  | _ => false

noncomputable def scLocal (sc : Scope) (x : Nat) : Bool := decide (x < nv) && sc.names.lookup (nm x) == some .local
noncomputable def scStore (sc : Scope) (x : Nat) : Bool := decide (x < nv) && (sc.names.lookup (nm x) == some .local || sc.names.lookup (nm x) == some .cell)
/-- a comprehension's scope: plain, its captured names cells of the frame's -/
noncomputable def compSc (sc sc' : Scope) (caps : List Nat) : Bool :=
  sc'.kind == .function && sc'.names.all (fun x => (x.2 == .local && sc'.names.lookup x.1 == some .local) || (x.2 == .free && sc.names.lookup x.1 == some .cell)) &&
  decide (sc'.names.map (·.1)).Nodup && caps.all (fun c => decide (c < nv) && sc'.names.lookup (nm c) == some .free)

noncomputable def isGl (f : Nat) : Bool := f == 0 || (decide (6 ≤ f) && decide (f ≤ 26))
noncomputable def isMe (f : Nat) : Bool := decide (1 ≤ f) && decide (f ≤ 5)
noncomputable def isBl (f : Nat) : Bool := f == 27 || f == 28
/-! one look at an expression each -/
noncomputable def dConst : (e : Expr) → Option {c : Const // ∃ k p, e = .Constant c k p}
  | .Constant c k p => some ⟨c, k, p, rfl⟩
  | _ => Option.none
noncomputable def dBoolC : Const → Option Bool
  | .bool b => some b
  | _ => Option.none
noncomputable def dIntC : Const → Option Int
  | .int b => some b
  | _ => Option.none
noncomputable def dNoneC : Const → Bool
  | .none => true
  | _ => false
noncomputable def dName : (e : Expr) → Option {n : Str // ∃ p, e = .Name n p}
  | .Name n p => some ⟨n, p, rfl⟩
  | _ => Option.none
noncomputable def dBin : (e : Expr) → Option {q : Expr × Operator × Expr // ∃ p, e = .BinOp q.1 q.2.1 q.2.2 p}
  | .BinOp l o r p => some ⟨(l, o, r), p, rfl⟩
  | _ => Option.none
noncomputable def dUn : (e : Expr) → Option {q : UnaryOp × Expr // ∃ p, e = .UnaryOp q.1 q.2 p}
  | .UnaryOp o x p => some ⟨(o, x), p, rfl⟩
  | _ => Option.none
noncomputable def dBoolOp : (e : Expr) → Option {q : BoolOp × List Expr // ∃ p, e = .BoolOp q.1 q.2 p}
  | .BoolOp o x p => some ⟨(o, x), p, rfl⟩
  | _ => Option.none
noncomputable def dIf : (e : Expr) → Option {q : Expr × Expr × Expr // ∃ p, e = .IfExp q.1 q.2.1 q.2.2 p}
  | .IfExp t b o p => some ⟨(t, b, o), p, rfl⟩
  | _ => Option.none
noncomputable def dTup : (e : Expr) → Option {es : List Expr // ∃ k p, e = .Tuple es k p}
  | .Tuple es k p => some ⟨es, k, p, rfl⟩
  | _ => Option.none
noncomputable def dList : (e : Expr) → Option {es : List Expr // ∃ p, e = .List es p}
  | .List es p => some ⟨es, p, rfl⟩
  | _ => Option.none
noncomputable def dCmp : (e : Expr) → Option {q : Expr × List CmpOp × List Expr // ∃ p, e = .Compare q.1 q.2.1 q.2.2 p}
  | .Compare l o r p => some ⟨(l, o, r), p, rfl⟩
  | _ => Option.none
noncomputable def dSub : (e : Expr) → Option {q : Expr × Expr // ∃ p, e = .Subscript q.1 q.2 p}
  | .Subscript v i p => some ⟨(v, i), p, rfl⟩
  | _ => Option.none
noncomputable def dSlice : (e : Expr) → Option {q : Option Expr × Option Expr × Option Expr // ∃ p, e = .Slice q.1 q.2.1 q.2.2 p}
  | .Slice a b c p => some ⟨(a, b, c), p, rfl⟩
  | _ => Option.none
noncomputable def dAttr : (e : Expr) → Option {q : Expr × Str × Pos // e = .Attribute q.1 q.2.1 q.2.2}
  | .Attribute v n p => some ⟨(v, n, p), rfl⟩
  | _ => Option.none
noncomputable def dCall : (e : Expr) → Option {q : Expr × List Expr × List Keyword × Pos // e = .Call q.1 q.2.1 q.2.2.1 q.2.2.2}
  | .Call f a k p => some ⟨(f, a, k, p), rfl⟩
  | _ => Option.none
noncomputable def dComp : (e : Expr) → Option {q : Expr × List Comprehension × Scope // ∃ p, e = .ListComp q.1 q.2.1 q.2.2 p}
  | .ListComp e g s p => some ⟨(e, g, s), p, rfl⟩
  | _ => Option.none
noncomputable def d1 {α : Type} : List α → Option α
  | [a] => some a
  | _ => Option.none
noncomputable def d2 {α : Type} : List α → Option (α × α)
  | [a, b] => some (a, b)
  | _ => Option.none
noncomputable def isSlice : Expr → Bool
  | .Slice .. => true
  | _ => false
/-- one plain turn of a comprehension over the name x -/
noncomputable def gen1 (x : Nat) (g : Comprehension) : Bool := ((dName g.target).any fun n => n.1 == nm x) && g.is_async == 0
mutual
noncomputable def chkE (sc : Scope) : PE → Expr → Bool
  | .none, e => (dConst e).any fun c => dNoneC c.1
  | .bool b, e => (dConst e).any fun c => decide (dBoolC c.1 = some b)
  | .int i, e => (dConst e).any fun c => decide (dIntC c.1 = some i)
  | .var x, e => decide (x < nv) && (dName e).any fun n => n.1 == nm x
  | .glob x, e => ((dName e).any fun n => n.1 == glm x) && sc.names.lookup (glm x) == some .globalImplicit
  | .bin op l r, e => (dBin e).any fun q => op == q.1.2.1 && chkE sc l q.1.1 && chkE sc r q.1.2.2
  | .neg x, e => (dUn e).any fun q => q.1.1 == .USub && chkE sc x q.1.2
  | .not x, e => (dUn e).any fun q => q.1.1 == .Not && chkE sc x q.1.2
  | .and xs, e => (dBoolOp e).any fun q => q.1.1 == .And && chkEs sc xs q.1.2
  | .or xs, e => (dBoolOp e).any fun q => q.1.1 == .Or && chkEs sc xs q.1.2
  | .ite t b o, e => (dIf e).any fun q => chkE sc t q.1.1 && chkE sc b q.1.2.1 && chkE sc o q.1.2.2
  | .tup es, e => (dTup e).any fun q => chkEs sc es q.1
  | .list es, e => (dList e).any fun q => chkEs sc es q.1
  | .cmp l ops rs, e => (dCmp e).any fun q => ops == q.1.2.1 && chkE sc l q.1.1 && chkEs sc rs q.1.2.2 && !lastMarks ops q.1.2.2
  | .sub v i, e => (dSub e).any fun q => chkE sc v q.1.1 && chkE sc i q.1.2 && !isSlice q.1.2
  | .cut v k, e => (dSub e).any fun q => chkE sc v q.1.1 && (dName q.1.1).isSome && (dSlice q.1.2).any fun u => u.1.1.isNone && u.1.2.2.isNone && u.1.2.1.any fun c => (dConst c).any fun c => decide (dIntC c.1 = some (k : Int))
  | .attr v a, e => (dAttr e).any fun q => q.1.2.1 == fldm a && decide (a < 4) && chkE sc v q.1.1 && (dName q.1.1).isSome
  | .call f args, e => (dCall e).any fun q => ((dName q.1.1).any fun n => n.1 == fnm f) && (isGl f || isBl f) && sc.names.lookup (fnm f) == some .globalImplicit && q.1.2.2.1.isEmpty && chkEs sc args q.1.2.1
  | .meth f o args, e => (dCall e).any fun q => (dAttr q.1.1).any fun u => u.1.2.1 == fnm f && isMe f && chkE sc o u.1.1 && (dName u.1.1).isSome && q.1.2.2.1.isEmpty && chkEs sc args q.1.2.1 && u.1.2.2.endLine == q.1.2.2.2.line && decide (q.1.2.1.length < 20)
  | .comp1 caps x it c elt, e => (dComp e).any fun q => (d1 q.1.2.1).any fun g => gen1 x g && compSc sc q.1.2.2 caps && scLocal q.1.2.2 x && chkI sc it g.iter && chkEs q.1.2.2 c g.ifs && chkE q.1.2.2 elt q.1.1
  | .comp2 caps x it y it2 elt, e => (dComp e).any fun q => (d2 q.1.2.1).any fun g => gen1 x g.1 && gen1 y g.2 && g.1.ifs.isEmpty && g.2.ifs.isEmpty && x != y && compSc sc q.1.2.2 caps && scLocal q.1.2.2 x && scLocal q.1.2.2 y && chkI sc it g.1.iter && chkE q.1.2.2 it2 g.2.iter && !isSet g.2.iter && chkE q.1.2.2 elt q.1.1
noncomputable def chkEs (sc : Scope) : PEs → List Expr → Bool
  | .nil, l => l.isEmpty
  | .cons e r, l => match l with
    | e' :: r' => chkE sc e e' && !isStar e' && chkEs sc r r'
    | [] => false
noncomputable def chkI (sc : Scope) : PI → Expr → Bool
  | .rng1 b, e => (dCall e).any fun q => ((dName q.1.1).any fun n => n.1 == rangeName) && q.1.2.2.1.isEmpty && sc.names.lookup rangeName == some .globalImplicit && (d1 q.1.2.1).any fun b' => chkE sc b b' && !isStar b'
  | .rng2 a b, e => (dCall e).any fun q => ((dName q.1.1).any fun n => n.1 == rangeName) && q.1.2.2.1.isEmpty && sc.names.lookup rangeName == some .globalImplicit && (d2 q.1.2.1).any fun g => chkE sc a g.1 && chkE sc b g.2 && !isStar g.1 && !isStar g.2
  | .seq e, e' => chkE sc e e' && !isSet e'
end

noncomputable def namesOf : List Expr → Option (List Str)
  | [] => some []
  | .Name n _ :: r => (namesOf r).map (n :: ·)
  | _ :: _ => Option.none
noncomputable def chkNames (sc : Scope) (xs : List Nat) (es : List Expr) : Bool := xs.all (scStore sc) && namesOf es == some (xs.map nm)
noncomputable def chkNest (sc : Scope) : List (List Nat) → List Expr → Bool
  | [], [] => true
  | xs :: r, .Tuple es _ _ :: r' => chkNames sc xs es && chkNest sc r r'
  | _, _ => false
/-- the two-and-three-names store that goes from behind: as swappedStores has it (its value is no constant) -/
noncomputable def swapNames (sc : Scope) (es : List Expr) (value : Expr) : Bool := match value with
  | .Tuple vs _ _ => (es.length == 2 || es.length == 3) && vs.length == es.length && sc.kind == .function && !(vs.any isStar) && !(vs.all (constantsAlone 8)) && !(vs.all (foldedForSure 8)) &&
      (let line := (es.head?.map (·.pos.line)).getD 0
       es.all fun | .Name id pos => sc.names.lookup id == some .local && pos.line == line | _ => false) &&
      (match namesOf es with | some ns => ns.eraseDups.length == ns.length | Option.none => false)
  | _ => false
/-- the store goes from the front -/
noncomputable def frontNames (sc : Scope) (es : List Expr) (value : Expr) : Bool := match value with
  | .Tuple vs _ _ => !(es.length == 2 || es.length == 3) || vs.length != es.length ||
      (vs.any isStar) || !(es.all fun | .Name id _ => sc.names.lookup id == some .local | _ => false)
  | _ => true

/-! the relations: g is the part of the heap that no step turns (tuples, instances, all that stood before) -/
abbrev Gh := Addr → Option Obj
abbrev methNames : List Str := ["is_on", "doubled", "added", "times", "lifted"]
noncomputable def TupG (g : Gh) (a : Addr) (items : List Value) : Prop := ∃ o, g a = some o ∧ o.cls = .type "tuple" ∧ ∃ n, o.data = .seq items.toArray n
noncomputable def ListG (g : Gh) (a : Addr) (items : List Value) : Prop := ∃ o, g a = some o ∧ o.cls = .type "list" ∧ ∃ n, o.data = .seq items.toArray n
noncomputable def CurveAt (g : Gh) (C x : Addr) (vs : List Value) : Prop :=
  ∃ dx es k, g x = some (instObj C dx) ∧ g dx = some (dictOf es k) ∧ vs.length = 4 ∧ (∀ (a : Nat) v, vs[a]? = some v → getL (fldm a) es = some (some v)) ∧ ∀ n ∈ methNames, getL n es = some Option.none

section
variable (C : Addr) (h₀ : Heap)
mutual
noncomputable def VR (g : Gh) (ρ : List Addr) : AV → Value → Prop
  | .none, v => v = .none
  | .bool b, v => v = .bool b
  | .int i, v => ∃ t, v = .int i t
  | .tup l, v => ∃ a vs, v = .ref a ∧ TupG g a vs ∧ VRs g ρ l vs
  | .lst i, v => ∃ a, ρ[i]? = some a ∧ v = .ref a
  | .scr l, v => ∃ a vs, v = .ref a ∧ ListG g a vs ∧ IntsAre vs l
  | .curve p b q n, v => ∃ x tp tb vg tn, v = .ref x ∧ CurveAt g C x [.int p tp, .int b tb, vg, .int n tn] ∧ VR g ρ q vg
noncomputable def VRs (g : Gh) (ρ : List Addr) : List AV → List Value → Prop
  | [], vs => vs = []
  | d :: r, vs => ∃ v us, vs = v :: us ∧ VR g ρ d v ∧ VRs g ρ r us
end

structure Rel (g : Gh) (ρ : List Addr) (st : St) (h : Heap) : Prop where
  base0 : ∀ b o, h₀.get? b = some o → g b = some o
  base : ∀ b o, g b = some o → h.get? b = some o
  nodup : ρ.Nodup
  fresh : ∀ a ∈ ρ, g a = Option.none
  len : ρ.length = st.length
  lists : ∀ (i : Nat) (l : List AV), st[i]? = some l → ∃ a vs, ρ[i]? = some a ∧ h.PlainList a vs.toArray ∧ VRs C g ρ l vs
end

structure Step (own : List Addr) (g : Gh) (ρ : List Addr) (h : Heap) (g' : Gh) (ρ' : List Addr) (h' : Heap) : Prop where
  gext : ∀ b o, g b = some o → g' b = some o
  gnew : ∀ b o, g' b = some o → g b = some o ∨ h.get? b = Option.none
  ext : ∃ r, ρ' = ρ ++ r ∧ ∀ a ∈ r, h.get? a = Option.none
  keep : ∀ b o, h.get? b = some o → b ∉ ρ → b ∉ own → h'.get? b = some o
  alive : ∀ b o, h.get? b = some o → ∃ o', h'.get? b = some o'
theorem Step.refl (own : List Addr) (g : Gh) (ρ : List Addr) (h : Heap) : Step own g ρ h g ρ h := ⟨fun _ _ e => e, fun _ _ e => .inl e, ⟨[], (List.append_nil _).symm, fun _ hm => nomatch hm⟩, fun _ _ e _ _ => e, fun _ o e => ⟨o, e⟩⟩
theorem none_of_alive {h h' : Heap} (al : ∀ b o, h.get? b = some o → ∃ o', h'.get? b = some o') {b : Addr} (e : h'.get? b = Option.none) : h.get? b = Option.none := by
  cases q : h.get? b with
  | none => rfl
  | some o => obtain ⟨o', x⟩ := al b o q; rw [x] at e; cases e
theorem Step.trans {own : List Addr} {g g' g'' : Gh} {ρ ρ' ρ'' : List Addr} {h h' h'' : Heap} (a : Step own g ρ h g' ρ' h') (b : Step own g' ρ' h' g'' ρ'' h'') : Step own g ρ h g'' ρ'' h'' := by
  obtain ⟨r, e, hr⟩ := a.ext
  obtain ⟨r', e', hr'⟩ := b.ext
  refine ⟨fun x o q => b.gext x o (a.gext x o q), fun x o q => ?_, ⟨r ++ r', by rw [e', e, List.append_assoc], fun x hx => ?_⟩, fun x o hx hn ho => b.keep x o (a.keep x o hx hn ho) (fun hm => ?_) ho,
    fun x o q => let ⟨o', q'⟩ := a.alive x o q; b.alive x o' q'⟩
  · rcases b.gnew x o q with q | q
    · exact a.gnew x o q
    · exact .inr (none_of_alive a.alive q)
  · rcases List.mem_append.mp hx with hx | hx
    · exact hr x hx
    · exact none_of_alive a.alive (hr' x hx)
  · rw [e] at hm
    rcases List.mem_append.mp hm with q | q
    · exact hn q
    · rw [hr x q] at hx; cases hx
theorem Step.more {own own' : List Addr} {g g' : Gh} {ρ ρ' : List Addr} {h h' : Heap} (a : Step own g ρ h g' ρ' h') (hs : ∀ b ∈ own, b ∈ own') : Step own' g ρ h g' ρ' h' :=
  ⟨a.gext, a.gnew, a.ext, fun b o e hn ho => a.keep b o e hn fun q => ho (hs b q), a.alive⟩
/-- what a callee owns did not stand ahead of the call -/
theorem Step.called {own : List Addr} {g g' : Gh} {ρ ρ' : List Addr} {h h' : Heap} (a : Step own g ρ h g' ρ' h') (hs : ∀ b ∈ own, h.get? b = Option.none) : Step [] g ρ h g' ρ' h' :=
  ⟨a.gext, a.gnew, a.ext, fun b o e hn _ => a.keep b o e hn fun q => (by rw [hs b q] at e; cases e), a.alive⟩

theorem getElem?_prefix {α : Type} {l r : List α} {i : Nat} {a : α} (h : l[i]? = some a) : (l ++ r)[i]? = some a := by
  rw [List.getElem?_append_left (List.getElem?_eq_some_iff.mp h).1, h]

section
variable {C : Addr} {h₀ : Heap} {g g' : Gh} {ρ ρ' : List Addr} {st st' : St} {h h' : Heap}
theorem TupG.isTup (R : Rel C h₀ g ρ st h) {a : Addr} {items : List Value} (x : TupG g a items) : IsTup h a items.toArray := by
  obtain ⟨o, ho, r⟩ := x
  exact ⟨o, R.base _ _ ho, r⟩
theorem ListG.isList (R : Rel C h₀ g ρ st h) {a : Addr} {items : List Value} (x : ListG g a items) : h.IsList a items.toArray := by
  obtain ⟨o, ho, r⟩ := x
  exact ⟨o, R.base _ _ ho, r⟩
theorem TupG.mono (G : ∀ b o, g b = some o → g' b = some o) {a : Addr} {items : List Value} (x : TupG g a items) : TupG g' a items := let ⟨o, ho, r⟩ := x; ⟨o, G _ _ ho, r⟩
theorem ListG.mono (G : ∀ b o, g b = some o → g' b = some o) {a : Addr} {items : List Value} (x : ListG g a items) : ListG g' a items := let ⟨o, ho, r⟩ := x; ⟨o, G _ _ ho, r⟩
theorem CurveAt.mono (G : ∀ b o, g b = some o → g' b = some o) {D x : Addr} {vs : List Value} (c : CurveAt g D x vs) : CurveAt g' D x vs := by
  obtain ⟨dx, es, k, h1, h2, r⟩ := c
  exact ⟨dx, es, k, G _ _ h1, G _ _ h2, r⟩

mutual
theorem VR.mono (G : ∀ b o, g b = some o → g' b = some o) (P : ∃ r, ρ' = ρ ++ r) : ∀ {d : AV} {v : Value}, VR C g ρ d v → VR C g' ρ' d v
  | .none, _, x => x
  | .bool _, _, x => x
  | .int _, _, x => x
  | .tup _, _, ⟨a, vs, e, ht, hv⟩ => ⟨a, vs, e, ht.mono G, VRs.mono G P hv⟩
  | .lst _, _, ⟨a, ha, e⟩ => by
    obtain ⟨r, e'⟩ := P
    exact ⟨a, by rw [e']; exact getElem?_prefix ha, e⟩
  | .scr _, _, ⟨a, vs, e, ht, hv⟩ => ⟨a, vs, e, ht.mono G, hv⟩
  | .curve _ _ _ _, _, ⟨x, tp, tb, vg, tn, e, hc, hg⟩ => ⟨x, tp, tb, vg, tn, e, hc.mono G, VR.mono G P hg⟩
theorem VRs.mono (G : ∀ b o, g b = some o → g' b = some o) (P : ∃ r, ρ' = ρ ++ r) : ∀ {ds : List AV} {vs : List Value}, VRs C g ρ ds vs → VRs C g' ρ' ds vs
  | [], _, x => x
  | _ :: _, _, ⟨v, us, e, hv, hs⟩ => ⟨v, us, e, VR.mono G P hv, VRs.mono G P hs⟩
end
theorem Step.pre {own : List Addr} (S : Step own g ρ h g' ρ' h') : ∃ r, ρ' = ρ ++ r := let ⟨r, e, _⟩ := S.ext; ⟨r, e⟩
theorem VR.step {own : List Addr} (S : Step own g ρ h g' ρ' h') {d : AV} {v : Value} (x : VR C g ρ d v) : VR C g' ρ' d v := x.mono S.gext S.pre
theorem VRs.step {own : List Addr} (S : Step own g ρ h g' ρ' h') {d : List AV} {v : List Value} (x : VRs C g ρ d v) : VRs C g' ρ' d v := x.mono S.gext S.pre
theorem VRs.length : ∀ {ds : List AV} {vs : List Value}, VRs C g ρ ds vs → vs.length = ds.length
  | [], _, x => by rw [x]; rfl
  | _ :: _, _, ⟨v, us, e, hv, hs⟩ => by rw [e, List.length_cons, List.length_cons, hs.length]
theorem VRs.get : ∀ {ds : List AV} {vs : List Value} {i : Nat} {d : AV}, VRs C g ρ ds vs → ds[i]? = some d → ∃ v, vs[i]? = some v ∧ VR C g ρ d v
  | [], _, i, _, _, q => by simp at q
  | _ :: _, _, 0, _, ⟨v, us, e, hv, hs⟩, q => by subst e; simp at q; subst q; exact ⟨v, rfl, hv⟩
  | _ :: _, _, i + 1, _, ⟨v, us, e, hv, hs⟩, q => by subst e; simpa using hs.get (i := i) (by simpa using q)
theorem VRs.append : ∀ {ds es : List AV} {vs us : List Value}, VRs C g ρ ds vs → VRs C g ρ es us → VRs C g ρ (ds ++ es) (vs ++ us)
  | [], _, _, _, x, y => by rw [x]; exact y
  | _ :: _, _, _, _, ⟨v, r, e, hv, hs⟩, y => by subst e; exact ⟨v, _, rfl, hv, hs.append y⟩
theorem VRs.set : ∀ {ds : List AV} {vs : List Value} {i : Nat} {d : AV} {v : Value}, VRs C g ρ ds vs → VR C g ρ d v → VRs C g ρ (ds.set i d) (vs.set i v)
  | [], _, i, _, _, x, _ => by rw [x]; rfl
  | _ :: _, _, 0, _, _, ⟨v, us, e, hv, hs⟩, y => by subst e; exact ⟨_, _, rfl, y, hs⟩
  | _ :: _, _, i + 1, _, _, ⟨v, us, e, hv, hs⟩, y => by subst e; exact ⟨_, _, rfl, hv, hs.set y⟩
theorem VRs.ints : ∀ {ds : List AV} {vs : List Value} {l : List Int}, VRs C g ρ ds vs → intsO ds = some l → IntsAre vs l
  | [], vs, l, x, q => by cases q; rw [x]; exact .nil
  | .int i :: r, vs, l, ⟨v, us, e, ⟨t, hv⟩, hs⟩, q => by
    unfold intsO at q
    cases hq : intsO r with
    | none => rw [hq] at q; cases q
    | some m => rw [hq] at q; cases q; subst e; subst hv; exact .cons i t (hs.ints hq)
  | .none :: _, _, _, _, q => by cases q
  | .bool _ :: _, _, _, _, q => by cases q
  | .tup _ :: _, _, _, _, q => by cases q
  | .lst _ :: _, _, _, _, q => by cases q
  | .scr _ :: _, _, _, _, q => by cases q
  | .curve .. :: _, _, _, _, q => by cases q

theorem Rel.at (R : Rel C h₀ g ρ st h) {a : Addr} (ha : a ∈ ρ) : ∃ items, h.PlainList a items := by
  obtain ⟨i, hi, e⟩ := List.mem_iff_getElem.mp ha
  have hi' : i < st.length := R.len ▸ hi
  obtain ⟨b, vs, hb, hp, _⟩ := R.lists i (st[i]'hi') (List.getElem?_eq_getElem hi')
  rw [List.getElem?_eq_getElem hi] at hb
  exact ⟨_, by rw [← e, Option.some.inj hb]; exact hp⟩

/-- the heap turns at one address that is neither in g nor a list of ours -/
theorem Rel.off (R : Rel C h₀ g ρ st h) {a : Addr} (hk : ∀ b o, b ≠ a → h.get? b = some o → h'.get? b = some o) (hg : g a = Option.none) (hρ : a ∉ ρ) : Rel C h₀ g ρ st h' :=
  ⟨R.base0, fun b o e => hk b o (fun q => by rw [q, hg] at e; cases e) (R.base b o e), R.nodup, R.fresh, R.len, fun i l e => by
    obtain ⟨x, vs, hx, ⟨n, hp⟩, hv⟩ := R.lists i l e
    exact ⟨x, vs, hx, ⟨n, hk x _ (fun q => hρ (q ▸ List.mem_of_getElem? hx)) hp⟩, hv⟩⟩
theorem Rel.grow (R : Rel C h₀ g ρ st h) (hk : ∀ b o, h.get? b = some o → h'.get? b = some o) : Rel C h₀ g ρ st h' :=
  ⟨R.base0, fun b o e => hk b o (R.base b o e), R.nodup, R.fresh, R.len, fun i l e => by
    obtain ⟨x, vs, hx, ⟨n, hp⟩, hv⟩ := R.lists i l e
    exact ⟨x, vs, hx, ⟨n, hk x _ hp⟩, hv⟩⟩
theorem Step.grow (hk : ∀ b o, h.get? b = some o → h'.get? b = some o) (own : List Addr) (g : Gh) (ρ : List Addr) : Step own g ρ h g ρ h' :=
  ⟨fun _ _ e => e, fun _ _ e => .inl e, ⟨[], (List.append_nil _).symm, fun _ hm => nomatch hm⟩, fun b o e _ _ => hk b o e, fun b o e => ⟨o, hk b o e⟩⟩

noncomputable def gput (g : Gh) (a : Addr) (o : Obj) : Gh := fun b => if b = a then some o else g b
/-- a new object, put into g -/
theorem Rel.put (R : Rel C h₀ g ρ st h) {a : Addr} {o : Obj} (hk : ∀ b x, h.get? b = some x → h'.get? b = some x) (ha : h.get? a = Option.none) (ho : h'.get? a = some o) :
    Rel C h₀ (gput g a o) ρ st h' ∧ ∀ own, Step own g ρ h (gput g a o) ρ h' := by
  have hg : g a = Option.none := by
    cases q : g a with
    | none => rfl
    | some x => rw [R.base a x q] at ha; cases ha
  have ge : ∀ b x, g b = some x → gput g a o b = some x := fun b x e => by
    unfold gput
    rw [if_neg (fun q => by rw [q, hg] at e; cases e)]; exact e
  have hρ : a ∉ ρ := fun hm => by obtain ⟨its, n, q⟩ := R.at hm; rw [q] at ha; cases ha
  refine ⟨⟨fun b x e => ge b x (R.base0 b x e), fun b x e => ?_, R.nodup, fun b hb => ?_, R.len, fun i l e => ?_⟩, fun own => ⟨ge, fun b x e => ?_, ⟨[], (List.append_nil _).symm, fun _ hm => nomatch hm⟩, fun b x e _ _ => hk b x e, fun b x e => ⟨x, hk b x e⟩⟩⟩
  · unfold gput at e
    split at e
    · rename_i q; cases e; rw [q]; exact ho
    · exact hk b x (R.base b x e)
  · unfold gput
    rw [if_neg (fun (q : b = a) => hρ (q ▸ hb))]
    exact R.fresh b hb
  · obtain ⟨x, vs, hx, ⟨n, hp⟩, hv⟩ := R.lists i l e
    exact ⟨x, vs, hx, ⟨n, hk x _ hp⟩, hv.mono ge ⟨[], (List.append_nil _).symm⟩⟩
  · unfold gput at e
    split at e
    · rename_i q; rw [q]; exact .inr ha
    · exact .inl e
/-- a new list -/
theorem Rel.more (R : Rel C h₀ g ρ st h) {a : Addr} {l : List AV} {vs : List Value} (hk : ∀ b x, h.get? b = some x → h'.get? b = some x) (ha : h.get? a = Option.none) (ho : h'.PlainList a vs.toArray) (hv : VRs C g ρ l vs) :
    Rel C h₀ g (ρ ++ [a]) (st ++ [l]) h' ∧ ∀ own, Step own g ρ h g (ρ ++ [a]) h' := by
  have hg : g a = Option.none := by
    cases q : g a with
    | none => rfl
    | some x => rw [R.base a x q] at ha; cases ha
  have hρ : a ∉ ρ := fun hm => by obtain ⟨its, n, q⟩ := R.at hm; rw [q] at ha; cases ha
  refine ⟨⟨R.base0, fun b x e => hk b x (R.base b x e), ?_, fun b hb => ?_, by simp [R.len], fun i m e => ?_⟩, fun own => ⟨fun _ _ e => e, fun _ _ e => .inl e, ⟨[a], rfl, fun x hm => by rw [List.mem_singleton.mp hm]; exact ha⟩, fun b x e _ _ => hk b x e, fun b x e => ⟨x, hk b x e⟩⟩⟩
  · refine List.nodup_append.mpr ⟨R.nodup, by simp, fun x hx y hy => ?_⟩
    rw [List.mem_singleton.mp hy]
    exact fun q => hρ (q ▸ hx)
  · rcases List.mem_append.mp hb with hb | hb
    · exact R.fresh b hb
    · rw [List.mem_singleton.mp hb]; exact hg
  · by_cases hi : i < st.length
    · rw [List.getElem?_append_left hi] at e
      obtain ⟨x, us, hx, ⟨n, hp⟩, hu⟩ := R.lists i m e
      exact ⟨x, us, getElem?_prefix hx, ⟨n, hk x _ hp⟩, hu.mono (fun _ _ e => e) ⟨_, rfl⟩⟩
    · rw [List.getElem?_append_right (Nat.le_of_not_lt hi)] at e
      have hi0 : i - st.length = 0 := by
        have := (List.getElem?_eq_some_iff.mp e).1
        simp at this
        exact this
      rw [hi0] at e
      simp at e
      subst e
      have e2 : i = ρ.length := by have := R.len; omega
      exact ⟨a, vs, by rw [e2]; simp, ho, hv.mono (fun _ _ e => e) ⟨_, rfl⟩⟩
/-- one list turns -/
theorem Rel.turn (R : Rel C h₀ g ρ st h) {a : Addr} {k : Nat} {l : List AV} {vs : List Value} (hs : Heap.SameBut a h h') (hka : ρ[k]? = some a) (ho : h'.PlainList a vs.toArray) (hv : VRs C g ρ l vs) :
    Rel C h₀ g ρ (st.set k l) h' ∧ ∀ own, Step own g ρ h g ρ h' := by
  have hm : a ∈ ρ := List.mem_of_getElem? hka
  refine ⟨⟨R.base0, fun b x e => (hs.2 b fun q => by rw [q, R.fresh a hm] at e; cases e).trans (R.base b x e), R.nodup, R.fresh, by simp [R.len], fun i m e => ?_⟩,
    fun own => ⟨fun _ _ e => e, fun _ _ e => .inl e, ⟨[], (List.append_nil _).symm, fun _ hm => nomatch hm⟩, fun b x e hb _ => (hs.2 b fun q => hb (q ▸ hm)).trans e, fun b x e => ?_⟩⟩
  · by_cases hi : k = i
    · subst hi
      rw [List.getElem?_set_self (by have := (List.getElem?_eq_some_iff.mp hka).1; rw [← R.len]; exact this)] at e
      cases e
      exact ⟨a, vs, hka, ho, hv⟩
    · rw [List.getElem?_set_ne hi] at e
      obtain ⟨x, us, hx, ⟨n, hp⟩, hu⟩ := R.lists i m e
      refine ⟨x, us, hx, ⟨n, (hs.2 x fun q => hi ?_).trans hp⟩, hu⟩
      obtain ⟨h1, e1⟩ := List.getElem?_eq_some_iff.mp hka
      obtain ⟨h2, e2⟩ := List.getElem?_eq_some_iff.mp hx
      exact (List.getElem_inj (h₀ := h1) (h₁ := h2) R.nodup).mp (e1.trans (q.symm.trans e2.symm))
  · by_cases q : b = a
    · subst q; obtain ⟨n, z⟩ := ho; exact ⟨_, z⟩
    · exact ⟨x, (hs.2 b q).trans e⟩
end

/-! a frame, its variables -/
structure FR (g : Gh) (env : Env) (h : Heap) : Prop where
  kind : env.scope.kind = .function
  glob : env.globals = mainGlobals
  blt : env.builtins = builtinsNs
  ns : ∃ m, h.Ns env.locals m
  lfree : g env.locals = Option.none
  has : ∀ n, env.kindOf n = some .cell → ∃ c, env.cells.lookup n = some c
  cell : ∀ n c, env.cells.lookup n = some c → (∃ v, h.IsCell c v) ∧ g c = Option.none
  apart : env.cells.Pairwise fun x y => x.2 ≠ y.2
  nodup : ∀ n c c', (n, c) ∈ env.cells → (n, c') ∈ env.cells → c = c'
noncomputable def ownA (env : Env) : List Addr := env.locals :: env.cells.map (·.2)

noncomputable def VarAt (env : Env) (h : Heap) (x : Str) (v : Value) : Prop :=
  (env.kindOf x = some .local ∧ ∃ m, h.Ns env.locals m ∧ m x = some v) ∨ (env.kindOf x = some .cell ∧ ∃ c, env.cells.lookup x = some c ∧ h.IsCell c (some v))
noncomputable def Vars (C : Addr) (g : Gh) (ρ : List Addr) (env : Env) (h : Heap) (loc : Loc) : Prop :=
  ∀ x d, look loc x = some d → x < nv ∧ ∃ v, VarAt env h (nm x) v ∧ VR C g ρ d v

theorem Ns_unique {h : Heap} {a : Addr} {m m' : Str → Option Value} (x : h.Ns a m) (y : h.Ns a m') : m = m' := by
  obtain ⟨o, es, ep, ho, hd, _, hf⟩ := x
  obtain ⟨o', es', ep', ho', hd', _, hf'⟩ := y
  rw [ho] at ho'; cases ho'
  rw [hd] at hd'; cases hd'
  funext n
  rw [← hf, ← hf']
theorem list_not_ns {h : Heap} {a : Addr} {items : Array Value} {m : Str → Option Value} (x : h.PlainList a items) (y : h.Ns a m) : False := by
  obtain ⟨n, e⟩ := x
  obtain ⟨o, es, ep, ho, hd, _⟩ := y
  rw [e] at ho; cases ho; cases hd
theorem list_not_cell {h : Heap} {a : Addr} {items : Array Value} {v : Option Value} (x : h.PlainList a items) (y : h.IsCell a v) : False := by
  obtain ⟨n, e⟩ := x
  obtain ⟨o, ho, hd⟩ := y
  rw [e] at ho; cases ho; cases hd
theorem ns_not_cell {h : Heap} {a : Addr} {m : Str → Option Value} {v : Option Value} (x : h.Ns a m) (y : h.IsCell a v) : False := by
  obtain ⟨o, ho, hd⟩ := y
  obtain ⟨o', es, ep, ho', hd', _⟩ := x
  rw [ho] at ho'; cases ho'; rw [hd] at hd'; cases hd'

section
variable {C : Addr} {h₀ : Heap} {g g' : Gh} {ρ ρ' : List Addr} {st st' : St} {h h' : Heap} {env : Env} {loc : Loc}
theorem FR.locals_off (F : FR g env h) (R : Rel C h₀ g ρ st h) : env.locals ∉ ρ := fun hm => by
  obtain ⟨its, q⟩ := R.at hm
  obtain ⟨m, hn⟩ := F.ns
  exact list_not_ns q hn
theorem FR.cell_off (F : FR g env h) (R : Rel C h₀ g ρ st h) {n : Str} {c : Addr} (e : env.cells.lookup n = some c) : c ∉ ρ := fun hm => by
  obtain ⟨its, q⟩ := R.at hm
  obtain ⟨⟨v, hv⟩, _⟩ := F.cell n c e
  exact list_not_cell q hv
theorem IsCell_keep {c : Addr} {v : Option Value} (x : h.IsCell c v) (hk : ∀ o, h.get? c = some o → h'.get? c = some o) : h'.IsCell c v := let ⟨o, ho, r⟩ := x; ⟨o, hk o ho, r⟩
theorem Ns_keep {a : Addr} {m : Str → Option Value} (x : h.Ns a m) (hk : ∀ o, h.get? a = some o → h'.get? a = some o) : h'.Ns a m := let ⟨o, es, ep, ho, r⟩ := x; ⟨o, es, ep, hk o ho, r⟩
/-- a step that owns nothing leaves the frame -/
theorem FR.step (F : FR g env h) (R : Rel C h₀ g ρ st h) (S : Step [] g ρ h g' ρ' h') : FR g' env h' where
  kind := F.kind
  glob := F.glob
  blt := F.blt
  ns := let ⟨m, hn⟩ := F.ns; ⟨m, Ns_keep hn fun o e => S.keep _ o e (F.locals_off R) (fun q => nomatch q)⟩
  lfree := by
    cases q : g' env.locals with
    | none => rfl
    | some o =>
      rcases S.gnew _ _ q with q | q
      · rw [F.lfree] at q; cases q
      · obtain ⟨m, o', _, _, ho, _⟩ := F.ns; rw [q] at ho; cases ho
  has := F.has
  cell := fun n c e => by
    obtain ⟨⟨v, hv⟩, hg⟩ := F.cell n c e
    refine ⟨⟨v, IsCell_keep hv fun o q => S.keep _ o q (F.cell_off R e) (fun q => nomatch q)⟩, ?_⟩
    cases q : g' c with
    | none => rfl
    | some o =>
      rcases S.gnew _ _ q with q | q
      · rw [hg] at q; cases q
      · obtain ⟨o', ho, _⟩ := hv; rw [q] at ho; cases ho
  apart := F.apart
  nodup := F.nodup
theorem VarAt.step (F : FR g env h) (R : Rel C h₀ g ρ st h) (S : Step [] g ρ h g' ρ' h') {x : Str} {v : Value} (a : VarAt env h x v) : VarAt env h' x v := by
  rcases a with ⟨hk, m, hn, hm⟩ | ⟨hk, c, hc, hv⟩
  · exact .inl ⟨hk, m, Ns_keep hn fun o e => S.keep _ o e (F.locals_off R) (fun q => nomatch q), hm⟩
  · exact .inr ⟨hk, c, hc, IsCell_keep hv fun o q => S.keep _ o q (F.cell_off R hc) (fun q => nomatch q)⟩
theorem Vars.step (V : Vars C g ρ env h loc) (F : FR g env h) (R : Rel C h₀ g ρ st h) (S : Step [] g ρ h g' ρ' h') : Vars C g' ρ' env h' loc := fun x d e =>
  let ⟨hx, v, ha, hv⟩ := V x d e; ⟨hx, v, ha.step F R S, hv.step S⟩

theorem loadVar {M : Model} {A : Around} {E : Value → Shared → Prop} {s : Shared} {x : Nat} {d : AV} {pos : Pos} (F : FR g env s.heap) (V : Vars C g ρ env s.heap loc) (e : look loc x = some d) {Q : Value → Shared → Prop}
    (h : ∀ v, VR C g ρ d v → Q v s) : wpAny M A (eval (.Name (nm x) pos) env) Q E s := by
  obtain ⟨hx, v, ha, hv⟩ := V x d e
  refine wpAny_Name ?_ (nm_plain hx).1
  rcases ha with ⟨hk, m, hn, hm⟩ | ⟨hk, c, hc, hcell⟩
  · exact wpAny_loadName_local F.kind hk hn hm (h v hv)
  · exact wpAny_loadName_cell F.kind hk hc hcell (h v hv)

theorem name_of_cell {cs : List (Str × Addr)} (hp : cs.Pairwise fun x y => x.2 ≠ y.2) {n n' : Str} {c : Addr} (a : cs.lookup n = some c) (b : cs.lookup n' = some c) : n = n' :=
  name_of_addr hp (mem_of_lookup a) (mem_of_lookup b)

theorem storeLocal {M : Model} {A : Around} {E : Value → Shared → Prop} {s : Shared} {x : Nat} {d : AV} {v : Value} (hx : x < nv) (hk : env.kindOf (nm x) = some .local)
    (F : FR g env s.heap) (V : Vars C g ρ env s.heap loc) (R : Rel C h₀ g ρ st s.heap) (hv : VR C g ρ d v) {Q : Unit → Shared → Prop}
    (h : ∀ h' tk, Step [env.locals] g ρ s.heap g ρ h' → Rel C h₀ g ρ st h' → FR g env h' → Vars C g ρ env h' (upd loc x d) → Q () { s with heap := h', toks := tk }) :
    wpAny M A (storeName env (nm x) v) Q E s := by
  obtain ⟨m, hn⟩ := F.ns
  refine wpAny_storeName_local hk hn (fun h' hn' hs => h h' _ ?_ ?_ ?_ ?_) (by rw [F.kind]; rfl)
  · refine ⟨fun _ _ e => e, fun _ _ e => .inl e, ⟨[], (List.append_nil _).symm, fun _ hm => nomatch hm⟩, fun b o e _ ho => (hs.2 b fun q => ho (q ▸ List.mem_cons_self)).trans e, fun b o e => ?_⟩
    by_cases q : b = env.locals
    · obtain ⟨o', _, _, ho', _⟩ := hn'; exact ⟨o', q ▸ ho'⟩
    · exact ⟨o, (hs.2 b q).trans e⟩
  · exact R.off (fun b o hb e => (hs.2 b hb).trans e) F.lfree (F.locals_off R)
  · refine ⟨F.kind, F.glob, F.blt, ⟨_, hn'⟩, F.lfree, F.has, fun n c e => ?_, F.apart, F.nodup⟩
    obtain ⟨⟨w, hw⟩, hg⟩ := F.cell n c e
    exact ⟨⟨w, IsCell_keep hw fun o q => (hs.2 c fun z => ns_not_cell hn (z ▸ hw)).trans q⟩, hg⟩
  · intro y e hy
    rw [look_upd] at hy
    by_cases hxy : x = y
    · subst hxy
      rw [if_pos rfl] at hy; cases hy
      exact ⟨hx, v, .inl ⟨hk, _, hn', by simp⟩, hv⟩
    · rw [if_neg hxy] at hy
      obtain ⟨hy', u, ha, hu⟩ := V y e hy
      refine ⟨hy', u, ?_, hu⟩
      rcases ha with ⟨hk', m', hm', hu'⟩ | ⟨hk', c, hc, hcell⟩
      · rw [Ns_unique hm' hn] at hu'
        exact .inl ⟨hk', _, hn', by rw [if_neg (fun q => hxy (nm_inj hx hy' q.symm))]; exact hu'⟩
      · exact .inr ⟨hk', c, hc, IsCell_keep hcell fun o q => (hs.2 c fun z => ns_not_cell hn (z ▸ hcell)).trans q⟩

theorem storeVar {M : Model} {A : Around} {E : Value → Shared → Prop} {s : Shared} {x : Nat} {d : AV} {v : Value} (hx : x < nv) (hk : env.kindOf (nm x) = some .local ∨ env.kindOf (nm x) = some .cell)
    (F : FR g env s.heap) (V : Vars C g ρ env s.heap loc) (R : Rel C h₀ g ρ st s.heap) (hv : VR C g ρ d v) {Q : Unit → Shared → Prop}
    (h : ∀ h' tk, Step (ownA env) g ρ s.heap g ρ h' → Rel C h₀ g ρ st h' → FR g env h' → Vars C g ρ env h' (upd loc x d) → Q () { s with heap := h', toks := tk }) :
    wpAny M A (storeName env (nm x) v) Q E s := by
  have own_mem : ∀ {n c}, env.cells.lookup n = some c → c ∈ ownA env := fun e => List.mem_cons_of_mem _ (List.mem_map.mpr ⟨_, mem_of_lookup e, rfl⟩)
  rcases hk with hk | hk
  · exact storeLocal hx hk F V R hv fun h' tk S => h h' tk (S.more fun b hb => by rw [List.mem_singleton.mp hb]; exact List.mem_cons_self)
  · obtain ⟨m, hn⟩ := F.ns
    obtain ⟨c, hc⟩ := F.has _ hk
    obtain ⟨⟨v₀, hv₀⟩, hgc⟩ := F.cell _ c hc
    refine wpAny_storeName_cell F.kind hk hc hv₀ (fun h' hc' hs => h h' _ ?_ ?_ ?_ ?_)
    · refine ⟨fun _ _ e => e, fun _ _ e => .inl e, ⟨[], (List.append_nil _).symm, fun _ hm => nomatch hm⟩, fun b o e _ ho => (hs.2 b fun q => ho (q ▸ own_mem hc)).trans e, fun b o e => ?_⟩
      by_cases q : b = c
      · obtain ⟨o', ho', _⟩ := hc'; exact ⟨o', q ▸ ho'⟩
      · exact ⟨o, (hs.2 b q).trans e⟩
    · exact R.off (fun b o hb e => (hs.2 b hb).trans e) hgc (F.cell_off R hc)
    · refine ⟨F.kind, F.glob, F.blt, ⟨m, Ns_keep hn fun o q => (hs.2 _ fun z => ns_not_cell hn (z ▸ hv₀)).trans q⟩, F.lfree, F.has, fun n c' e => ?_, F.apart, F.nodup⟩
      obtain ⟨⟨w, hw⟩, hg⟩ := F.cell n c' e
      by_cases q : c' = c
      · exact ⟨⟨_, q ▸ hc'⟩, hg⟩
      · exact ⟨⟨w, IsCell_keep hw fun o z => (hs.2 c' q).trans z⟩, hg⟩
    · intro y e hy
      rw [look_upd] at hy
      by_cases hxy : x = y
      · subst hxy
        rw [if_pos rfl] at hy; cases hy
        exact ⟨hx, v, .inr ⟨hk, c, hc, hc'⟩, hv⟩
      · rw [if_neg hxy] at hy
        obtain ⟨hy', u, ha, hu⟩ := V y e hy
        refine ⟨hy', u, ?_, hu⟩
        rcases ha with ⟨hk', m', hm', hu'⟩ | ⟨hk', c', hc₂, hcell⟩
        · exact .inl ⟨hk', m', Ns_keep hm' fun o q => (hs.2 _ fun z => ns_not_cell hm' (z ▸ hv₀)).trans q, hu'⟩
        · refine .inr ⟨hk', c', hc₂, IsCell_keep hcell fun o q => (hs.2 c' fun z => hxy ?_).trans q⟩
          exact nm_inj hx hy' (name_of_cell F.apart hc (z ▸ hc₂))
end

end Mine
set_option maxRecDepth 100000
namespace Mine
open PySem PySem.W PyProof.Rows PySem.Calls

noncomputable def Post (C : Addr) (h₀ : Heap) (g : Gh) (ρ : List Addr) (s : Shared) (Q : AV → St → Prop) (v : Value) (s' : Shared) : Prop :=
  ∃ h' tk g' ρ' st' d, s' = { s with heap := h', toks := tk } ∧ Step [] g ρ s.heap g' ρ' h' ∧ Rel C h₀ g' ρ' st' h' ∧ VR C g' ρ' d v ∧ Q d st'
noncomputable def PostL (C : Addr) (h₀ : Heap) (g : Gh) (ρ : List Addr) (s : Shared) (Q : List AV → St → Prop) (vs : List Value) (s' : Shared) : Prop :=
  ∃ h' tk g' ρ' st' ds, s' = { s with heap := h', toks := tk } ∧ Step [] g ρ s.heap g' ρ' h' ∧ Rel C h₀ g' ρ' st' h' ∧ VRs C g' ρ' ds vs ∧ Q ds st'
noncomputable def PostB (C : Addr) (h₀ : Heap) (g : Gh) (ρ : List Addr) (s : Shared) (Q : Bool → St → Prop) (b : Bool) (s' : Shared) : Prop :=
  ∃ h' tk g' ρ' st', s' = { s with heap := h', toks := tk } ∧ Step [] g ρ s.heap g' ρ' h' ∧ Rel C h₀ g' ρ' st' h' ∧ Q b st'
noncomputable def NoE : Value → Shared → Prop := fun _ _ => False
/-- the room that a call of ours has -/
structure OkA (A : Around) : Prop where
  handled : A.handled = none
  units : A.units + 80 < cLine

section
variable {prog : Program} {w : World} {A : Around} {C : Addr} {h₀ : Heap} {g : Gh} {ρ : List Addr} {st : St} {s : Shared}

theorem wp_false {α : Type} {M : Model} {t : Sem α} {Q : α → Shared → Prop} {E : Value → Shared → Prop} (h : wpAny M A t Q NoE s) : wpAny M A t Q E s := wpAny_mono h (fun _ _ q => q) fun _ _ f => f.elim

@[elab_as_elim] theorem Post.elim {Q : AV → St → Prop} {v : Value} {s' : Shared} {P : Shared → Prop} (h : Post C h₀ g ρ s Q v s') (k : ∀ h' tk g' ρ' st' d, Step [] g ρ s.heap g' ρ' h' → Rel C h₀ g' ρ' st' h' → VR C g' ρ' d v → Q d st' → P { s with heap := h', toks := tk }) : P s' := by
  obtain ⟨h', tk, g', ρ', st', d, rfl, S, R, hv, hq⟩ := h
  exact k _ _ _ _ _ _ S R hv hq
@[elab_as_elim] theorem PostL.elim {Q : List AV → St → Prop} {v : List Value} {s' : Shared} {P : Shared → Prop} (h : PostL C h₀ g ρ s Q v s') (k : ∀ h' tk g' ρ' st' d, Step [] g ρ s.heap g' ρ' h' → Rel C h₀ g' ρ' st' h' → VRs C g' ρ' d v → Q d st' → P { s with heap := h', toks := tk }) : P s' := by
  obtain ⟨h', tk, g', ρ', st', d, rfl, S, R, hv, hq⟩ := h
  exact k _ _ _ _ _ _ S R hv hq
@[elab_as_elim] theorem PostB.elim {Q : Bool → St → Prop} {v : Bool} {s' : Shared} {P : Shared → Prop} (h : PostB C h₀ g ρ s Q v s') (k : ∀ h' tk g' ρ' st', Step [] g ρ s.heap g' ρ' h' → Rel C h₀ g' ρ' st' h' → Q v st' → P { s with heap := h', toks := tk }) : P s' := by
  obtain ⟨h', tk, g', ρ', st', rfl, S, R, hq⟩ := h
  exact k _ _ _ _ _ S R hq
theorem Post.now {Q : AV → St → Prop} (R : Rel C h₀ g ρ st s.heap) {d : AV} {v : Value} (hv : VR C g ρ d v) (h : Q d st) {tk : Nat} : Post C h₀ g ρ s Q v { s with toks := tk } :=
  ⟨s.heap, tk, g, ρ, st, d, rfl, Step.refl _ _ _ _, R, hv, h⟩
theorem Post.nowT {Q : AV → St → Prop} (R : Rel C h₀ g ρ st s.heap) {d : AV} {v : Value} (hv : VR C g ρ d v) (h : Q d st) : Post C h₀ g ρ s Q v s := Post.now (tk := s.toks) R hv h
theorem push_keep (h : Heap) (o : Obj) : ∀ b x, h.get? b = some x → (h.push o).get? b = some x := fun _ _ e => Heap.get?_push_of_some _ e
theorem push_new (h : Heap) : h.get? h.objs.size = none := by
  cases q : h.get? h.objs.size with
  | none => rfl
  | some o => exact absurd (Heap.lt_size q) (Nat.lt_irrefl _)

theorem small_bits {a : Int} (h : Small a) : Builtin.Int.intBits a ≤ 2 ^ 20 := Nat.le_trans (intBits_le h) (by decide)

theorem binI_sound {op : Operator} {i j : Int} {t u : Nat} {P : Int → Prop} {Q : Value → Shared → Prop} (h : binI op i j P) (fin : ∀ {r : Int}, P r → Q (.int r s.toks) { s with toks := s.toks + 1 }) :
    wpAny (model prog w) A (binaryOp op (.int i t) (.int j u)) Q NoE s := by
  cases op with
  | Add => exact add_int (fin h)
  | Sub => exact sub_int' (fin h)
  | Mult => exact PyProof.Rows.mul_int (fin h.2.2) (IntMulOk.of_bits (small_bits h.1) (small_bits h.2.1))
  | Mod =>
    refine mod_int' (Int.ne_of_gt h.1) ?_
    rw [Int.fmod_eq_emod_of_nonneg _ (Int.le_of_lt h.1)]
    exact fin h.2
  | FloorDiv =>
    refine floordiv_int (Int.ne_of_gt h.1) ?_ (.inl (PyProof.noPylong_small (by clear fin; have := h.1; have := h.2.1; clear h; omega)))
    rw [Int.fdiv_eq_ediv_of_nonneg _ (Int.le_of_lt h.1)]
    exact fin h.2.2
  | Pow => exact pow_int_small h.1 h.2.1 h.2.2.1 (fin h.2.2.2)
  | LShift => exact lshift_int_small h.1 h.2.1 h.2.2.1 (fin h.2.2.2)
  | RShift =>
    refine rshift_int h.1 ?_
    rw [Int.fdiv_eq_ediv_of_nonneg _ (Int.pow_nonneg (by decide))]
    exact fin h.2
  | BitAnd => exact and_int (fin h)
  | _ => exact False.elim h
theorem addSound {i j : Nat} {Q : AV → St → Prop} {va vb : Value} {l m : List AV} (hi : st[i]? = some l) (hj : st[j]? = some m) (h : l.length + m.length ≤ 1000) (hQ : Q (.lst st.length) (st ++ [l ++ m])) (R : Rel C h₀ g ρ st s.heap) (ha : VR C g ρ (.lst i) va) (hb : VR C g ρ (.lst j) vb) :
    wpAny (model prog w) A (binaryOp .Add va vb) (Post C h₀ g ρ s Q) NoE s := by
  obtain ⟨a, hra, rfl⟩ := ha
  obtain ⟨b, hrb, rfl⟩ := hb
  obtain ⟨a', vs, ha', ⟨n, hp⟩, hv⟩ := R.lists i l hi
  obtain ⟨b', us, hb', ⟨k, hq⟩, hu⟩ := R.lists j m hj
  rw [hra] at ha'; cases ha'
  rw [hrb] at hb'; cases hb'
  have e : vs.toArray ++ us.toArray = (vs ++ us).toArray := List.append_toArray _ _
  refine concat_meets ⟨_, hp, rfl⟩ ⟨_, hq, rfl⟩ noFill_list_add seq_list_add PySem.F.slot_list_add PySem.F.entry_list_add (PySem.F.args_list_add_2 _ _) (list_addW a b vs.toArray us.toArray n k none none #[] #[] (by
    rw [List.size_toArray, List.size_toArray, hv.length, hu.length, sizeLine_eq]; exact Nat.le_trans h (by decide))) ⟨hp, hq, ?_⟩
  rw [e]
  obtain ⟨R', S⟩ := R.more (push_keep s.heap _) (push_new s.heap) (a := s.heap.objs.size) (h' := s.heap.push { cls := .type "list", data := .seq (vs ++ us).toArray }) ⟨0, Heap.get?_push_size _ rfl⟩ (hv.append hu)
  exact ⟨_, _, g, _, _, .lst st.length, rfl, S [], R', ⟨_, by rw [← R.len]; exact List.getElem?_concat_length, rfl⟩, hQ⟩
theorem binSound {op : Operator} {a b : AV} {Q : AV → St → Prop} {va vb : Value} (h : binW op a b st Q) (R : Rel C h₀ g ρ st s.heap) (ha : VR C g ρ a va) (hb : VR C g ρ b vb) :
    wpAny (model prog w) A (binaryOp op va vb) (Post C h₀ g ρ s Q) NoE s := by
  cases a with
  | int i => cases b with
    | int j =>
      obtain ⟨t, rfl⟩ := ha; obtain ⟨u, rfl⟩ := hb
      exact binI_sound (P := fun r => Q (.int r) st) h fun {i} q => Post.now (d := .int i) R ⟨_, rfl⟩ q
    | _ => exact False.elim h
  | lst i => cases b with
    | lst j =>
      obtain ⟨rfl, h⟩ := h
      cases hi : st[i]? with
      | none => rw [hi] at h; exact False.elim h
      | some l => cases hj : st[j]? with
        | none => rw [hi, hj] at h; exact False.elim h
        | some m => rw [hi, hj] at h; exact addSound hi hj h.1 h.2 R ha hb
    | _ => exact False.elim h
  | _ => exact False.elim h

theorem readsAll_ints {h : Heap} : ∀ {vs : List Value} {ns : List Int}, IntsAre vs ns → ReadsAll h vs (ns.map PyData.int) []
  | _, _, .nil => .nil
  | _, _, .cons n t r => readsAll_cons_val (.int n t) (readsAll_ints r)
theorem flatReads {h : Heap} (R : Rel C h₀ g ρ st h) : ∀ {d : AV} {v : Value} {x : PyData}, VR C g ρ d v → flatPD d = some x → Reads h v x []
  | .none, _, _, hv, e => by cases e; rw [hv]; exact .none
  | .bool b, _, _, hv, e => by cases e; rw [hv]; exact .bool b
  | .int i, _, _, ⟨t, hv⟩, e => by cases e; rw [hv]; exact .int i t
  | .tup l, _, _, ⟨a, vs, hv, ⟨o, ho, hc, n, hd⟩, hs⟩, e => by
    unfold flatPD at e
    cases hl : intsO l with
    | none => simp only [hl] at e; cases e
    | some m =>
      simp only [hl] at e
      cases e
      rw [hv]
      exact reads_tuple_at (R.base _ _ ho) hc hd (by simpa using readsAll_ints (hs.ints hl))
  | .lst _, _, _, _, e => by cases e
  | .scr _, _, _, _, e => by cases e
  | .curve .., _, _, _, e => by cases e
theorem flatReadsAll {h : Heap} (R : Rel C h₀ g ρ st h) : ∀ {ds : List AV} {vs : List Value} {xs : List PyData}, VRs C g ρ ds vs → flatsPD ds = some xs → ReadsAll h vs xs []
  | [], _, _, hv, e => by cases e; rw [hv]; exact .nil
  | d :: r, _, _, ⟨v, us, hv, h1, h2⟩, e => by
    unfold flatsPD at e
    cases hx : flatPD d with
    | none => simp only [hx] at e; cases e
    | some x =>
      cases hl : flatsPD r with
      | none => simp only [hx, hl] at e; cases e
      | some l =>
        simp only [hx, hl] at e
        cases e
        rw [hv]
        exact readsAll_cons_val (flatReads R h1 hx) (flatReadsAll R h2 hl)
theorem ke_canLayAll0 : ∀ ns : List Int, PyData.canLayAll0 (ns.map PyData.int) = true
  | [] => rfl
  | _ :: r => by rw [List.map_cons, PyData.canLayAll0, PyData.canLay0, ke_canLayAll0 r]; rfl
theorem ke_depthAll : ∀ ns : List Int, PyData.depthAll (ns.map PyData.int) = 0
  | [] => rfl
  | _ :: r => by rw [List.map_cons, PyData.depthAll, PyData.depth, ke_depthAll r]; rfl
theorem flat_shape : ∀ {d : AV} {x : PyData}, flatPD d = some x → x.canLay0 = true ∧ x.depth ≤ 1
  | .none, _, e => by cases e; exact ⟨rfl, Nat.zero_le _⟩
  | .bool _, _, e => by cases e; exact ⟨rfl, Nat.zero_le _⟩
  | .int _, _, e => by cases e; exact ⟨rfl, Nat.zero_le _⟩
  | .tup l, _, e => by
    unfold flatPD at e
    cases hl : intsO l with
    | none => simp only [hl] at e; cases e
    | some m =>
      simp only [hl] at e
      cases e
      refine ⟨by rw [PyData.canLay0]; exact ke_canLayAll0 m, by rw [PyData.depth, ke_depthAll]; exact Nat.le_refl _⟩
  | .lst _, _, e => by cases e
  | .scr _, _, e => by cases e
  | .curve .., _, e => by cases e
theorem flats_shape : ∀ {ds : List AV} {xs : List PyData}, flatsPD ds = some xs → PyData.canLayAll0 xs = true ∧ PyData.depthAll xs ≤ 1
  | [], _, e => by cases e; exact ⟨rfl, Nat.zero_le _⟩
  | d :: r, _, e => by
    unfold flatsPD at e
    cases hx : flatPD d with
    | none => simp only [hx] at e; cases e
    | some x =>
      cases hl : flatsPD r with
      | none => simp only [hx, hl] at e; cases e
      | some l =>
        simp only [hx, hl] at e
        cases e
        have h1 := flat_shape hx
        have h2 := flats_shape hl
        refine ⟨by rw [PyData.canLayAll0, h1.1, h2.1]; rfl, ?_⟩
        rw [PyData.depthAll]
        exact Nat.max_le.mpr ⟨h1.2, h2.2⟩
theorem dataReads {h : Heap} (R : Rel C h₀ g ρ st h) {d : AV} {v : Value} {x : PyData} (hv : VR C g ρ d v) (e : dataO st d = some x) : ∃ as, Reads h v x as ∧ x.canLay0 = true ∧ x.depth ≤ 2 := by
  have flat : flatPD d = some x → ∃ as, Reads h v x as ∧ x.canLay0 = true ∧ x.depth ≤ 2 := fun e => ⟨[], flatReads R hv e, (flat_shape e).1, Nat.le_succ_of_le (flat_shape e).2⟩
  cases d with
  | lst i =>
    unfold dataO at e
    cases hi : st[i]? with
    | none => simp only [hi] at e; cases e
    | some l =>
      simp only [hi] at e
      cases hl : flatsPD l with
      | none => simp only [hl] at e; cases e
      | some xs =>
        simp only [hl, Option.map_some] at e
        cases e
        obtain ⟨a, hra, rfl⟩ := hv
        obtain ⟨a', vs, ha', ⟨n, hp⟩, hu⟩ := R.lists i l hi
        rw [hra] at ha'; cases ha'
        have sh := flats_shape hl
        refine ⟨_, reads_list_at hp rfl rfl (by simpa using flatReadsAll R hu hl), by rw [PyData.canLay0]; exact sh.1, by rw [PyData.depth]; exact Nat.succ_le_succ sh.2⟩
  | _ => exact flat e

theorem isSound {a b : AV} {c : Bool} {va vb : Value} (h : isO a b = some c) (ha : VR C g ρ a va) (hb : VR C g ρ b vb) : plainIs va vb = true ∧ (va == vb) = c := by
  cases a with
  | none => cases b with
    | none => cases h; cases (show va = .none from ha); cases (show vb = .none from hb); exact ⟨rfl, rfl⟩
    | _ => cases h
  | tup l => cases b with
    | none => cases h; obtain ⟨x, vs, rfl, _⟩ := ha; cases (show vb = .none from hb); exact ⟨rfl, rfl⟩
    | _ => cases h
  | _ => cases h

theorem eqO_inv {st : St} {a b : AV} {c : Bool} (e : eqO st a b = some c) : ∃ x y, dataO st a = some x ∧ dataO st b = some y ∧ PyData.eqv x y = c := by
  rw [eqO_eq] at e
  replace e : (match dataO st a, dataO st b with | some x, some y => some (PyData.eqv x y) | _, _ => Option.none) = some c := e
  cases hx : dataO st a with
  | none => rw [hx] at e; cases e
  | some x => cases hy : dataO st b with
    | none => rw [hx, hy] at e; cases e
    | some y => rw [hx, hy] at e; exact ⟨x, y, rfl, rfl, Option.some.inj e⟩
theorem inO_inv {st : St} {a b : AV} {c : Bool} (e : inO st a b = some c) : ∃ x y l, flatPD a = some x ∧ dataO st b = some y ∧ (y = .tuple l ∨ y = .list l) ∧ (l.any fun y => PyData.eqv y x) = c := by
  unfold inO at e
  cases hx : flatPD a with
  | none => rw [hx] at e; cases e
  | some x => cases hy : dataO st b with
    | none => rw [hx, hy] at e; cases e
    | some y =>
      rw [hx, hy] at e
      cases y with
      | tuple l => exact ⟨x, _, l, rfl, rfl, .inl rfl, Option.some.inj e⟩
      | list l => exact ⟨x, _, l, rfl, rfl, .inr rfl, Option.some.inj e⟩
      | _ => cases e
theorem shaped_of {x : PyData} (h : x.canLay0 = true ∧ x.depth ≤ 2) : SeqAt.shaped x = true := by
  unfold SeqAt.shaped; rw [h.1]; exact decide_eq_true (Nat.le_trans h.2 (by decide))
theorem eqSound {a b : AV} {c : Bool} {va vb : Value} {Q : Value → Shared → Prop} {E : Value → Shared → Prop} (K : OkA A) (h : eqO st a b = some c) (R : Rel C h₀ g ρ st s.heap) (ha : VR C g ρ a va) (hb : VR C g ρ b vb) :
    (Q (.bool c) s → wpAny (model prog w) A (compareOp .Eq va vb) Q E s) ∧ (Q (.bool (!c)) s → wpAny (model prog w) A (compareOp .NotEq va vb) Q E s) := by
  have hu : A.units + 64 < cLine := Nat.lt_of_le_of_lt (Nat.add_le_add_left (by decide) _) K.units
  obtain ⟨x, y, hx, hy, rfl⟩ := eqO_inv h
  obtain ⟨as, ra, d1⟩ := dataReads R ha hx
  obtain ⟨bs, rb, d2⟩ := dataReads R hb hy
  exact ⟨fun hQ => eq_dataH ra rb (shaped_of d1) (shaped_of d2) hu hQ, fun hQ => ne_dataH ra rb (shaped_of d1) (shaped_of d2) hu hQ⟩
theorem inSound {a b : AV} {c : Bool} {va vb : Value} {Q : Value → Shared → Prop} {E : Value → Shared → Prop} (K : OkA A) (h : inO st a b = some c) (R : Rel C h₀ g ρ st s.heap) (ha : VR C g ρ a va) (hb : VR C g ρ b vb) :
    (Q (.bool c) s → wpAny (model prog w) A (compareOp .In va vb) Q E s) ∧ (Q (.bool (!c)) s → wpAny (model prog w) A (compareOp .NotIn va vb) Q E s) := by
  obtain ⟨x, y, l, hx, hy, hl, rfl⟩ := inO_inv h
  obtain ⟨bs, rb, l2, d2⟩ := dataReads R hb hy
  have sh := flat_shape hx
  have hd : A.units + 1 + min (PyData.depthAll l) x.depth < cLine := by
    have h1 := Nat.min_le_right (PyData.depthAll l) x.depth
    have h2 := sh.2
    have h3 := K.units
    clear hl
    omega
  have fr := flatReads R ha hx
  rcases hl with rfl | rfl
  · rw [PyData.canLay0] at l2
    exact ⟨fun hQ => SeqAt.in_tuple_reads rb fr l2 sh.1 hd hQ, fun hQ => SeqAt.notIn_tuple_reads rb fr l2 sh.1 hd hQ⟩
  · rw [PyData.canLay0] at l2
    exact ⟨fun hQ => SeqAt.in_list_reads rb fr l2 sh.1 hd hQ, fun hQ => SeqAt.notIn_list_reads rb fr l2 sh.1 hd hQ⟩
theorem cmpSound {op : CmpOp} {a b : AV} {c : Bool} {va vb : Value} {Q : Value → Shared → Prop} {E : Value → Shared → Prop} (K : OkA A) (h : cmpO op st a b = some c) (R : Rel C h₀ g ρ st s.heap) (ha : VR C g ρ a va) (hb : VR C g ρ b vb) (hQ : Q (.bool c) s) :
    wpAny (model prog w) A (compareOp op va vb) Q E s := by
  cases op with
  | Eq => exact (eqSound K h R ha hb).1 hQ
  | NotEq =>
    obtain ⟨_, e, rfl⟩ := map_not h
    exact (eqSound K e R ha hb).2 hQ
  | In => exact (inSound K h R ha hb).1 hQ
  | NotIn =>
    obtain ⟨_, e, rfl⟩ := map_not h
    exact (inSound K e R ha hb).2 hQ
  | Is =>
    obtain ⟨h1, rfl⟩ := isSound h ha hb
    exact wpAny_is_plain h1 hQ
  | IsNot =>
    obtain ⟨_, e, rfl⟩ := map_not h
    obtain ⟨h1, rfl⟩ := isSound e ha hb
    exact wpAny_isNot_plain h1 hQ
  | Lt =>
    obtain ⟨i, j, rfl, rfl, rfl⟩ := i2O_eq h
    obtain ⟨t, rfl⟩ := ha; obtain ⟨u, rfl⟩ := hb
    exact lt_int hQ
  | LtE =>
    obtain ⟨i, j, rfl, rfl, rfl⟩ := i2O_eq h
    obtain ⟨t, rfl⟩ := ha; obtain ⟨u, rfl⟩ := hb
    exact le_int hQ
  | Gt =>
    obtain ⟨i, j, rfl, rfl, rfl⟩ := i2O_eq h
    obtain ⟨t, rfl⟩ := ha; obtain ⟨u, rfl⟩ := hb
    exact gt_int hQ
  | GtE =>
    obtain ⟨i, j, rfl, rfl, rfl⟩ := i2O_eq h
    obtain ⟨t, rfl⟩ := ha; obtain ⟨u, rfl⟩ := hb
    exact ge_int hQ

end
end Mine
set_option maxRecDepth 100000
namespace Mine
open PySem PySem.W PyProof.Rows PySem.Calls
section
variable {sc : Scope} {e : Expr}
theorem dName_eq {n : Str} (h : ((dName e).any fun m => m.1 == n) = true) : ∃ p, e = .Name n p := by
  obtain ⟨m, _, h⟩ := any_some h
  obtain ⟨p, hp⟩ := m.2
  exact ⟨p, hp.trans (by rw [eq_of_beq h])⟩
theorem isName_eq (h : (dName e).isSome = true) : ∃ x p, e = .Name x p := by
  obtain ⟨m, _⟩ := Option.isSome_iff_exists.mp h
  exact ⟨m.1, m.2⟩
theorem dNoneC_eq {c : Const} (h : dNoneC c = true) : c = .none := by
  cases c with
  | none => rfl
  | _ => cases h
theorem dBoolC_eq {c : Const} {i : Bool} (h : dBoolC c = some i) : c = .bool i := by
  cases c with
  | bool j => cases h; rfl
  | _ => cases h
theorem dIntC_eq {c : Const} {i : Int} (h : dIntC c = some i) : c = .int i := by
  cases c with
  | int j => cases h; rfl
  | _ => cases h
theorem d1_eq {α : Type} {l : List α} {a : α} (h : d1 l = some a) : l = [a] := by
  cases l with
  | nil => cases h
  | cons x r => cases r with
    | nil => cases h; rfl
    | cons _ _ => cases h
theorem d2_eq {α : Type} {l : List α} {a : α × α} (h : d2 l = some a) : l = [a.1, a.2] := by
  cases l with
  | nil => cases h
  | cons x r => cases r with
    | nil => cases h
    | cons y r => cases r with
      | nil => cases h; rfl
      | cons _ _ => cases h
theorem an2 {a b : Bool} (h : (a && b) = true) : a = true ∧ b = true := Bool.and_eq_true_iff.mp h
theorem not_tf {b : Bool} (h : (!b) = true) : b = false := by cases b with | false => rfl | true => cases h
theorem no_eq {α : Type} {o : Option α} (h : o.isNone = true) : o = Option.none := Option.isNone_iff_eq_none.mp h
theorem emp_eq {α : Type} {o : List α} (h : o.isEmpty = true) : o = [] := List.isEmpty_iff.mp h
theorem gen1_eq {x : Nat} {g : Comprehension} (h : gen1 x g = true) : ∃ q, g = ⟨.Name (nm x) q, g.iter, g.ifs, 0⟩ := by
  obtain ⟨t, it, ifs, a⟩ := g
  obtain ⟨p, hp⟩ := dName_eq (e := t) (an2 h).1
  exact ⟨p, by show Comprehension.mk t it ifs a = _; rw [hp, (eq_of_beq (an2 h).2 : a = 0)]⟩
theorem inv_none (h : chkE sc .none e = true) : ∃ k p, e = .Constant .none k p := by
  obtain ⟨c, _, h⟩ := any_some (show ((dConst e).any fun c => dNoneC c.1) = true from h)
  rw [← dNoneC_eq h]
  exact c.2
theorem inv_bool {b : Bool} (h : chkE sc (.bool b) e = true) : ∃ k p, e = .Constant (.bool b) k p := by
  obtain ⟨c, _, h⟩ := any_some (show ((dConst e).any fun c => decide (dBoolC c.1 = some b)) = true from h)
  rw [← dBoolC_eq (of_decide_eq_true h)]
  exact c.2
theorem inv_int {i : Int} (h : chkE sc (.int i) e = true) : ∃ k p, e = .Constant (.int i) k p := by
  obtain ⟨c, _, h⟩ := any_some (show ((dConst e).any fun c => decide (dIntC c.1 = some i)) = true from h)
  rw [← dIntC_eq (of_decide_eq_true h)]
  exact c.2
theorem inv_var {x : Nat} (h : chkE sc (.var x) e = true) : x < nv ∧ ∃ p, e = .Name (nm x) p :=
  let h' : (decide (x < nv) && (dName e).any fun n => n.1 == nm x) = true := h
  ⟨of_decide_eq_true (an2 h').1, dName_eq (an2 h').2⟩
theorem inv_glob {x : Nat} (h : chkE sc (.glob x) e = true) : sc.names.lookup (glm x) = some .globalImplicit ∧ ∃ p, e = .Name (glm x) p :=
  let h' : (((dName e).any fun n => n.1 == glm x) && sc.names.lookup (glm x) == some .globalImplicit) = true := h
  ⟨eq_of_beq (an2 h').2, dName_eq (an2 h').1⟩
theorem inv_bin {op : Operator} {l r : PE} (h : chkE sc (.bin op l r) e = true) : ∃ l' r' p, e = .BinOp l' op r' p ∧ chkE sc l l' = true ∧ chkE sc r r' = true := by
  obtain ⟨q, _, h⟩ := any_some (show ((dBin e).any fun q => op == q.1.2.1 && chkE sc l q.1.1 && chkE sc r q.1.2.2) = true from h)
  obtain ⟨p, hq⟩ := q.2
  have i := an2 (an2 h).1
  exact ⟨_, _, p, by rw [eq_of_beq i.1]; exact hq, i.2, (an2 h).2⟩
theorem inv_neg {x : PE} (h : chkE sc (.neg x) e = true) : ∃ x' p, e = .UnaryOp .USub x' p ∧ chkE sc x x' = true := by
  obtain ⟨q, _, h⟩ := any_some (show ((dUn e).any fun q => q.1.1 == .USub && chkE sc x q.1.2) = true from h)
  obtain ⟨p, hq⟩ := q.2
  exact ⟨_, p, by rw [← eq_of_beq (an2 h).1]; exact hq, (an2 h).2⟩
theorem inv_not {x : PE} (h : chkE sc (.not x) e = true) : ∃ x' p, e = .UnaryOp .Not x' p ∧ chkE sc x x' = true := by
  obtain ⟨q, _, h⟩ := any_some (show ((dUn e).any fun q => q.1.1 == .Not && chkE sc x q.1.2) = true from h)
  obtain ⟨p, hq⟩ := q.2
  exact ⟨_, p, by rw [← eq_of_beq (an2 h).1]; exact hq, (an2 h).2⟩
theorem inv_and {xs : PEs} (h : chkE sc (.and xs) e = true) : ∃ xs' p, e = .BoolOp .And xs' p ∧ chkEs sc xs xs' = true := by
  obtain ⟨q, _, h⟩ := any_some (show ((dBoolOp e).any fun q => q.1.1 == .And && chkEs sc xs q.1.2) = true from h)
  obtain ⟨p, hq⟩ := q.2
  exact ⟨_, p, by rw [← eq_of_beq (an2 h).1]; exact hq, (an2 h).2⟩
theorem inv_or {xs : PEs} (h : chkE sc (.or xs) e = true) : ∃ xs' p, e = .BoolOp .Or xs' p ∧ chkEs sc xs xs' = true := by
  obtain ⟨q, _, h⟩ := any_some (show ((dBoolOp e).any fun q => q.1.1 == .Or && chkEs sc xs q.1.2) = true from h)
  obtain ⟨p, hq⟩ := q.2
  exact ⟨_, p, by rw [← eq_of_beq (an2 h).1]; exact hq, (an2 h).2⟩
theorem inv_ite {t b o : PE} (h : chkE sc (.ite t b o) e = true) : ∃ t' b' o' p, e = .IfExp t' b' o' p ∧ chkE sc t t' = true ∧ chkE sc b b' = true ∧ chkE sc o o' = true := by
  obtain ⟨q, _, h⟩ := any_some (show ((dIf e).any fun q => chkE sc t q.1.1 && chkE sc b q.1.2.1 && chkE sc o q.1.2.2) = true from h)
  obtain ⟨p, hq⟩ := q.2
  have i := an2 (an2 h).1
  exact ⟨_, _, _, p, hq, i.1, i.2, (an2 h).2⟩
theorem inv_tup {es : PEs} (h : chkE sc (.tup es) e = true) : ∃ es' k p, e = .Tuple es' k p ∧ chkEs sc es es' = true := by
  obtain ⟨q, _, h⟩ := any_some (show ((dTup e).any fun q => chkEs sc es q.1) = true from h)
  obtain ⟨k, p, hq⟩ := q.2
  exact ⟨_, k, p, hq, h⟩
theorem inv_list {es : PEs} (h : chkE sc (.list es) e = true) : ∃ es' p, e = .List es' p ∧ chkEs sc es es' = true := by
  obtain ⟨q, _, h⟩ := any_some (show ((dList e).any fun q => chkEs sc es q.1) = true from h)
  obtain ⟨p, hq⟩ := q.2
  exact ⟨_, p, hq, h⟩
theorem inv_cmp {l : PE} {ops : List CmpOp} {rs : PEs} (h : chkE sc (.cmp l ops rs) e = true) : ∃ l' rs' p, e = .Compare l' ops rs' p ∧ chkE sc l l' = true ∧ chkEs sc rs rs' = true ∧ lastMarks ops rs' = false := by
  obtain ⟨q, _, h⟩ := any_some (show ((dCmp e).any fun q => ops == q.1.2.1 && chkE sc l q.1.1 && chkEs sc rs q.1.2.2 && !lastMarks ops q.1.2.2) = true from h)
  obtain ⟨p, hq⟩ := q.2
  have i := an2 (an2 h).1
  have j := an2 i.1
  exact ⟨_, _, p, by rw [eq_of_beq j.1]; exact hq, j.2, i.2, not_tf (an2 h).2⟩
theorem inv_sub {v i : PE} (h : chkE sc (.sub v i) e = true) : ∃ v' i' p, e = .Subscript v' i' p ∧ chkE sc v v' = true ∧ chkE sc i i' = true ∧ isSlice i' = false := by
  obtain ⟨q, _, h⟩ := any_some (show ((dSub e).any fun q => chkE sc v q.1.1 && chkE sc i q.1.2 && !isSlice q.1.2) = true from h)
  obtain ⟨p, hq⟩ := q.2
  have i := an2 (an2 h).1
  exact ⟨_, _, p, hq, i.1, i.2, not_tf (an2 h).2⟩
theorem inv_cutS {k : Nat} (h : ((dSlice e).any fun u => u.1.1.isNone && u.1.2.2.isNone && u.1.2.1.any fun c => (dConst c).any fun c => decide (dIntC c.1 = some (k : Int))) = true) : ∃ a b q, e = .Slice Option.none (some (.Constant (.int k) a b)) Option.none q := by
  obtain ⟨u, _, h⟩ := any_some h
  obtain ⟨q, hu⟩ := u.2
  have i := an2 (an2 h).1
  obtain ⟨m, hm, h⟩ := any_some (an2 h).2
  obtain ⟨c, _, h⟩ := any_some h
  obtain ⟨a, b, hc⟩ := c.2
  exact ⟨a, b, q, hu.trans (by rw [hm, hc, no_eq i.1, no_eq i.2, dIntC_eq (of_decide_eq_true h)])⟩
theorem inv_cut {v : PE} {k : Nat} (h : chkE sc (.cut v k) e = true) : ∃ n z a b q p, e = .Subscript (.Name n z) (.Slice Option.none (some (.Constant (.int k) a b)) Option.none q) p ∧ chkE sc v (.Name n z) = true := by
  obtain ⟨q, _, h⟩ := any_some (show ((dSub e).any fun q => chkE sc v q.1.1 && (dName q.1.1).isSome && (dSlice q.1.2).any fun u => u.1.1.isNone && u.1.2.2.isNone && u.1.2.1.any fun c => (dConst c).any fun c => decide (dIntC c.1 = some (k : Int))) = true from h)
  obtain ⟨p, hq⟩ := q.2
  have i := an2 (an2 h).1
  obtain ⟨n, z, hn⟩ := isName_eq i.2
  obtain ⟨a, b, y, hs⟩ := inv_cutS (an2 h).2
  exact ⟨n, z, a, b, y, p, hq.trans (by rw [hn, hs]), by rw [← hn]; exact i.1⟩
theorem inv_attr {v : PE} {a : Nat} (h : chkE sc (.attr v a) e = true) : ∃ x q p, e = .Attribute (.Name x q) (fldm a) p ∧ a < 4 ∧ chkE sc v (.Name x q) = true := by
  obtain ⟨q, _, h⟩ := any_some (show ((dAttr e).any fun q => q.1.2.1 == fldm a && decide (a < 4) && chkE sc v q.1.1 && (dName q.1.1).isSome) = true from h)
  have i := an2 (an2 h).1
  have j := an2 i.1
  obtain ⟨x, z, hx⟩ := isName_eq (an2 h).2
  exact ⟨x, z, _, q.2.trans (by rw [hx, eq_of_beq j.1]), of_decide_eq_true j.2, by rw [← hx]; exact i.2⟩
theorem inv_call {f : Nat} {args : PEs} (h : chkE sc (.call f args) e = true) : ∃ q args' p, e = .Call (.Name (fnm f) q) args' [] p ∧ sc.names.lookup (fnm f) = some .globalImplicit ∧ (isGl f || isBl f) = true ∧ chkEs sc args args' = true := by
  obtain ⟨q, _, h⟩ := any_some (show ((dCall e).any fun q => ((dName q.1.1).any fun n => n.1 == fnm f) && (isGl f || isBl f) && sc.names.lookup (fnm f) == some .globalImplicit && q.1.2.2.1.isEmpty && chkEs sc args q.1.2.1) = true from h)
  have i := an2 (an2 h).1
  have j := an2 i.1
  obtain ⟨z, hz⟩ := dName_eq (an2 j.1).1
  exact ⟨z, _, _, q.2.trans (by rw [hz, emp_eq i.2]), eq_of_beq j.2, (an2 j.1).2, (an2 h).2⟩
theorem inv_methA {f : Nat} {o : PE} {args : PEs} {q : Expr × List Expr × List Keyword × Pos} (h : ((dAttr q.1).any fun u => u.1.2.1 == fnm f && isMe f && chkE sc o u.1.1 && (dName u.1.1).isSome && q.2.2.1.isEmpty && chkEs sc args q.2.1 && u.1.2.2.endLine == q.2.2.2.line && decide (q.2.1.length < 20)) = true) : ∃ x z apos, q.1 = .Attribute (.Name x z) (fnm f) apos ∧ q.2.2.1 = [] ∧ isMe f = true ∧ chkE sc o (.Name x z) = true ∧ chkEs sc args q.2.1 = true ∧
    (apos.endLine == q.2.2.2.line) = true ∧ q.2.1.length < 20 := by
  obtain ⟨u, _, h⟩ := any_some h
  have h6 := an2 (an2 h).1
  have h5 := an2 h6.1
  have h4 := an2 h5.1
  have h3 := an2 h4.1
  have h2 := an2 h3.1
  obtain ⟨x, z, hx⟩ := isName_eq h3.2
  exact ⟨x, z, _, u.2.trans (by rw [hx, eq_of_beq (an2 h2.1).1]), emp_eq h4.2, (an2 h2.1).2, by rw [← hx]; exact h2.2, h5.2, h6.2, of_decide_eq_true (an2 h).2⟩
theorem inv_meth {f : Nat} {o : PE} {args : PEs} (h : chkE sc (.meth f o args) e = true) : ∃ x q apos args' p, e = .Call (.Attribute (.Name x q) (fnm f) apos) args' [] p ∧ isMe f = true ∧ chkE sc o (.Name x q) = true ∧ chkEs sc args args' = true ∧
    (apos.endLine == p.line) = true ∧ args'.length < 20 := by
  obtain ⟨q, _, h⟩ := any_some (show ((dCall e).any fun q => (dAttr q.1.1).any fun u => u.1.2.1 == fnm f && isMe f && chkE sc o u.1.1 && (dName u.1.1).isSome && q.1.2.2.1.isEmpty && chkEs sc args q.1.2.1 && u.1.2.2.endLine == q.1.2.2.2.line && decide (q.1.2.1.length < 20)) = true from h)
  obtain ⟨x, z, ap, hc, hk, r⟩ := inv_methA h
  exact ⟨x, z, ap, _, _, q.2.trans (by rw [hc, hk]), r⟩
theorem inv_comp1 {caps : List Nat} {x : Nat} {it : PI} {c : PEs} {elt : PE} (h : chkE sc (.comp1 caps x it c elt) e = true) : ∃ elt' q it' ifs' sc' p, e = .ListComp elt' [⟨.Name (nm x) q, it', ifs', 0⟩] sc' p ∧
    compSc sc sc' caps = true ∧ scLocal sc' x = true ∧ chkI sc it it' = true ∧ chkEs sc' c ifs' = true ∧ chkE sc' elt elt' = true := by
  obtain ⟨q, _, h⟩ := any_some (show ((dComp e).any fun q => (d1 q.1.2.1).any fun g => gen1 x g && compSc sc q.1.2.2 caps && scLocal q.1.2.2 x && chkI sc it g.iter && chkEs q.1.2.2 c g.ifs && chkE q.1.2.2 elt q.1.1) = true from h)
  obtain ⟨p, hq⟩ := q.2
  obtain ⟨g, hg, h⟩ := any_some h
  have h4 := an2 (an2 h).1
  have h3 := an2 h4.1
  have h2 := an2 h3.1
  have h1 := an2 h2.1
  obtain ⟨z, hz⟩ := gen1_eq h1.1
  exact ⟨_, z, g.iter, g.ifs, _, p, hq.trans (by rw [d1_eq hg, ← hz]), h1.2, h2.2, h3.2, h4.2, (an2 h).2⟩
theorem inv_comp2 {caps : List Nat} {x y : Nat} {it : PI} {it2 elt : PE} (h : chkE sc (.comp2 caps x it y it2 elt) e = true) : ∃ elt' q it' q2 it2' sc' p, e = .ListComp elt' [⟨.Name (nm x) q, it', [], 0⟩, ⟨.Name (nm y) q2, it2', [], 0⟩] sc' p ∧
    x ≠ y ∧ compSc sc sc' caps = true ∧ scLocal sc' x = true ∧ scLocal sc' y = true ∧ chkI sc it it' = true ∧ chkE sc' it2 it2' = true ∧ isSet it2' = false ∧ chkE sc' elt elt' = true := by
  obtain ⟨q, _, h⟩ := any_some (show ((dComp e).any fun q => (d2 q.1.2.1).any fun g => gen1 x g.1 && gen1 y g.2 && g.1.ifs.isEmpty && g.2.ifs.isEmpty && x != y && compSc sc q.1.2.2 caps && scLocal q.1.2.2 x && scLocal q.1.2.2 y && chkI sc it g.1.iter && chkE q.1.2.2 it2 g.2.iter && !isSet g.2.iter && chkE q.1.2.2 elt q.1.1) = true from h)
  obtain ⟨p, hq⟩ := q.2
  obtain ⟨g, hg, h⟩ := any_some h
  have k9 := an2 (an2 h).1
  have k8 := an2 k9.1
  have k7 := an2 k8.1
  have k6 := an2 k7.1
  have k5 := an2 k6.1
  have k4 := an2 k5.1
  have k3 := an2 k4.1
  have k2 := an2 k3.1
  have k1 := an2 k2.1
  have k0 := an2 k1.1
  obtain ⟨z, hz⟩ := gen1_eq k0.1
  obtain ⟨z2, hz2⟩ := gen1_eq k0.2
  rw [emp_eq k1.2] at hz
  rw [emp_eq k2.2] at hz2
  exact ⟨_, z, _, z2, _, _, p, hq.trans (by rw [d2_eq hg, ← hz, ← hz2]), bne_iff_ne.mp k3.2, k4.2, k5.2, k6.2, k7.2, k8.2, not_tf k9.2, (an2 h).2⟩
theorem inv_rng1 {b : PE} (h : chkI sc (.rng1 b) e = true) : ∃ q b' p, e = .Call (.Name rangeName q) [b'] [] p ∧ sc.names.lookup rangeName = some .globalImplicit ∧ chkE sc b b' = true ∧ isStar b' = false := by
  obtain ⟨q, _, h⟩ := any_some (show ((dCall e).any fun q => ((dName q.1.1).any fun n => n.1 == rangeName) && q.1.2.2.1.isEmpty && sc.names.lookup rangeName == some .globalImplicit && (d1 q.1.2.1).any fun b' => chkE sc b b' && !isStar b') = true from h)
  have i := an2 (an2 h).1
  obtain ⟨b', hb, h3⟩ := any_some (an2 h).2
  obtain ⟨z, hz⟩ := dName_eq (an2 i.1).1
  exact ⟨z, b', _, q.2.trans (by rw [hz, emp_eq (an2 i.1).2, d1_eq hb]), eq_of_beq i.2, (an2 h3).1, not_tf (an2 h3).2⟩
theorem inv_rng2 {a b : PE} (h : chkI sc (.rng2 a b) e = true) : ∃ q a' b' p, e = .Call (.Name rangeName q) [a', b'] [] p ∧ sc.names.lookup rangeName = some .globalImplicit ∧ chkE sc a a' = true ∧ chkE sc b b' = true ∧ isStar a' = false ∧ isStar b' = false := by
  obtain ⟨q, _, h⟩ := any_some (show ((dCall e).any fun q => ((dName q.1.1).any fun n => n.1 == rangeName) && q.1.2.2.1.isEmpty && sc.names.lookup rangeName == some .globalImplicit && (d2 q.1.2.1).any fun g => chkE sc a g.1 && chkE sc b g.2 && !isStar g.1 && !isStar g.2) = true from h)
  have i := an2 (an2 h).1
  obtain ⟨u, hb, h3⟩ := any_some (an2 h).2
  obtain ⟨z, hz⟩ := dName_eq (an2 i.1).1
  have j := an2 (an2 h3).1
  exact ⟨z, u.1, u.2, _, q.2.trans (by rw [hz, emp_eq (an2 i.1).2, d2_eq hb]), eq_of_beq i.2, (an2 j.1).1, (an2 j.1).2, not_tf j.2, not_tf (an2 h3).2⟩
theorem inv_seq {a : PE} (h : chkI sc (.seq a) e = true) : chkE sc a e = true ∧ isSet e = false :=
  let h' : (chkE sc a e && !isSet e) = true := h
  ⟨(an2 h').1, not_tf (an2 h').2⟩
theorem inv_nil {es : List Expr} (h : chkEs sc .nil es = true) : es = [] := emp_eq h
theorem inv_cons {a : PE} {r : PEs} {es : List Expr} (h : chkEs sc (.cons a r) es = true) : ∃ e' r', es = e' :: r' ∧ chkE sc a e' = true ∧ isStar e' = false ∧ chkEs sc r r' = true := by
  cases es with
  | nil => cases (h : false = true)
  | cons e' r' =>
    replace h : (chkE sc a e' && !isStar e' && chkEs sc r r') = true := h
    exact ⟨_, _, rfl, (an2 (an2 h).1).1, not_tf (an2 (an2 h).1).2, (an2 h).2⟩
theorem starEach_plain {env : Env} {e : Expr} {r : List Expr} (h : isStar e = false) : starEach (e :: r) env = (false, eval e env) :: starEach r env := by
  cases e <;> first | rfl | cases h
theorem stars_plain {env : Env} : ∀ {ps : PEs} {es : List Expr}, chkEs sc ps es = true → (starEach es env).any (·.1) = false
  | .nil, _, h => by rw [inv_nil h]; rfl
  | .cons a r, _, h => by
    obtain ⟨e', r', rfl, h1, h2, h3⟩ := inv_cons h
    rw [starEach_plain h2]
    simp only [List.any_cons, Bool.false_or]
    exact stars_plain h3
theorem backTo_any {pos : Pos} (l : List (Bool × Sem Value)) : (backTo pos l).any (·.1) = l.any (·.1) := by
  unfold backTo
  rw [List.any_map]
  rfl
end
end Mine
set_option maxRecDepth 100000
namespace Mine
open PySem PySem.W PyProof.Rows PySem.Calls
section
variable {prog : Program} {w : World} {A : Around} {C : Addr} {h₀ : Heap} {g g' : Gh} {ρ ρ' : List Addr} {st : St} {s : Shared} {E : Value → Shared → Prop}

theorem Post.after {Q : AV → St → Prop} {v : Value} {s' : Shared} {h' : Heap} {tk : Nat} (S : Step [] g ρ s.heap g' ρ' h') (P : Post C h₀ g' ρ' { s with heap := h', toks := tk } Q v s') : Post C h₀ g ρ s Q v s' := by
  obtain ⟨h2, tk2, g2, ρ2, st2, d, e, S2, R2, hv, hq⟩ := P
  exact ⟨h2, tk2, g2, ρ2, st2, d, by rw [e], S.trans S2, R2, hv, hq⟩
theorem PostL.after {Q : List AV → St → Prop} {v : List Value} {s' : Shared} {h' : Heap} {tk : Nat} (S : Step [] g ρ s.heap g' ρ' h') (P : PostL C h₀ g' ρ' { s with heap := h', toks := tk } Q v s') : PostL C h₀ g ρ s Q v s' := by
  obtain ⟨h2, tk2, g2, ρ2, st2, d, e, S2, R2, hv, hq⟩ := P
  exact ⟨h2, tk2, g2, ρ2, st2, d, by rw [e], S.trans S2, R2, hv, hq⟩
theorem PostB.after {Q : Bool → St → Prop} {v : Bool} {s' : Shared} {h' : Heap} {tk : Nat} (S : Step [] g ρ s.heap g' ρ' h') (P : PostB C h₀ g' ρ' { s with heap := h', toks := tk } Q v s') : PostB C h₀ g ρ s Q v s' := by
  obtain ⟨h2, tk2, g2, ρ2, st2, e, S2, R2, hq⟩ := P
  exact ⟨h2, tk2, g2, ρ2, st2, by rw [e], S.trans S2, R2, hq⟩

theorem place_seq {k : Int} {n j : Nat} (h : place k n = some j) : seqIndex? k n = some j ∧ -(2 ^ 63) ≤ k ∧ k < 2 ^ 63 := by
  unfold place at h
  split at h
  · cases h
  · rename_i hk
    refine ⟨?_, by omega, by omega⟩
    unfold seqIndex?
    split at h
    · rename_i h0
      split at h
      · rename_i h1
        cases h
        have : ¬ (k < 0) := by omega
        simp [this, h0, h1]
      · cases h
    · rename_i h0
      split at h
      · rename_i h1
        cases h
        have : k < 0 := by omega
        have h2 : k + n < n := by omega
        simp [this, h1, h2]
      · cases h

theorem subTail {value slice : Expr} {o i : Value} {T id : String} {Q : Value → Shared → Prop} (hT : s.TypeIs o T) (hl : typeLookup (.type T) "__getitem__" = pure (some (.builtin id))) (hs : isSlice slice = false)
    (h : wpAny (model prog w) A (getItem o i) Q E s) : wpAny (model prog w) A (subscriptTail value slice o i) Q E s := by
  unfold subscriptTail
  refine wpAny_bind ?_
  rw [getitemInPython_of_ne hT.not_modules]
  refine wpAny_bind (wpAny_specialOf hT hl ?_)
  have e : subscripted slice false o i = operate [o, i] (getItem o i) := by cases slice <;> first | rfl | cases hs
  have fin : wpAny (model prog w) A (subscripted slice false o i) (fun r s₃ => wpAny (model prog w) A (letTemporaryGo value o r >>= fun _ => pure r) Q E s₃) E s := by
    rw [e]
    exact wpAny_operating (wpAny_mono h (fun r s₃ h₃ => wpAny_bind (wpAny_letTemporaryGo (wpAny_pure h₃))) fun _ _ x => x)
  first
    | exact wpAny_pure (wpAny_bind fin)
    | exact wpAny_bind (wpAny_pure (wpAny_bind fin))
    | exact wpAny_bind fin

theorem subSound {value slice : Expr} {a b : AV} {Q : AV → St → Prop} {va vb : Value} (hsl : isSlice slice = false) (h : subW a b st Q) (R : Rel C h₀ g ρ st s.heap) (ha : VR C g ρ a va) (hb : VR C g ρ b vb) :
    wpAny (model prog w) A (subscriptTail value slice va vb) (Post C h₀ g ρ s Q) NoE s := by
  unfold subW at h
  split at h
  · rename_i l k
    obtain ⟨x, vs, rfl, ht, hv⟩ := ha
    obtain ⟨u, rfl⟩ := hb
    split at h
    · rename_i j hj
      split at h
      · rename_i d hd
        obtain ⟨v, hv1, hv2⟩ := hv.get hd
        have T := ht.isTup R
        obtain ⟨p1, p2, p3⟩ := place_seq hj
        refine subTail T.typeIs slot_tuple_getitem.lookup hsl (getItem_tuple T p2 p3 (by simp only [List.size_toArray]; rw [hv.length]; exact p1) (by simpa using hv1) (Post.nowT R hv2 h))
      · exact h.elim
    · exact h.elim
  · rename_i i k
    obtain ⟨x, hx, rfl⟩ := ha
    obtain ⟨u, rfl⟩ := hb
    split at h
    · rename_i l hl
      split at h
      · rename_i j hj
        split at h
        · rename_i d hd
          obtain ⟨x', vs, hx', hp, hv⟩ := R.lists i l hl
          rw [hx] at hx'; cases hx'
          obtain ⟨v, hv1, hv2⟩ := hv.get hd
          have T := hp.isList
          obtain ⟨p1, p2, p3⟩ := place_seq hj
          have hlen := hv.length
          refine subTail T.typeIs slot_list_getitem.lookup hsl ?_
          unfold place at hj
          split at hj
          · cases hj
          · split at hj
            · rename_i h0
              split at hj
              · cases hj
                exact wpAny_getItem_list T h0 p3 (by simpa using hv1) (Post.nowT R hv2 h)
              · cases hj
            · rename_i h0
              split at hj
              · rename_i h1
                cases hj
                refine wpAny_getItem_list_neg T (by omega) (by simp only [List.size_toArray]; rw [hlen]; omega) p2 (by simp only [List.size_toArray]; rw [hlen]; simpa using hv1) (Post.nowT R hv2 h)
              · cases hj
        · exact h.elim
      · exact h.elim
    · exact h.elim
  · exact h.elim

theorem newTupS {ds : List AV} {vs : List Value} {Q : AV → St → Prop} (R : Rel C h₀ g ρ st s.heap) (hv : VRs C g ρ ds vs) (hn : ds.length ≤ 1000) (h : Q (.tup ds) st) : wpAny (model prog w) A (newTuple vs) (Post C h₀ g ρ s Q) NoE s := by
  refine wpAny_newObj_type ?_ (by show vs.toArray.size ≤ sizeLine; rw [List.size_toArray, hv.length, sizeLine_eq]; omega)
  obtain ⟨R', S⟩ := R.put (push_keep s.heap _) (push_new s.heap) (a := s.heap.objs.size) (o := { cls := .type "tuple", data := .seq vs.toArray }) (Heap.get?_push_size _ rfl)
  refine ⟨_, _, _, ρ, st, .tup ds, rfl, S [], R', ⟨_, vs, rfl, ⟨_, by unfold gput; rw [if_pos rfl], rfl, 0, rfl⟩, hv.step (S [])⟩, h⟩
theorem newListS {ds : List AV} {vs : List Value} {Q : AV → St → Prop} (R : Rel C h₀ g ρ st s.heap) (hv : VRs C g ρ ds vs) (hn : ds.length ≤ 1000) (h : Q (.lst st.length) (st ++ [ds])) : wpAny (model prog w) A (newList vs) (Post C h₀ g ρ s Q) NoE s := by
  refine wpAny_newObj_type ?_ (by show vs.toArray.size ≤ sizeLine; rw [List.size_toArray, hv.length, sizeLine_eq]; omega)
  obtain ⟨R', S⟩ := R.more (push_keep s.heap _) (push_new s.heap) (a := s.heap.objs.size) (h' := s.heap.push { cls := .type "list", data := .seq vs.toArray }) ⟨0, Heap.get?_push_size _ rfl⟩ hv
  exact ⟨_, _, g, _, _, .lst st.length, rfl, S [], R', ⟨_, by rw [← R.len]; simp, rfl⟩, h⟩

/-- append -/
theorem appendS {a d : AV} {va vd : Value} {Q : St → Prop} {P : Value → Shared → Prop} (h : appendW a d st Q) (R : Rel C h₀ g ρ st s.heap) (ha : VR C g ρ a va) (hd : VR C g ρ d vd)
    (hP : ∀ h' st', Rel C h₀ g ρ st' h' → (∀ own, Step own g ρ s.heap g ρ h') → Q st' → P .none { s with heap := h' }) :
    ∃ x, va = .ref x ∧ x ∈ ρ ∧ wpAny (model prog w) A (call (.builtin "list.append") [.ref x, vd]) P E s := by
  unfold appendW at h
  split at h
  · rename_i k
    split at h
    · rename_i l hl
      obtain ⟨x, hx, rfl⟩ := ha
      obtain ⟨x', vs, hx', hp, hv⟩ := R.lists k l hl
      rw [hx] at hx'; cases hx'
      refine ⟨x, rfl, List.mem_of_getElem? hx, wpAny_list_append_plain hp (fun h' hp' hs => ?_) (by rw [List.size_toArray, hv.length, sizeLine_eq]; omega)⟩
      have e : vs.toArray.push vd = (vs ++ [vd]).toArray := by simp
      rw [e] at hp'
      obtain ⟨R', S⟩ := R.turn hs hx hp' (hv.append (es := [d]) (us := [vd]) ⟨vd, [], rfl, hd, rfl⟩)
      exact hP h' _ R' S h.2
    · exact h.elim
  · exact h.elim

theorem setItem_plain {l : Addr} {items : Array Value} {k : Int} {t : Tok} {v : Value} {Q : Unit → Shared → Prop} (hl : s.heap.PlainList l items)
    (h0 : 0 ≤ k) (hfit : k < 2 ^ 63) (hn : k < items.size)
    (hQ : ∀ h', h'.PlainList l (items.setIfInBounds k.toNat v) → Heap.SameBut l s.heap h' → Q () { s with heap := h' }) :
    wpAny (model prog w) A (setItem (.ref l) (.int k t) v) Q E s := by
  obtain ⟨ne, ho⟩ := id hl
  have hl' := hl.isList
  unfold setItem
  try with_reducible refine wpAny_holding ?_
  first | refine wpAny_bind (wpAny_pure ?_) | skip
  refine wpAny_bind (wpAny_sequenceKey hl'.typeIs (by decide) ?_)
  refine wpAny_bind (wpAny_callSpecial?_slot (name := Str.ofString "__setitem__") hl'.typeIs slot_list_setitem
    (wpAny_call_entry slot_list_setitem hl'.typeIs entry_list_setitem ?_ (args_list_setitem _ _ _)))
  show wpAny _ _ (Builtin.List.listSubscript? (.int k t) >>= _) _ _ s
  refine wpAny_bind (wpAny_listSubscript_int (fitsIndex_of h0 hfit) ?_)
  clear hfit
  obtain ⟨j, rfl⟩ := Int.eq_ofNat_of_zero_le h0
  have hj : j < items.size := by omega
  have hx' : items[j]? = some items[j] := Array.getElem?_eq_getElem hj
  show wpAny _ _ ((seqItemAt l j >>= fun r => pure (r.map (j, ·))) >>= _) _ _ s
  refine wpAny_bind (wpAny_bind (wpAny_seqItemAt ho rfl (wpAny_pure ?_)))
  rw [hx']
  show wpAny _ _ (setSeqItemAt l j v >>= _) _ _ s
  have hfin : (s.heap.update l (Obj.mapSeq (·.setIfInBounds j v))).PlainList l (items.setIfInBounds j v) :=
    ⟨ne, by rw [Heap.get?_update_self _ ho (by simp [Obj.mapSeq]; rfl)]; simp [Obj.mapSeq]⟩
  refine wpAny_bind (wpAny_setSeqItemAt ho rfl ?_)
  first
    | exact wpAny_bind (wpAny_pure (wpAny_pure ⟨.none, rfl, wpAny_pure (hQ _ hfin (Heap.SameBut.update ..))⟩))
    | exact wpAny_pure ⟨.none, rfl, wpAny_pure (hQ _ hfin (Heap.SameBut.update ..))⟩
end
end Mine
set_option maxRecDepth 100000
namespace Mine
open PySem PySem.W PyProof.Rows PySem.Calls

noncomputable def ItAt (ρ : List Addr) (items : List AV) (src : Option Nat) (i : Nat) (it : Addr) (h : Heap) : Prop :=
  match src with
  | Option.none => ∃ a b : Int, items = rangeItems a b ∧ IsRangeIter h it (a + (i : Int)) (((b - a).toNat : Int) - (i : Int)) 1
  | some k => ∃ l, ρ[k]? = some l ∧ h.IsListIter it l i

section
variable {prog : Program} {w : World} {A : Around} {C : Addr} {h₀ : Heap} {g g' : Gh} {ρ ρ' : List Addr} {st : St} {s : Shared} {E : Value → Shared → Prop} {items : List AV} {src : Option Nat} {i : Nat} {it : Addr} {h h' : Heap} {env : Env}

theorem ItAt.obj (x : ItAt ρ items src i it h) : ∃ o vs, h.get? it = some o ∧ o.data = .fields vs := by
  unfold ItAt at x
  split at x
  · obtain ⟨a, b, _, e⟩ := x; exact ⟨_, _, e, rfl⟩
  · obtain ⟨l, _, o, ho, _, hd⟩ := x; exact ⟨o, _, ho, hd⟩
theorem ItAt.keep (x : ItAt ρ items src i it h) (hk : ∀ o, h.get? it = some o → h'.get? it = some o) (P : ∃ r, ρ' = ρ ++ r) : ItAt ρ' items src i it h' := by
  unfold ItAt at *
  split at x
  · obtain ⟨a, b, e, q⟩ := x; exact ⟨a, b, e, hk _ q⟩
  · obtain ⟨l, hl, o, ho, r⟩ := x
    obtain ⟨r', e⟩ := P
    exact ⟨l, by rw [e]; exact getElem?_prefix hl, o, hk o ho, r⟩
theorem ItAt.off (x : ItAt ρ items src i it h) (R : Rel C h₀ g ρ st h) : it ∉ ρ := fun hm => by
  obtain ⟨its, n, e⟩ := R.at hm
  obtain ⟨o, vs, ho, hd⟩ := x.obj
  rw [e] at ho; cases ho; cases hd
theorem ItAt.own (x : ItAt ρ items src i it h) (F : FR g env h) : it ∉ ownA env := fun hm => by
  obtain ⟨o, vs, ho, hd⟩ := x.obj
  rcases List.mem_cons.mp hm with q | q
  · obtain ⟨m, o', es, ep, ho', hd', _⟩ := F.ns
    rw [← q, ho] at ho'; cases ho'; rw [hd] at hd'; cases hd'
  · obtain ⟨⟨n, c⟩, hc, rfl⟩ := List.mem_map.mp q
    have hlk : ∃ c', env.cells.lookup n = some c' := by
      cases e : env.cells.lookup n with
      | some c' => exact ⟨c', rfl⟩
      | none =>
        have := List.lookup_eq_none_iff.mp e
        have h2 := this (n, c) hc
        simp at h2
    obtain ⟨c', hc'⟩ := hlk
    have hcc : c' = c ∨ c' ≠ c := Classical.em _
    rcases hcc with rfl | hne
    · obtain ⟨⟨v, o', ho', hd'⟩, _⟩ := F.cell n _ hc'
      have ho2 : h.get? c' = some o := ho
      rw [ho2] at ho'; cases ho'; rw [hd] at hd'; cases hd'
    · exact absurd rfl fun (_ : n = n) => by
        have := F.nodup
        exact hne (this n c' c (mem_of_lookup hc') hc)
theorem ItAt.step {own : List Addr} (x : ItAt ρ items src i it h) (R : Rel C h₀ g ρ st h) (ho : it ∉ own) (S : Step own g ρ h g' ρ' h') : ItAt ρ' items src i it h' :=
  x.keep (fun o e => S.keep it o e (x.off R) ho) S.pre

theorem rangeItems_get {a b : Int} (n : Nat) : (rangeItems a b)[n]? = if n < (b - a).toNat then some (.int (a + (n : Int))) else Option.none := by
  unfold rangeItems
  rw [List.getElem?_map]
  by_cases hn : n < (b - a).toNat
  · rw [if_pos hn, List.getElem?_range hn]; rfl
  · rw [if_neg hn, List.getElem?_eq_none (by simp; omega)]; rfl

theorem rangeSize_eq (a b : Int) : Builtin.Range.rangeSize a b 1 = ((b - a).toNat : Int) := by
  unfold Builtin.Range.rangeSize
  simp only [show (1 : Int) > 0 by decide, if_true, Int.ediv_one]
  split <;> omega
theorem rangeSmall {a b : Int} (h1 : -1000000 ≤ a) (h2 : a ≤ 1000000) (h3 : -1000000 ≤ b) (h4 : b ≤ 1000000) : Builtin.Range.small a b 1 = true := by
  unfold Builtin.Range.small
  rw [rangeSize_eq]
  unfold Builtin.Range.rangeFitsLong
  simp only [Bool.and_eq_true, Bool.or_eq_true, decide_eq_true_eq, show (1 : Int) > 0 by decide, if_true]
  refine ⟨⟨⟨⟨⟨?_, ?_⟩, ?_, ?_⟩, ?_, ?_⟩, ?_, ?_⟩, .inr ⟨?_, ?_⟩⟩ <;> omega

/-- an iterator over a range -/
theorem iterRange {r : Addr} {a b : Int} {t u v : Tok} {Q : Value → Shared → Prop} (hr : IsRange s.heap r a b 1 t u v) (h1 : -1000000 ≤ a) (h2 : a ≤ 1000000) (h3 : -1000000 ≤ b) (h4 : b ≤ 1000000)
    (hQ : ∀ it h', ItAt ρ (rangeItems a b) Option.none 0 it h' → s.heap.get? it = Option.none → (∀ b o, s.heap.get? b = some o → h'.get? b = some o) → Q (.ref it) { s with heap := h' }) : wpAny (model prog w) A (pyIter (.ref r)) Q E s := by
  refine wpAny_pyIter_range hr (rangeSmall h1 h2 h3 h4) (hQ _ _ ⟨a, b, rfl, ?_⟩ (push_new _) (push_keep _ _))
  have e : ((((b - a).toNat : Nat) : Int) - ((0 : Nat) : Int)) = Builtin.Range.rangeSize a b 1 := by rw [rangeSize_eq]; omega
  rw [e, show a + ((0 : Nat) : Int) = a by omega]
  exact Heap.get?_push_size _ rfl
theorem iterList {k : Nat} {l : Addr} {ds : List AV} {Q : Value → Shared → Prop} (R : Rel C h₀ g ρ st s.heap) (hl : ρ[k]? = some l) (hk : st[k]? = some ds)
    (hQ : ∀ it h', ItAt ρ ds (some k) 0 it h' → s.heap.get? it = Option.none → (∀ b o, s.heap.get? b = some o → h'.get? b = some o) → Q (.ref it) { s with heap := h' }) : wpAny (model prog w) A (pyIter (.ref l)) Q E s := by
  obtain ⟨l', vs, hl', hp, hv⟩ := R.lists k ds hk
  rw [hl] at hl'; cases hl'
  exact wpAny_pyIter_list hp.isList (hQ _ _ ⟨l, hl, _, Heap.get?_push_size _ rfl, rfl, rfl⟩ (push_new _) (push_keep _ _))

/-- one turn of the iterator -/
theorem nextS (hA : OkA A) {Q : Option Value → Shared → Prop} (x : ItAt ρ items src i it s.heap) (R : Rel C h₀ g ρ st s.heap) (hs : stillW src items st)
    (hQ : ∀ d v h' tk, items[i]? = some d → VR C g ρ d v → ItAt ρ items src (i + 1) it h' → Heap.SameBut it s.heap h' → Q (some v) { s with heap := h', toks := tk })
    (hE : ∀ h', items[i]? = Option.none → Heap.ExtBut it s.heap h' → Q Option.none { s with heap := h' }) : wpAny (model prog w) A (pyNext (.ref it)) Q E s := by
  unfold ItAt at x
  split at x
  · obtain ⟨a, b, rfl, q⟩ := x
    by_cases hi : i < (b - a).toNat
    · refine wpAny_pyNext_range_item q (by omega) fun h' q' hs' => hQ (.int (a + (i : Int))) _ h' _ (by rw [rangeItems_get, if_pos hi]) ⟨_, rfl⟩ ⟨a, b, rfl, ?_⟩ hs'
      have e1 : a + ((i + 1 : Nat) : Int) = a + (i : Int) + 1 := by omega
      have e2 : (((b - a).toNat : Int) - ((i + 1 : Nat) : Int)) = ((b - a).toNat : Int) - (i : Int) - 1 := by omega
      rw [e1, e2]; exact q'
    · exact wpAny_pyNext_range_end hA.handled q (by omega) fun h' he => hE h' (by rw [rangeItems_get, if_neg hi]) he
  · rename_i k
    obtain ⟨l, hl, q⟩ := x
    have hst : st[k]? = some items := hs
    obtain ⟨l', vs, hl', hp, hv⟩ := R.lists k items hst
    rw [hl] at hl'; cases hl'
    cases hi : items[i]? with
    | some d =>
      obtain ⟨v, hv1, hv2⟩ := hv.get hi
      exact wpAny_pyNext_list_item q hp.isList (by simpa using hv1) fun h' q' hs' => hQ d v h' _ hi hv2 ⟨l, hl, q'⟩ hs'
    | none =>
      refine wpAny_pyNext_list_end hA.handled q hp.isList ?_ fun h' he => hE h' hi he
      have h1 := List.getElem?_eq_none_iff.mp hi
      have h2 := hv.length
      rw [List.getElem?_toArray]
      exact List.getElem?_eq_none (by omega)

/-- the steps so far, and one more that turns the iterator alone -/
theorem Step.iter {own : List Addr} (S : Step own g ρ h g' ρ' h') {h'' : Heap} {it : Addr} (hn : h.get? it = Option.none) (hk : ∀ b o, b ≠ it → h'.get? b = some o → h''.get? b = some o) : Step own g ρ h g' ρ' h'' :=
  ⟨S.gext, S.gnew, S.ext, fun b o e hb ho => hk b o (fun q => by rw [q, hn] at e; cases e) (S.keep b o e hb ho), fun b o e => by
    obtain ⟨o', e'⟩ := S.alive b o e
    exact ⟨o', hk b o' (fun q => by rw [q, hn] at e; cases e) e'⟩⟩
theorem FR.keepBut (F : FR g env h) {it : Addr} (hit : it ∉ ownA env) (hk : ∀ b o, b ≠ it → h.get? b = some o → h'.get? b = some o) : FR g env h' where
  kind := F.kind
  glob := F.glob
  blt := F.blt
  ns := let ⟨m, hn⟩ := F.ns; ⟨m, Ns_keep hn fun o e => hk _ o (fun q => hit (q ▸ List.mem_cons_self)) e⟩
  lfree := F.lfree
  has := F.has
  cell := fun n c e => let ⟨⟨v, hv⟩, hg⟩ := F.cell n c e; ⟨⟨v, IsCell_keep hv fun o q => hk _ o (fun z => hit (z ▸ List.mem_cons_of_mem _ (List.mem_map.mpr ⟨_, mem_of_lookup e, rfl⟩))) q⟩, hg⟩
  apart := F.apart
  nodup := F.nodup
theorem VarAt.keepBut {it : Addr} (hit : it ∉ ownA env) (hk : ∀ b o, b ≠ it → h.get? b = some o → h'.get? b = some o) {x : Str} {v : Value} (a : VarAt env h x v) : VarAt env h' x v := by
  rcases a with ⟨hk', m, hn, hm⟩ | ⟨hk', c, hc, hv⟩
  · exact .inl ⟨hk', m, Ns_keep hn fun o e => hk _ o (fun q => hit (q ▸ List.mem_cons_self)) e, hm⟩
  · exact .inr ⟨hk', c, hc, IsCell_keep hv fun o q => hk _ o (fun z => hit (z ▸ List.mem_cons_of_mem _ (List.mem_map.mpr ⟨_, mem_of_lookup hc, rfl⟩))) q⟩
theorem Vars.keepBut {loc : Loc} (V : Vars C g ρ env h loc) {it : Addr} (hit : it ∉ ownA env) (hk : ∀ b o, b ≠ it → h.get? b = some o → h'.get? b = some o) : Vars C g ρ env h' loc := fun x d e =>
  let ⟨hx, v, ha, hv⟩ := V x d e; ⟨hx, v, ha.keepBut hit hk, hv⟩
theorem Step.gkeep {own : List Addr} (S : Step own g ρ h g' ρ' h') {a : Addr} {o : Obj} (hg : g a = Option.none) (ha : h.get? a = some o) : g' a = Option.none := by
  cases q : g' a with
  | none => rfl
  | some o' =>
    rcases S.gnew a o' q with q | q
    · rw [hg] at q; cases q
    · rw [ha] at q; cases q
theorem gfree_of (R : Rel C h₀ g ρ st h) {a : Addr} (ha : h.get? a = Option.none) : g a = Option.none := by
  cases q : g a with
  | none => rfl
  | some x => rw [R.base a x q] at ha; cases ha
theorem Vars.cons {loc : Loc} {x : Nat} {d : AV} (V : Vars C g ρ env h (upd loc x d)) : Vars C g ρ env h ((x, d) :: loc) := fun y e hy => by
  refine V y e ?_
  rw [look_upd]
  rw [look_cons] at hy; exact hy
theorem Vars.drop {loc : Loc} {x : Nat} {d : AV} (hx : look loc x = Option.none) (V : Vars C g ρ env h (upd loc x d)) : Vars C g ρ env h loc := fun y e hy => by
  refine V y e ?_
  rw [look_upd, if_neg (fun q => by rw [← q, hx] at hy; cases hy)]
  exact hy
/-- a frame's part that a step leaves -/
theorem FR.stepOff {own : List Addr} (F : FR g env h) (R : Rel C h₀ g ρ st h) (S : Step own g ρ h g' ρ' h') (ho : ∀ b ∈ ownA env, b ∉ own) : FR g' env h' where
  kind := F.kind
  glob := F.glob
  blt := F.blt
  ns := let ⟨m, hn⟩ := F.ns; ⟨m, Ns_keep hn fun o e => S.keep _ o e (F.locals_off R) (ho _ List.mem_cons_self)⟩
  lfree := let ⟨m, o', _, _, hob, _⟩ := F.ns; S.gkeep F.lfree hob
  has := F.has
  cell := fun n c e => by
    obtain ⟨⟨v, hv⟩, hg⟩ := F.cell n c e
    refine ⟨⟨v, IsCell_keep hv fun o q => S.keep _ o q (F.cell_off R e) (ho _ (List.mem_cons_of_mem _ (List.mem_map.mpr ⟨_, mem_of_lookup e, rfl⟩)))⟩, ?_⟩
    obtain ⟨o', hob, _⟩ := hv
    exact S.gkeep hg hob
  apart := F.apart
  nodup := F.nodup
end
end Mine
set_option maxRecDepth 100000
namespace Mine
open PySem PySem.W PyProof.Rows PySem.Calls

section
variable (prog : Program) (w : World) (A : Around) (C : Addr) (h₀ : Heap) (T : Prims)
noncomputable def Snd (pe : PE) (e : Expr) (env : Env) : Prop := ∀ (loc : Loc) (st : St) (Q : AV → St → Prop) (g : Gh) (ρ : List Addr) (s : Shared), FR g env s.heap → Vars C g ρ env s.heap loc → Rel C h₀ g ρ st s.heap →
  evalW T pe loc st Q → wpAny (model prog w) A (eval e env) (Post C h₀ g ρ s Q) NoE s
noncomputable def SndT (pe : PE) (e : Expr) (env : Env) : Prop := ∀ (loc : Loc) (st : St) (Q : Bool → St → Prop) (g : Gh) (ρ : List Addr) (s : Shared), FR g env s.heap → Vars C g ρ env s.heap loc → Rel C h₀ g ρ st s.heap →
  evalW T pe loc st (tob Q) → wpAny (model prog w) A (isTrue e env (eval e env)) (PostB C h₀ g ρ s Q) NoE s
noncomputable def SndC (c : PEs) (ifs : List Expr) (env : Env) : Prop := ∀ (loc : Loc) (st : St) (Q : Bool → St → Prop) (g : Gh) (ρ : List Addr) (s : Shared), FR g env s.heap → Vars C g ρ env s.heap loc → Rel C h₀ g ρ st s.heap →
  andW' T c loc st Q → wpAny (model prog w) A (forIn ifs true fun c r => if r = true then do let ok ← isTrue c env (eval c env); pure (ForInStep.yield ok) else pure (ForInStep.yield r)) (PostB C h₀ g ρ s Q) NoE s
end

section
variable {prog : Program} {w : World} {A : Around} {C : Addr} {h₀ : Heap} {T : Prims} {s : Shared} {env cenv : Env} {loc₀ : Loc} {x : Nat} {items : List AV} {src : Option Nat} {it acc : Addr} {k : Nat}

noncomputable def turn1 (T : Prims) (x : Nat) (c : PEs) (elt : PE) (loc₀ : Loc) (src : Option Nat) (items : List AV) (k : Nat) (v : AV) (st : St) (K : St → Prop) : Prop :=
  stillW src items st ∧ andW' T c ((x, v) :: loc₀) st fun ok st' => if ok = true then evalW T elt ((x, v) :: loc₀) st' fun d st' => appendW (.lst k) d st' K else K st'

/-- where a comprehension's loop stands -/
structure At (C : Addr) (h₀ : Heap) (gB : Gh) (ρB : List Addr) (hB : Heap) (cenv : Env) (loc₀ : Loc) (items : List AV) (src : Option Nat) (it acc : Addr) (k i : Nat) (g : Gh) (ρ : List Addr) (st : St) (h : Heap) : Prop where
  S : Step [cenv.locals] gB ρB hB g ρ h
  R : Rel C h₀ g ρ st h
  F : FR g cenv h
  V : Vars C g ρ cenv h loc₀
  I : ItAt ρ items src i it h
  gIt : g it = Option.none
  hacc : ρ[k]? = some acc

theorem At.step {gB : Gh} {ρB : List Addr} {hB : Heap} {i : Nat} {g g' : Gh} {ρ ρ' : List Addr} {st st' : St} {h h' : Heap} (P : At C h₀ gB ρB hB cenv loc₀ items src it acc k i g ρ st h) (S : Step [] g ρ h g' ρ' h') (R' : Rel C h₀ g' ρ' st' h') :
    At C h₀ gB ρB hB cenv loc₀ items src it acc k i g' ρ' st' h' :=
  ⟨P.S.trans (S.more fun _ hb => absurd hb List.not_mem_nil), R', P.F.step P.R S, P.V.step P.F P.R S, P.I.step P.R List.not_mem_nil S, (let ⟨_, _, ho, _⟩ := P.I.obj; S.gkeep P.gIt ho), (let ⟨_, e⟩ := S.pre; by rw [e]; exact getElem?_prefix P.hacc)⟩

/-- the target is stored: the iterator has gone on -/
theorem At.bind {M : Model} {E : Value → Shared → Prop} {gB : Gh} {ρB : List Addr} {hB : Heap} {i : Nat} {g : Gh} {ρ : List Addr} {st : St} {h : Heap} {h1 : Heap} {tk : Nat} {d : AV} {v : Value} {Q : Unit → Shared → Prop} {q : Pos}
    (hx : x < nv) (hk : cenv.kindOf (nm x) = some .local) (hx0 : look loc₀ x = Option.none) (hitB : hB.get? it = Option.none)
    (P : At C h₀ gB ρB hB cenv loc₀ items src it acc k i g ρ st h) (I1 : ItAt ρ items src (i + 1) it h1) (hs : Heap.SameBut it h h1) (hv : VR C g ρ d v)
    (hQ : ∀ h' tk, At C h₀ gB ρB hB cenv loc₀ items src it acc k (i + 1) g ρ st h' → Vars C g ρ cenv h' ((x, d) :: loc₀) → Q () { s with heap := h', toks := tk }) :
    wpAny M A (assign (.Name (nm x) q) cenv v) Q E { s with heap := h1, toks := tk } := by
  have hio : it ∉ ownA cenv := P.I.own P.F
  have hib : ∀ b o, b ≠ it → h.get? b = some o → h1.get? b = some o := fun b o hb e => (hs.2 b hb).trans e
  have S1 : Step [cenv.locals] gB ρB hB g ρ h1 := P.S.iter hitB hib
  have R1 : Rel C h₀ g ρ st h1 := P.R.off hib P.gIt (P.I.off P.R)
  have F1 : FR g cenv h1 := P.F.keepBut hio hib
  have V1 : Vars C g ρ cenv h1 loc₀ := P.V.keepBut hio hib
  refine wpAny_assign_Name (storeLocal (s := { s with heap := h1, toks := tk }) hx hk F1 V1 R1 hv fun h' tk' S' R' F' V' => hQ h' tk' ⟨S1.trans S', R', F', V'.drop hx0, ?_, P.gIt, P.hacc⟩ V'.cons)
  exact I1.step R1 (fun hm => hio (by rw [List.mem_singleton.mp hm]; exact List.mem_cons_self)) S'

theorem comp1Loop (hA : OkA A) {c : PEs} {elt : PE} {elt' it' : Expr} {ifs' : List Expr} {q : Pos} {sc' : Scope} {p : Pos} {K : St → Prop} {RR : Result → Shared → Prop} {gB : Gh} {ρB : List Addr} {hB : Heap}
    (hx : x < nv) (hk : cenv.kindOf (nm x) = some .local) (hx0 : look loc₀ x = Option.none) (HE : Snd prog w A C h₀ T elt elt' cenv) (HT : SndC prog w A C h₀ T c ifs' cenv) (hitB : hB.get? it = Option.none)
    {g : Gh} {ρ : List Addr} {st : St} (P : At C h₀ gB ρB hB cenv loc₀ items src it acc k 0 g ρ st s.heap)
    (h : loopW (turn1 T x c elt loc₀ src items k) items st fun st => stillW src items st ∧ K st)
    (hR : ∀ h' tk g' ρ' st' i, At C h₀ gB ρB hB cenv loc₀ items src it acc k i g' ρ' st' h' → K st' → ∀ h'', Heap.ExtBut it h' h'' → RR (.ok .next) { s with heap := h'', toks := tk }) :
    codeAny (model prog w) A (.compLoop (.ListComp elt' [⟨.Name (nm x) q, it', ifs', 0⟩] sc' p) 0 (.ref it) (.ref acc) cenv) RR s := by
  refine codeAny_compLoop_tests (fun n s' => ∃ h' tk g' ρ' st' i, s' = { s with heap := h', toks := tk } ∧ n = items.length - i ∧ At C h₀ gB ρB hB cenv loc₀ items src it acc k i g' ρ' st' h' ∧
    loopW (turn1 T x c elt loc₀ src items k) (items.drop i) st' fun st => stillW src items st ∧ K st) ?_ items.length ⟨s.heap, s.toks, g, ρ, st, 0, rfl, rfl, P, by simpa using h⟩
  rintro n s' ⟨h', tk, g', ρ', st', i, rfl, rfl, P', hl⟩
  have still : stillW src items st' := by
    cases hd : items.drop i with
    | nil => rw [hd] at hl; exact hl.1
    | cons d r => rw [hd] at hl; exact hl.1
  refine nextS (s := { s with heap := h', toks := tk }) hA P'.I P'.R still (fun d v h1 tk1 hi hv I1 hs => ?_) (fun h1 hi he => ?_)
  · have hlt : i < items.length := (List.getElem?_eq_some_iff.mp hi).1
    have hd : items.drop i = d :: items.drop (i + 1) := by
      rw [List.drop_eq_getElem_cons hlt]
      rw [(List.getElem?_eq_some_iff.mp hi).2]
    rw [hd] at hl
    dsimp only
    refine P'.bind hx hk hx0 hitB I1 hs hv fun h2 tk2 P2 V2 => ?_
    refine wp_false (wpAny_mono (HT _ st' _ g' ρ' { s with heap := h2, toks := tk2 } P2.F V2 P2.R hl.2) (fun ok s3 h3 => ?_) fun _ _ f => f)
    refine h3.elim fun h3' tk3 g3 ρ3 st3 S3 R3 hq => ?_
    have P3 := P2.step S3 R3
    cases ok with
    | false =>
      simp only [Bool.false_eq_true, if_false] at hq ⊢
      exact ⟨items.length - (i + 1), by omega, h3', tk3, g3, ρ3, st3, i + 1, rfl, rfl, P3, hq⟩
    | true =>
      simp only [if_true] at hq ⊢
      have V3 := V2.step P2.F P2.R S3
      refine wp_false (wpAny_mono (HE _ st3 _ g3 ρ3 { s with heap := h3', toks := tk3 } P3.F V3 P3.R hq) (fun y s4 h4 => ?_) fun _ _ f => f)
      refine h4.elim fun h4' tk4 g4 ρ4 st4 d4 S4 R4 hv4 hq4 => ?_
      have P4 := P3.step S4 R4
      obtain ⟨a, ha, _, hw⟩ := appendS (prog := prog) (w := w) (A := A) (E := notedBy (model prog w) A cenv fun e s' => RR (.error e) s') (s := { s with heap := h4', toks := tk4 })
        (P := fun _ s5 => ∃ m, m < items.length - i ∧ ∃ h' tk g' ρ' st' i, s5 = { s with heap := h', toks := tk } ∧ m = items.length - i ∧ At C h₀ gB ρB hB cenv loc₀ items src it acc k i g' ρ' st' h' ∧
          loopW (turn1 T x c elt loc₀ src items k) (items.drop i) st' fun st => stillW src items st ∧ K st) hq4 P4.R (va := .ref acc) ⟨acc, P4.hacc, rfl⟩ hv4
        (fun h5 st5 R5 S5 hq5 => ⟨items.length - (i + 1), by omega, h5, tk4, g4, ρ4, st5, i + 1, rfl, rfl, P4.step (S5 []) R5, hq5⟩)
      cases ha
      exact hw
  · have hd : items.drop i = [] := List.drop_eq_nil_of_le (List.getElem?_eq_none_iff.mp hi)
    rw [hd] at hl
    exact hR h' tk g' ρ' st' i P' hl.2 h1 he
end
end Mine
set_option maxRecDepth 100000
namespace Mine
open PySem PySem.W PyProof.Rows PySem.Calls
section
variable {prog : Program} {w : World} {A : Around} {C : Addr} {h₀ : Heap} {T : Prims} {s : Shared} {env cenv : Env} {loc₀ : Loc} {x y : Nat} {items : List AV} {src : Option Nat} {it acc : Addr} {k : Nat}

theorem compTurn2_0 (elt t1 i1 t2 i2 : Expr) (scope : Scope) (pos : Pos) (it acc : Value) (env : Env) :
    compTurn (.ListComp elt [⟨t1, i1, [], 0⟩, ⟨t2, i2, [], 0⟩] scope pos) 0 it acc env = (do
      standAt i1.pos
      match ← pyNext it with
      | none => pure (.done .next)
      | some v =>
        letOwnedTupleGo t1 it v
        assign t1 env v
        let x ← eval i2 env
        standAt i2.pos
        let x ← foldedSetIterable i2 env x
        let _ ← runOwn (.compStart (.ListComp elt [⟨t1, i1, [], 0⟩, ⟨t2, i2, [], 0⟩] scope pos) 1 (← holding [x] (pyIter x)) acc env) env
        again (.compLoop (.ListComp elt [⟨t1, i1, [], 0⟩, ⟨t2, i2, [], 0⟩] scope pos) 0 it acc env)) := by rfl
theorem compTurn2_1 (elt t1 i1 t2 i2 : Expr) (scope : Scope) (pos : Pos) (it acc : Value) (env : Env) :
    compTurn (.ListComp elt [⟨t1, i1, [], 0⟩, ⟨t2, i2, [], 0⟩] scope pos) 1 it acc env = (do
      standAt i2.pos
      match ← pyNext it with
      | none => pure (.done .next)
      | some v =>
        letOwnedTupleGo t2 it v
        assign t2 env v
        (do let _ ← call (.builtin "list.append") [acc, ← eval elt env])
        again (.compLoop (.ListComp elt [⟨t1, i1, [], 0⟩, ⟨t2, i2, [], 0⟩] scope pos) 1 it acc env)) := by rfl

noncomputable def turn2i (T : Prims) (y : Nat) (elt : PE) (loc₁ : Loc) (src : Option Nat) (items : List AV) (k : Nat) (u : AV) (st : St) (K : St → Prop) : Prop :=
  stillW src items st ∧ evalW T elt ((y, u) :: loc₁) st fun d st' => appendW (.lst k) d st' K
noncomputable def turn2 (T : Prims) (x y : Nat) (it2 elt : PE) (loc₀ : Loc) (src : Option Nat) (items : List AV) (k : Nat) (v : AV) (st : St) (K : St → Prop) : Prop :=
  stillW src items st ∧ evalW T it2 ((x, v) :: loc₀) st fun a st' => seqW a st' fun items2 src2 st' =>
    loopW (turn2i T y elt ((x, v) :: loc₀) src2 items2 k) items2 st' fun st' => stillW src2 items2 st' ∧ K st'

theorem comp2Inner (hA : OkA A) {elt : PE} {elt' t1 i1 i2 : Expr} {q : Pos} {sc' : Scope} {p : Pos} {K : St → Prop} {RR : Result → Shared → Prop} {gB : Gh} {ρB : List Addr} {hB : Heap}
    (hx : y < nv) (hk : cenv.kindOf (nm y) = some .local) (hx0 : look loc₀ y = Option.none) (HE : Snd prog w A C h₀ T elt elt' cenv) (hitB : hB.get? it = Option.none)
    {g : Gh} {ρ : List Addr} {st : St} (P : At C h₀ gB ρB hB cenv loc₀ items src it acc k 0 g ρ st s.heap)
    (h : loopW (turn2i T y elt loc₀ src items k) items st fun st => stillW src items st ∧ K st)
    (hR : ∀ h' tk g' ρ' st' i, At C h₀ gB ρB hB cenv loc₀ items src it acc k i g' ρ' st' h' → K st' → ∀ h'', Heap.ExtBut it h' h'' → RR (.ok .next) { s with heap := h'', toks := tk }) :
    codeAny (model prog w) A (.compLoop (.ListComp elt' [⟨t1, i1, [], 0⟩, ⟨.Name (nm y) q, i2, [], 0⟩] sc' p) 1 (.ref it) (.ref acc) cenv) RR s := by
  refine codeAny_loop rfl (fun n s' => ∃ h' tk g' ρ' st' i, s' = { s with heap := h', toks := tk } ∧ n = items.length - i ∧ At C h₀ gB ρB hB cenv loc₀ items src it acc k i g' ρ' st' h' ∧
    loopW (turn2i T y elt loc₀ src items k) (items.drop i) st' fun st => stillW src items st ∧ K st) ?_ items.length ⟨s.heap, s.toks, g, ρ, st, 0, rfl, rfl, P, by simpa using h⟩
  rintro n s' ⟨h', tk, g', ρ', st', i, rfl, rfl, P', hl⟩
  show wpAny _ A ((compTurn (.ListComp elt' [⟨t1, i1, [], 0⟩, ⟨.Name (nm y) q, i2, [], 0⟩] sc' p) 1 (.ref it) (.ref acc) cenv).onRaise (fun x => do noteFrame x cenv; theTreesLotGoes x)) _ _ _
  refine wpAny_noted ?_
  rw [compTurn2_1]
  have still : stillW src items st' := by
    cases hd : items.drop i with
    | nil => rw [hd] at hl; exact hl.1
    | cons d r => rw [hd] at hl; exact hl.1
  refine wpAny_bind (wpAny_standAt (wpAny_bind (nextS (s := { s with heap := h', toks := tk }) hA P'.I P'.R still (fun d v h1 tk1 hi hv I1 hs => ?_) (fun h1 hi he => ?_))))
  · have hlt : i < items.length := (List.getElem?_eq_some_iff.mp hi).1
    have hd : items.drop i = d :: items.drop (i + 1) := by
      rw [List.drop_eq_getElem_cons hlt]
      rw [(List.getElem?_eq_some_iff.mp hi).2]
    rw [hd] at hl
    refine wpAny_bind (wpAny_of_eq (a := ()) rfl ?_)
    refine wpAny_bind (P'.bind hx hk hx0 hitB I1 hs hv fun h2 tk2 P2 V2 => ?_)
    refine wpAny_bind (wpAny_bind (wp_false (wpAny_mono (HE _ st' _ g' ρ' { s with heap := h2, toks := tk2 } P2.F V2 P2.R hl.2) (fun z s4 h4 => ?_) fun _ _ f => f)))
    refine h4.elim fun h4' tk4 g4 ρ4 st4 d4 S4 R4 hv4 hq4 => ?_
    have P4 := P2.step S4 R4
    obtain ⟨a, ha, _, hw⟩ := appendS (prog := prog) (w := w) (A := A) (E := notedBy (model prog w) A cenv fun e s' => RR (.error e) s') (s := { s with heap := h4', toks := tk4 })
      (P := fun _ s5 => ∃ m, m < items.length - i ∧ ∃ h' tk g' ρ' st' i, s5 = { s with heap := h', toks := tk } ∧ m = items.length - i ∧ At C h₀ gB ρB hB cenv loc₀ items src it acc k i g' ρ' st' h' ∧
        loopW (turn2i T y elt loc₀ src items k) (items.drop i) st' fun st => stillW src items st ∧ K st) hq4 P4.R (va := .ref acc) ⟨acc, P4.hacc, rfl⟩ hv4
      (fun h5 st5 R5 S5 hq5 => ⟨items.length - (i + 1), by omega, h5, tk4, g4, ρ4, st5, i + 1, rfl, rfl, P4.step (S5 []) R5, hq5⟩)
    cases ha
    exact wpAny_bind (wpAny_mono hw (fun _ s5 h5 => wpAny_pure (wpAny_pure ⟨rfl, h5⟩)) fun _ _ e => e)
  · have hd : items.drop i = [] := List.drop_eq_nil_of_le (List.getElem?_eq_none_iff.mp hi)
    rw [hd] at hl
    exact wpAny_pure (hR h' tk g' ρ' st' i P' hl.2 h1 he)

/-- an iterator that iter() hands on itself -/
theorem iterSelf {ρ : List Addr} {i : Nat} {E : Value → Shared → Prop} {Q : Value → Shared → Prop} (x : ItAt ρ items src i it s.heap) (h : Q (.ref it) s) : wpAny (model prog w) A (pyIter (.ref it)) Q E s := by
  unfold ItAt at x
  split at x
  · obtain ⟨a, b, _, q⟩ := x; exact wpAny_pyIter_rangeiter q h
  · obtain ⟨l, _, q⟩ := x; exact wpAny_pyIter_listiter q h

theorem compStart1 {elt' t1 i1 t2 i2 : Expr} {sc' : Scope} {p : Pos} {RR : Result → Shared → Prop} {ρ : List Addr} {i : Nat} (x : ItAt ρ items src i it s.heap)
    (h : codeAny (model prog w) A (.compLoop (.ListComp elt' [⟨t1, i1, [], 0⟩, ⟨t2, i2, [], 0⟩] sc' p) 1 (.ref it) (.ref acc) cenv) RR s) :
    codeAny (model prog w) A (.compStart (.ListComp elt' [⟨t1, i1, [], 0⟩, ⟨t2, i2, [], 0⟩] sc' p) 1 (.ref it) (.ref acc) cenv) RR s := by
  refine codeAny_of_tree ?_
  show wpAny _ _ ((compStart (.ListComp elt' [⟨t1, i1, [], 0⟩, ⟨t2, i2, [], 0⟩] sc' p) 1 (.ref it) (.ref acc) cenv).onRaise (fun x => do noteFrame x cenv; standAt theWindowsPlace)) _ _ s
  refine wpAny_notedAt ?_
  unfold compStart
  show wpAny _ _ (ask >>= _) _ _ s
  refine wpAny_bind (wpAny_askSetting (wpAny_ite ?_))
  split
  · first
      | exact wpAny_bind (wpAny_pure (wpAny_pure (And.intro rfl h)))
      | exact wpAny_pure (And.intro rfl h)
  · refine wpAny_bind (wpAny_rule ?_)
    show wpAny _ _ (standAt i2.pos >>= _) _ _ s
    exact wpAny_bind (wpAny_standAt (wpAny_bind (iterSelf x (wpAny_pure (And.intro rfl h)))))

theorem comp2Loop (hA : OkA A) {it2 elt : PE} {elt' i1 i2 : Expr} {q q2 : Pos} {sc' : Scope} {p : Pos} {K : St → Prop} {RR : Result → Shared → Prop} {gB : Gh} {ρB : List Addr} {hB : Heap}
    (hx : x < nv) (hk : cenv.kindOf (nm x) = some .local) (hx0 : look loc₀ x = Option.none) (hy : y < nv) (hky : cenv.kindOf (nm y) = some .local) (hy0 : look loc₀ y = Option.none) (hxy : x ≠ y)
    (HI : Snd prog w A C h₀ T it2 i2 cenv) (hset : ∀ v, foldedSetIterable i2 cenv v = pure v) (HE : Snd prog w A C h₀ T elt elt' cenv) (hitB : hB.get? it = Option.none)
    {g : Gh} {ρ : List Addr} {st : St} (P : At C h₀ gB ρB hB cenv loc₀ items src it acc k 0 g ρ st s.heap)
    (h : loopW (turn2 T x y it2 elt loc₀ src items k) items st fun st => stillW src items st ∧ K st)
    (hR : ∀ h' tk g' ρ' st' i, At C h₀ gB ρB hB cenv loc₀ items src it acc k i g' ρ' st' h' → K st' → ∀ h'', Heap.ExtBut it h' h'' → RR (.ok .next) { s with heap := h'', toks := tk }) :
    codeAny (model prog w) A (.compLoop (.ListComp elt' [⟨.Name (nm x) q, i1, [], 0⟩, ⟨.Name (nm y) q2, i2, [], 0⟩] sc' p) 0 (.ref it) (.ref acc) cenv) RR s := by
  refine codeAny_loop rfl (fun n s' => ∃ h' tk g' ρ' st' i, s' = { s with heap := h', toks := tk } ∧ n = items.length - i ∧ At C h₀ gB ρB hB cenv loc₀ items src it acc k i g' ρ' st' h' ∧
    loopW (turn2 T x y it2 elt loc₀ src items k) (items.drop i) st' fun st => stillW src items st ∧ K st) ?_ items.length ⟨s.heap, s.toks, g, ρ, st, 0, rfl, rfl, P, by simpa using h⟩
  rintro n s' ⟨h', tk, g', ρ', st', i, rfl, rfl, P', hl⟩
  show wpAny _ A ((compTurn (.ListComp elt' [⟨.Name (nm x) q, i1, [], 0⟩, ⟨.Name (nm y) q2, i2, [], 0⟩] sc' p) 0 (.ref it) (.ref acc) cenv).onRaise (fun x => do noteFrame x cenv; theTreesLotGoes x)) _ _ _
  refine wpAny_noted ?_
  rw [compTurn2_0]
  have still : stillW src items st' := by
    cases hd : items.drop i with
    | nil => rw [hd] at hl; exact hl.1
    | cons d r => rw [hd] at hl; exact hl.1
  refine wpAny_bind (wpAny_standAt (wpAny_bind (nextS (s := { s with heap := h', toks := tk }) hA P'.I P'.R still (fun d v h1 tk1 hi hv I1 hs => ?_) (fun h1 hi he => ?_))))
  · have hlt : i < items.length := (List.getElem?_eq_some_iff.mp hi).1
    have hd : items.drop i = d :: items.drop (i + 1) := by
      rw [List.drop_eq_getElem_cons hlt]
      rw [(List.getElem?_eq_some_iff.mp hi).2]
    rw [hd] at hl
    refine wpAny_bind (wpAny_of_eq (a := ()) rfl ?_)
    refine wpAny_bind (P'.bind hx hk hx0 hitB I1 hs hv fun h2 tk2 P2 V2 => ?_)
    refine wpAny_bind (wp_false (wpAny_mono (HI _ st' _ g' ρ' { s with heap := h2, toks := tk2 } P2.F V2 P2.R hl.2) (fun z s4 h4 => ?_) fun _ _ f => f))
    refine h4.elim fun h4' tk4 g4 ρ4 st4 a4 S4 R4 hv4 hq4 => ?_
    have P4 := P2.step S4 R4
    have V4 := V2.step P2.F P2.R S4
    refine wpAny_bind (wpAny_standAt (wpAny_bind (wpAny_of_eq (hset z) (wpAny_bind (wpAny_holding ?_)))))
    unfold seqW at hq4
    split at hq4
    · rename_i j
      split at hq4
      · rename_i l2 hl2
        obtain ⟨a, haj, rfl⟩ := hv4
        refine iterList (s := { s with heap := h4', toks := tk4 }) P4.R haj hl2 fun it2' h5 I5 hn5 hk5 => ?_
        have S5 : Step [] g4 ρ4 h4' g4 ρ4 h5 := Step.grow hk5 _ _ _
        have R5 := P4.R.grow hk5
        have P5 := P4.step S5 R5
        have V5 := V4.step P4.F P4.R S5
        have gI5 := gfree_of P4.R hn5
        refine wpAny_bind (wpAny_runOwn ?_)
        refine compStart1 (s := { s with heap := h5, toks := tk4 }) I5 ?_
        refine comp2Inner (gB := g4) (ρB := ρ4) (hB := h4') (loc₀ := (x, d) :: loc₀) (st := st4) (K := fun st => loopW (turn2 T x y it2 elt loc₀ src items k) (items.drop (i + 1)) st fun st => stillW src items st ∧ K st)
          hA hy hky (by rw [look_cons, if_neg hxy]; exact hy0) HE hn5 ⟨S5.more (fun _ hb => absurd hb List.not_mem_nil), R5, P5.F, V5, I5, gI5, P5.hacc⟩ hq4 ?_
        intro h6 tk6 g6 ρ6 st6 i6 P6 hK6 h7 he7
        refine wpAny_pure ⟨rfl, items.length - (i + 1), by omega, h7, tk6, g6, ρ6, st6, i + 1, rfl, rfl, ?_, hK6⟩
        have hio6 := P6.I.own P6.F
        have R7 : Rel C h₀ g6 ρ6 st6 h7 := P6.R.off he7 P6.gIt (P6.I.off P6.R)
        have S7 : Step [cenv.locals] g4 ρ4 h4' g6 ρ6 h7 := P6.S.iter hn5 he7
        refine ⟨P4.S.trans S7, R7, P6.F.keepBut hio6 he7, ?_, ?_, ?_, ?_⟩
        · intro z e hz
          have hzx : x ≠ z := fun qq => by rw [← qq, hx0] at hz; cases hz
          exact (P6.V.keepBut hio6 he7) z e (by rw [look_cons, if_neg hzx]; exact hz)
        · exact P4.I.step P4.R (fun hm => P4.I.own P4.F (by rw [List.mem_singleton.mp hm]; exact List.mem_cons_self)) S7
        · obtain ⟨_, _, ho, _⟩ := P4.I.obj
          exact S7.gkeep P4.gIt ho
        · obtain ⟨r, e⟩ := S7.pre
          rw [e]; exact getElem?_prefix P4.hacc
      · exact hq4.elim
    · exact hq4.elim
  · have hd : items.drop i = [] := List.drop_eq_nil_of_le (List.getElem?_eq_none_iff.mp hi)
    rw [hd] at hl
    exact wpAny_pure (hR h' tk g' ρ' st' i P' hl.2 h1 he)
end
end Mine
set_option maxRecDepth 100000
namespace Mine
open PySem PySem.W PyProof.Rows PySem.Calls

noncomputable def SEnv (sc : Scope) (env : Env) : Prop := ∀ n k, k ≠ NameKind.free → sc.names.lookup n = some k → env.kindOf n = some k

noncomputable def clOf (env : Env) : List (Str × NameKind) → List (Str × Addr) → List (Str × Addr)
  | [], acc => acc
  | (n, k) :: r, acc => if (k == NameKind.free) = true then clOf env r ((n, (env.cells.lookup n).getD 0) :: acc) else clOf env r acc
section
variable {env : Env}
theorem clOf_mem : ∀ {l : List (Str × NameKind)} {acc : List (Str × Addr)} {n : Str} {c : Addr}, (n, c) ∈ clOf env l acc → (n, c) ∈ acc ∨ ((n, NameKind.free) ∈ l ∧ c = (env.cells.lookup n).getD 0)
  | [], _, _, _, h => .inl h
  | (m, k) :: r, acc, n, c, h => by
    unfold clOf at h
    split at h
    · rename_i hk
      rcases clOf_mem h with q | ⟨q, e⟩
      · rcases List.mem_cons.mp q with q | q
        · cases q; exact .inr ⟨by rw [beq_iff_eq.mp hk]; exact List.mem_cons_self, rfl⟩
        · exact .inl q
      · exact .inr ⟨List.mem_cons_of_mem _ q, e⟩
    · rcases clOf_mem h with q | ⟨q, e⟩
      · exact .inl q
      · exact .inr ⟨List.mem_cons_of_mem _ q, e⟩
theorem clOf_acc : ∀ {l : List (Str × NameKind)} {acc : List (Str × Addr)} {x : Str × Addr}, x ∈ acc → x ∈ clOf env l acc
  | [], _, _, h => h
  | (m, k) :: r, acc, x, h => by
    unfold clOf
    split
    · exact clOf_acc (List.mem_cons_of_mem _ h)
    · exact clOf_acc h
theorem clOf_of : ∀ {l : List (Str × NameKind)} {acc : List (Str × Addr)} {n : Str}, (n, NameKind.free) ∈ l → (n, (env.cells.lookup n).getD 0) ∈ clOf env l acc
  | (m, k) :: r, acc, n, h => by
    unfold clOf
    rcases List.mem_cons.mp h with q | q
    · cases q
      rw [if_pos (by decide)]
      exact clOf_acc List.mem_cons_self
    · split <;> exact clOf_of q
theorem clOf_keys : ∀ {l : List (Str × NameKind)} {acc : List (Str × Addr)}, (l.map (·.1)).Nodup → (acc.map (·.1)).Nodup → (∀ x ∈ acc, x.1 ∉ l.map (·.1)) → ((clOf env l acc).map (·.1)).Nodup
  | [], _, _, h, _ => h
  | (m, k) :: r, acc, hl, ha, hd => by
    rw [List.map_cons, List.nodup_cons] at hl
    unfold clOf
    split
    · refine clOf_keys hl.2 ?_ ?_
      · rw [List.map_cons, List.nodup_cons]
        refine ⟨fun hm => ?_, ha⟩
        obtain ⟨x, hx, e⟩ := List.mem_map.mp hm
        exact hd x hx (by rw [e]; exact List.mem_cons_self)
      · intro x hx
        rcases List.mem_cons.mp hx with rfl | hx
        · exact hl.1
        · exact fun q => hd x hx (List.mem_cons_of_mem _ q)
    · exact clOf_keys hl.2 ha fun x hx q => hd x hx (List.mem_cons_of_mem _ q)
theorem lookup_of_mem {l : List (Str × Addr)} {n : Str} {c : Addr} (h : (n, c) ∈ l) : ∃ c', l.lookup n = some c' := by
  cases e : l.lookup n with
  | some c' => exact ⟨c', rfl⟩
  | none =>
    have := List.lookup_eq_none_iff.mp e (n, c) h
    simp at this
theorem closureFor_cl {scope : Scope} (h : ∀ n, (n, NameKind.free) ∈ scope.names → ∃ c, env.cells.lookup n = some c) : closureFor scope env = pure (clOf env scope.names []) := by
  have key : ∀ (l : List (Str × NameKind)) (acc : List (Str × Addr)), (∀ n, (n, NameKind.free) ∈ l → ∃ c, env.cells.lookup n = some c) →
      (forIn l acc fun (x : Str × NameKind) (cs : List (Str × Addr)) => (if (x.2 == NameKind.free) = true then (cellOf env x.1 >>= fun a => pure (ForInStep.yield ((x.1, a) :: cs))) else pure (ForInStep.yield cs) : Sem _)) = pure (clOf env l acc) := by
    intro l
    induction l with
    | nil => intro acc _; rfl
    | cons x r ih =>
      intro acc hl
      obtain ⟨n, k⟩ := x
      rw [List.forIn_cons]
      unfold clOf
      by_cases hk : (k == NameKind.free) = true
      · obtain ⟨c, hc⟩ := hl n (by rw [beq_iff_eq.mp hk]; exact List.mem_cons_self)
        simp only [hk, if_true]
        unfold cellOf
        rw [hc]
        simp only [pure_bind, Option.getD_some]
        exact ih _ fun m hm => hl m (List.mem_cons_of_mem _ hm)
      · simp only [hk, if_false, Bool.false_eq_true, pure_bind]
        exact ih _ fun m hm => hl m (List.mem_cons_of_mem _ hm)
  have := key scope.names [] h
  unfold closureFor
  first
    | (rw [show (pure (clOf env scope.names []) : Sem (List (Str × Addr))) = (pure (clOf env scope.names []) >>= fun cs => pure cs) from rfl, ← this]; rfl)
    | (simp only [this]; rfl)

theorem relabel_lookup {scope : Scope} (n : Str) : ∀ {names : List (Str × NameKind)}, (names.map fun (n, k) => if (k == NameKind.free && env.scope.kind == .function && env.kindOf n == some .cell) = true then (n, NameKind.cell) else (n, k)).lookup n =
    (names.lookup n).map fun k => if (k == NameKind.free && env.scope.kind == .function && env.kindOf n == some .cell) = true then NameKind.cell else k
  | [] => rfl
  | (m, k) :: r => by
    have ih := relabel_lookup (scope := scope) n (names := r)
    rw [List.map_cons]
    dsimp only
    by_cases hn : n = m
    · subst hn
      by_cases hc : (k == NameKind.free && env.scope.kind == .function && env.kindOf n == some .cell) = true
      · rw [if_pos hc, List.lookup_cons_self, List.lookup_cons_self, Option.map_some, if_pos hc]
      · rw [if_neg hc, List.lookup_cons_self, List.lookup_cons_self, Option.map_some, if_neg hc]
    · have hb : (n == m) = false := beq_eq_false_iff_ne.mpr hn
      by_cases hc : (k == NameKind.free && env.scope.kind == .function && env.kindOf m == some .cell) = true
      · rw [if_pos hc, List.lookup_cons, List.lookup_cons]; simp only [hb]; exact ih
      · rw [if_neg hc, List.lookup_cons, List.lookup_cons]; simp only [hb]; exact ih
theorem compKind {scope : Scope} {cl : List (Str × Addr)} {L : Addr} (n : Str) : (compEnvC scope cl L env).kindOf n = (scope.names.lookup n).map fun k => if (k == NameKind.free && env.scope.kind == .function && env.kindOf n == some .cell) = true then NameKind.cell else k :=
  relabel_lookup (scope := scope) n
end

section
variable {prog : Program} {w : World} {A : Around} {C : Addr} {h₀ : Heap} {T : Prims} {s : Shared} {env : Env} {loc loc₀ : Loc} {items : List AV} {src : Option Nat} {it : Addr} {sc sc' : Scope} {caps : List Nat}

theorem compSc_of (h : compSc sc sc' caps = true) : sc'.kind = .function ∧ (∀ x ∈ sc'.names, (x.2 = .local ∧ sc'.names.lookup x.1 = some .local) ∨ (x.2 = .free ∧ sc.names.lookup x.1 = some .cell)) ∧ (sc'.names.map (·.1)).Nodup ∧
    ∀ c ∈ caps, c < nv ∧ sc'.names.lookup (nm c) = some .free := by
  unfold compSc at h
  simp only [Bool.and_eq_true, beq_iff_eq, decide_eq_true_eq, List.all_eq_true, Bool.or_eq_true] at h
  exact ⟨h.1.1.1, h.1.1.2, h.1.2, h.2⟩
theorem mem_of_lookup' {l : List (Str × NameKind)} {n : Str} {k : NameKind} (h : l.lookup n = some k) : (n, k) ∈ l := by
  induction l with
  | nil => cases h
  | cons x r ih =>
    obtain ⟨m, j⟩ := x
    rw [List.lookup_cons] at h
    cases hb : n == m with
    | true => rw [hb] at h; cases h; rw [beq_iff_eq.mp hb]; exact List.mem_cons_self
    | false => rw [hb] at h; exact List.mem_cons_of_mem _ (ih h)
theorem capture_look : ∀ {caps : List Nat} {loc₀ : Loc}, capture loc caps = some loc₀ → ∀ y d, look loc₀ y = some d → y ∈ caps ∧ look loc y = some d
  | [], _, e, y, d, hy => by cases e; cases hy
  | c :: r, loc₀, e, y, d, hy => by
    unfold capture at e
    cases hc : look loc c with
    | none => rw [hc] at e; cases e
    | some dc =>
      cases hr : capture loc r with
      | none => rw [hc, hr] at e; cases e
      | some l =>
        rw [hc, hr] at e
        cases e
        rw [look_cons] at hy
        split at hy
        · rename_i q; cases hy; subst q; exact ⟨List.mem_cons_self, hc⟩
        · obtain ⟨h1, h2⟩ := capture_look hr y d hy
          exact ⟨List.mem_cons_of_mem _ h1, h2⟩

/-- the entry into a comprehension -/
theorem compEnter {E : Value → Shared → Prop} {e : Expr} {RR : Value → Addr → Result → Shared → Prop} (hsc : compSc sc sc' caps = true) (hS : SEnv sc env) {gB g : Gh} {ρB ρ : List Addr} {hB : Heap} {st : St}
    (F : FR g env s.heap) (V : Vars C g ρ env s.heap loc) (R : Rel C h₀ g ρ st s.heap) (hcap : capture loc caps = some loc₀) (S0 : Step [] gB ρB hB g ρ s.heap) (I : ItAt ρ items src 0 it s.heap) (hitB : hB.get? it = Option.none) (gIt : g it = Option.none)
    (h : ∀ L h' acc tk, At C h₀ gB ρB hB (compEnvC sc' (clOf env sc'.names []) L env) loc₀ items src it acc st.length 0 g (ρ ++ [acc]) (st ++ [[]]) h' → hB.get? L = Option.none → s.heap.get? L = Option.none → SEnv sc' (compEnvC sc' (clOf env sc'.names []) L env) →
      (∀ x, scLocal sc' x = true → x < nv ∧ (compEnvC sc' (clOf env sc'.names []) L env).kindOf (nm x) = some .local ∧ look loc₀ x = Option.none) → (∀ b o, s.heap.get? b = some o → h'.get? b = some o) →
      codeAny (model prog w) A (.compStart e 0 (.ref it) (.ref acc) (compEnvC sc' (clOf env sc'.names []) L env)) (RR (.ref acc) L) { s with heap := h', toks := tk }) :
    wpAny (model prog w) A (newList []) (fun acc s₃ => wpAny (model prog w) A (newFunctionEnv sc' env.globals (clOf env sc'.names []) [] env.qual none .none (some env)) (fun cenv s₄ =>
      codeAny (model prog w) A (.compStart e 0 (.ref it) acc { cenv with scope := relabel sc' env }) (RR acc cenv.locals) s₄) E s₃) E s := by
  obtain ⟨hkf, hn, hnd, hc⟩ := compSc_of hsc
  refine wpAny_newObj_type (wpAny_newFunctionEnv (fun x hx => ?_) (fun x hx => absurd hx List.not_mem_nil) (fun h' hns hsb => ?_) hkf)
  · rcases hn x hx with ⟨q, _⟩ | ⟨q, _⟩ <;> rw [q] <;> decide
  dsimp only at hns hsb ⊢
  obtain ⟨R1, S1⟩ := R.more (push_keep s.heap _) (push_new s.heap) (a := s.heap.objs.size) (h' := s.heap.push { cls := .type "list", data := .seq ([] : List Value).toArray }) (l := []) (vs := []) ⟨0, Heap.get?_push_size _ rfl⟩ rfl
  generalize hH1 : s.heap.push { cls := .type "list", data := .seq ([] : List Value).toArray } = H1 at hns hsb R1 S1 ⊢
  have k1 : ∀ b o, s.heap.get? b = some o → H1.get? b = some o := fun b o e => hH1 ▸ push_keep s.heap _ b o e
  have k2 : ∀ b o, H1.get? b = some o → h'.get? b = some o := fun b o e => hsb.extBut b o (Nat.ne_of_lt (Heap.lt_size e)) (push_keep H1 _ b o e)
  have k12 : ∀ b o, s.heap.get? b = some o → h'.get? b = some o := fun b o e => k2 b o (k1 b o e)
  have hLn : H1.get? H1.objs.size = none := push_new H1
  have hLs : s.heap.get? H1.objs.size = none := by
    cases q : s.heap.get? H1.objs.size with
    | none => rfl
    | some o => rw [k1 _ _ q] at hLn; cases hLn
  have S2 : Step [] g ρ s.heap g (ρ ++ [s.heap.objs.size]) h' := (S1 []).trans (Step.grow k2 _ _ _)
  have R2 := R1.grow k2
  have S02 := S0.trans S2
  have V2 := V.step F R S2
  have F2 := F.step R S2
  have hLB : hB.get? H1.objs.size = none := none_of_alive S0.alive hLs
  have hLg : g H1.objs.size = none := gfree_of R hLs
  refine h H1.objs.size h' s.heap.objs.size _ ⟨S02.more (fun _ hb => absurd hb List.not_mem_nil), R2, ?_, ?_, I.step R List.not_mem_nil S2, gIt, by rw [← R.len]; simp⟩ hLB hLs ?_ ?_ k12
  · -- the frame
    have cellAt : ∀ n c, (n, c) ∈ clOf env sc'.names [] → env.cells.lookup n = some c := fun n c hm => by
      rcases clOf_mem hm with q | ⟨q, e⟩
      · cases q
      · rcases hn _ q with ⟨z, _⟩ | ⟨_, z⟩
        · cases z
        · obtain ⟨c', hc'⟩ := F.has n (hS n .cell (by decide) z)
          rw [e, hc']; rfl
    refine ⟨hkf, F.glob, F.blt, ⟨_, hns⟩, hLg, fun n hk => ?_, fun n c hc' => ?_, ?_, fun n c c' h1 h2 => ?_⟩
    · rw [compKind] at hk
      cases e : sc'.names.lookup n with
      | none => rw [e] at hk; cases hk
      | some k =>
        have hm := mem_of_lookup' e
        rcases hn _ hm with ⟨z, _⟩ | ⟨z, _⟩
        · dsimp only at z
          subst z
          rw [e] at hk
          simp at hk
        · dsimp only at z
          subst z
          exact lookup_of_mem (clOf_of hm)
    · obtain ⟨hv, hg⟩ := F2.cell n c (cellAt n c (mem_of_lookup hc'))
      exact ⟨hv, hg⟩
    · have hkeys := clOf_keys (env := env) (acc := []) hnd List.nodup_nil (fun x hx => absurd hx List.not_mem_nil)
      have hp : (clOf env sc'.names []).Pairwise fun x y => x.1 ≠ y.1 := List.pairwise_map.mp hkeys
      refine List.Pairwise.imp_of_mem (fun {x y} hx hy hne q => hne ?_) hp
      obtain ⟨n1, c1⟩ := x
      obtain ⟨n2, c2⟩ := y
      exact name_of_cell F.apart (cellAt n1 c1 hx) (by rw [show c1 = c2 from q]; exact cellAt n2 c2 hy)
    · have e1 := cellAt n c h1
      have e2 := cellAt n c' h2
      rw [e1] at e2; exact Option.some.inj e2
  · -- its variables
    intro y d hy
    obtain ⟨hm, hl⟩ := capture_look hcap y d hy
    obtain ⟨hyn, hfree⟩ := hc y hm
    obtain ⟨_, v, ha, hv⟩ := V2 y d hl
    have hcellk : sc.names.lookup (nm y) = some .cell := by
      rcases hn _ (mem_of_lookup' hfree) with ⟨z, _⟩ | ⟨_, z⟩
      · cases z
      · exact z
    have hko := hS (nm y) .cell (by decide) hcellk
    refine ⟨hyn, v, .inr ⟨?_, ?_⟩, hv⟩
    · rw [compKind, hfree]
      simp [hko, F.kind]
    · rcases ha with ⟨z, _⟩ | ⟨_, c, hc', hcell⟩
      · rw [hko] at z; cases z
      · refine ⟨c, ?_, hcell⟩
        obtain ⟨c', hl'⟩ := lookup_of_mem (clOf_of (env := env) (acc := []) (mem_of_lookup' hfree))
        have hm' := mem_of_lookup hl'
        rcases clOf_mem hm' with q | ⟨_, e⟩
        · cases q
        · rw [hc'] at e
          show List.lookup _ (clOf env sc'.names []) = _
          rw [hl', e]; rfl
  · intro n k hk hl
    rw [compKind, hl]
    have : (k == NameKind.free) = false := by simpa using hk
    rw [Option.map_some, this, Bool.false_and, Bool.false_and, if_neg Bool.false_ne_true]
  · intro x hx
    unfold scLocal at hx
    simp only [Bool.and_eq_true, decide_eq_true_eq, beq_iff_eq] at hx
    refine ⟨hx.1, by rw [compKind, hx.2]; rfl, ?_⟩
    cases q : look loc₀ x with
    | none => rfl
    | some d =>
      obtain ⟨hm, _⟩ := capture_look hcap x d q
      have := (hc x hm).2
      rw [hx.2] at this; cases this
end
end Mine
set_option maxRecDepth 100000
namespace Mine
open PySem PySem.W PyProof.Rows PySem.Calls

/-- what the written part of the heap says of the program's names -/
structure KF (K : Frag) (C : Addr) (fnv : Nat → Value) : Prop where
  glob : ∀ f, isGl f = true → nsIn K mainGlobals (fnm f) = some (some (fnv f)) ∧ keepIn K (fnv f) = true
  meth : ∀ f, isMe f = true → ∃ a, fnv f = .ref a ∧ findIn K (.ref C) (fnm f) = some (some (.ref a)) ∧ isFn K (.ref a) = true ∧ keepIn K (.ref a) = true
  blt : ∀ f, isBl f = true → ∃ id, fnv f = .builtin id ∧ nsIn K mainGlobals (fnm f) = some Option.none ∧ bootBuiltins (fnm f) = some (.builtin id)
  range : nsIn K mainGlobals rangeName = some Option.none ∧ bootBuiltins rangeName = some (.type "range")
  ga : findIn K (.ref C) "__getattribute__" = some (some (.builtin "object.__getattribute__"))
  gat : findIn K (.ref C) "__getattr__" = some Option.none
  hasDict : hasDictIn K C = true
  fld : ∀ a, a < 4 → findIn K (.ref C) (fldm a) = some Option.none

structure Wd (prog : Program) (w : World) (A : Around) (C : Addr) (h₀ : Heap) (K : Frag) (fnv : Nat → Value) (T : Prims) : Prop where
  okA : OkA A
  kin : K.In h₀
  mg : ∃ mg, h₀.Ns mainGlobals mg
  mb : ∃ mb, h₀.Ns builtinsNs mb ∧ ∀ x : Str, x ≠ "__name__" → mb x = bootBuiltins x
  kf : KF K C fnv
  glob : ∀ x d, T.glob x = some d → ∃ v, nsIn K mainGlobals (glm x) = some (some v) ∧ ∀ (g : Gh) (ρ : List Addr), (∀ b o, h₀.get? b = some o → g b = some o) → VR C g ρ d v
  call : ∀ f ds st Q g ρ s vs, T.call f ds st Q → Rel C h₀ g ρ st s.heap → VRs C g ρ ds vs → wpAny (model prog w) A (call (fnv f) vs) (Post C h₀ g ρ s Q) NoE s

theorem fn_plain_b : ((List.range 29).all fun f => !(fnm f == ("__debug__" : Str)) && !(fnm f == ("__name__" : Str))) = true := by decide +kernel
theorem fn_plain {f : Nat} (h : f < 29) : (fnm f == ("__debug__" : Str)) = false ∧ fnm f ≠ "__name__" := by
  have h1 := List.all_eq_true.mp fn_plain_b f (List.mem_range.mpr h)
  simp only [Bool.and_eq_true, Bool.not_eq_true'] at h1
  exact ⟨h1.1, beq_eq_false_iff_ne.mp h1.2⟩
theorem fn_lt {f : Nat} (h : (isGl f || isBl f) = true) : f < 29 := by
  unfold isGl isBl at h
  simp only [Bool.or_eq_true, Bool.and_eq_true, beq_iff_eq, decide_eq_true_eq] at h
  omega
theorem gl_plain : (glm 0 == ("__debug__" : Str)) = false := by decide +kernel
theorem range_plain : (rangeName == ("__debug__" : Str)) = false ∧ rangeName ≠ "__name__" := by decide +kernel

section
variable {prog : Program} {w : World} {A : Around} {C : Addr} {h₀ : Heap} {K : Frag} {fnv : Nat → Value} {T : Prims} {s : Shared} {env : Env} {g : Gh} {ρ : List Addr} {st : St} {loc : Loc} {sc : Scope}

theorem Rel.keep0 (R : Rel C h₀ g ρ st s.heap) : ∀ b o, h₀.get? b = some o → s.heap.get? b = some o := fun b o e => R.base b o (R.base0 b o e)
theorem nameK {n : Str} {v : Value} {pos : Pos} {Q : Value → Shared → Prop} {E : Value → Shared → Prop} (W : Wd prog w A C h₀ K fnv T) (F : FR g env s.heap) (R : Rel C h₀ g ρ st s.heap) (hk : env.kindOf n = some .globalImplicit)
    (e : nsIn K mainGlobals n = some (some v)) (hd : (n == ("__debug__" : Str)) = false) (h : Q v s) : wpAny (model prog w) A (eval (.Name n pos) env) Q E s := by
  obtain ⟨mg, hmg⟩ := W.mg
  exact Name_function_global F.kind hk (loadGlobal_global (by rw [F.glob]; exact hmg.keeps R.keep0) (mg_of W.kin hmg e) h) hd
theorem nameB {n : Str} {v : Value} {pos : Pos} {Q : Value → Shared → Prop} {E : Value → Shared → Prop} (W : Wd prog w A C h₀ K fnv T) (F : FR g env s.heap) (R : Rel C h₀ g ρ st s.heap) (hk : env.kindOf n = some .globalImplicit)
    (e : nsIn K mainGlobals n = some Option.none) (eb : bootBuiltins n = some v) (hn : n ≠ "__name__") (hd : (n == ("__debug__" : Str)) = false) (h : Q v s) : wpAny (model prog w) A (eval (.Name n pos) env) Q E s := by
  obtain ⟨mg, hmg⟩ := W.mg
  obtain ⟨mb, hmb, hb⟩ := W.mb
  exact Name_function_global F.kind hk (loadGlobal_builtin (by rw [F.glob]; exact hmg.keeps R.keep0) (mg_none_of W.kin hmg e) (by rw [F.blt]; exact hmb.keeps R.keep0) ((hb n hn).trans eb) h) hd

theorem VR_handed : ∀ {d : AV} {v : Value}, VR C g ρ d v → handedIn v = true
  | .none, _, x => by rw [x]; rfl
  | .bool _, _, x => by rw [x]; rfl
  | .int _, _, ⟨t, x⟩ => by rw [x]; rfl
  | .tup _, _, ⟨a, vs, x, _⟩ => by rw [x]; rfl
  | .lst _, _, ⟨a, _, x⟩ => by rw [x]; rfl
  | .scr _, _, ⟨a, vs, x, _⟩ => by rw [x]; rfl
  | .curve _ _ _ _, _, ⟨a, _, _, _, _, x, _⟩ => by rw [x]; rfl

theorem attrSound (W : Wd prog w A C h₀ K fnv T) {a : Nat} (ha : a < 4) {d : AV} {v : Value} {Q : AV → St → Prop} (R : Rel C h₀ g ρ st s.heap) (hv : VR C g ρ d v) (h : attrW a d st Q) :
    wpAny (model prog w) A (getAttr v (fldm a) true) (Post C h₀ g ρ s Q) NoE s := by
  unfold attrW at h
  cases d with
  | curve p b q n =>
    obtain ⟨x, tp, tb, vg, tn, rfl, ⟨dx, es, k, h1, h2, h3, h4, h5⟩, hg⟩ := hv
    have X := W.kin.keeps R.keep0
    have I : InstAt s.heap x (instObj C dx) C (some (dictOf es k)) := ⟨R.base _ _ h1, rfl, rfl, R.base _ _ h2⟩
    have go : ∀ (u : Value) (d' : AV), ([.int p tp, .int b tb, vg, .int n tn] : List Value)[a]? = some u → VR C g ρ d' u → Q d' st → wpAny (model prog w) A (getAttr (.ref x) (fldm a) true) (Post C h₀ g ρ s Q) NoE s := fun u d' hu hvu hq =>
      get_value X I W.kf.ga (findObj_own W.kf.hasDict (W.kf.fld a ha) rfl (by rw [lookIn_dict]; exact h4 a u hu)) (VR_handed hvu) (Post.now R hvu hq)
    match a, ha with
    | 0, _ => exact go _ (.int p) rfl ⟨_, rfl⟩ h
    | 1, _ => exact go _ (.int b) rfl ⟨_, rfl⟩ h
    | 2, _ => exact go _ q rfl hg h
    | 3, _ => exact go _ (.int n) rfl ⟨_, rfl⟩ h
  | _ => exact h.elim

theorem methAt (W : Wd prog w A C h₀ K fnv T) {f : Nat} (hf : isMe f = true) {d : AV} {v : Value} {pl : Sem Bool} {Q : Value × List Value → Shared → Prop} {E : Value → Shared → Prop} (R : Rel C h₀ g ρ st s.heap) (hv : VR C g ρ d v) (hd : isCurve d)
    (h : Q (fnv f, [v]) s) : wpAny (model prog w) A (getMethod v (fnm f) pl) Q E s := by
  cases d <;> first | exact hd.elim | skip
  rename_i p b q n
  obtain ⟨x, tp, tb, vg, tn, rfl, ⟨dx, es, k, h1, h2, h3, h4, h5⟩, hg⟩ := hv
  have X := W.kin.keeps R.keep0
  have I : InstAt s.heap x (instObj C dx) C (some (dictOf es k)) := ⟨R.base _ _ h1, rfl, rfl, R.base _ _ h2⟩
  obtain ⟨a, e1, e2, e3, e4⟩ := W.kf.meth f hf
  have hm : fnm f ∈ methNames := by
    unfold isMe at hf
    simp only [Bool.and_eq_true, decide_eq_true_eq] at hf
    obtain ⟨z1, z2⟩ := hf
    have : f = 1 ∨ f = 2 ∨ f = 3 ∨ f = 4 ∨ f = 5 := by omega
    rcases this with rfl | rfl | rfl | rfl | rfl
    · exact .head _
    · exact .tail _ (.head _)
    · exact .tail _ (.tail _ (.head _))
    · exact .tail _ (.tail _ (.tail _ (.head _)))
    · exact .tail _ (.tail _ (.tail _ (.tail _ (.head _))))
  refine method_fn X I W.kf.ga W.kf.gat e2 (beq_iff_eq.mp e3) (by show (lookIn (fnm f) (dictOf es k)).map _ = _; rw [lookIn_dict, h5 _ hm]; rfl) ?_
  rw [e1] at h
  exact h

theorem methCall {x : Str} {q apos pos : Pos} {name : Str} {args : List Expr} {Q : Value → Shared → Prop} {E : Value → Shared → Prop} {o : Expr} (ho : attributeBase o name env (eval o env) = eval o env)
    (hst : (starEach args env).any (·.1) = false) (hn : args.length < 20) (hl : (apos.endLine == pos.line) = true)
    (h : wpAny (model prog w) A (eval o env) (fun ov s₁ => ∀ pl, wpAny (model prog w) A (getMethod ov name pl) (fun fx s₂ => wpAny (model prog w) A (callWith pos fx.1 fx.2 (backTo pos (starEach args env)) []) Q E s₂) E s₁) E s) :
    wpAny (model prog w) A (eval (.Call (.Attribute o name apos) args [] pos) env) Q E s := by
  show wpAny _ _ (do
    let ov ← attributeBase o name env (eval o env)
    standAt apos.atName
    methodCall o name apos pos env ov (args.length + 0) (backTo pos (starEach args env)) (backToKw pos (keywordEach [] env))) Q E s
  rw [ho]
  have hf : methodCallForm (args.length + 0) (backTo pos (starEach args env)) (backToKw pos (keywordEach [] env)) = true := by
    unfold methodCallForm
    have h1 : (backTo pos (starEach args env)).all (fun x => !x.1) = true := by
      have := backTo_any (pos := pos) (starEach args env)
      rw [hst] at this
      rw [List.all_eq_not_any_not]
      simp only [Bool.not_not]
      rw [this]; rfl
    rw [h1]
    show (true && true && decide (args.length + 0 + 0 < 30)) = true
    simp; omega
  refine wpAny_bind (wpAny_mono h (fun ov s₁ h₁ => wpAny_bind (wpAny_standAt ?_)) fun _ _ e => e)
  unfold methodCall
  rw [hf]
  unfold calleeOf
  refine wpAny_bind (wpAny_holding (wpAny_mono (h₁ _) (fun fx s₂ h₂ => ?_) fun _ _ e => e))
  obtain ⟨f, first⟩ := fx
  unfold methodCallPos
  have e2 : (!true || apos.endLine == pos.line) = true := by rw [hl]; rfl
  rw [if_pos e2]
  exact wpAny_bind (wpAny_pure h₂)
end
end Mine
set_option maxRecDepth 100000
namespace Mine
open PySem PySem.W PyProof.Rows PySem.Calls
section
variable {prog : Program} {w : World} {A : Around} {C : Addr} {h₀ : Heap} {K : Frag} {fnv : Nat → Value} {T : Prims} {env : Env} {g g' : Gh} {ρ ρ' : List Addr} {st : St} {loc : Loc} {sc : Scope} {s : Shared} {E : Value → Shared → Prop}

/-- what an iterator made of a source is -/
noncomputable def PostI (C : Addr) (h₀ : Heap) (g : Gh) (ρ : List Addr) (s : Shared) (Q : List AV → Option Nat → St → Prop) (v : Value) (s' : Shared) : Prop :=
  ∃ h' tk g' ρ' st' items src it, s' = { s with heap := h', toks := tk } ∧ v = .ref it ∧ Step [] g ρ s.heap g' ρ' h' ∧ Rel C h₀ g' ρ' st' h' ∧ ItAt ρ' items src 0 it h' ∧ s.heap.get? it = Option.none ∧ g' it = Option.none ∧ Q items src st'
@[elab_as_elim] theorem PostI.elim {Q : List AV → Option Nat → St → Prop} {v : Value} {s' : Shared} {P : Value → Shared → Prop} (h : PostI C h₀ g ρ s Q v s') (k : ∀ h' tk g' ρ' st' items src it, Step [] g ρ s.heap g' ρ' h' → Rel C h₀ g' ρ' st' h' → ItAt ρ' items src 0 it h' → s.heap.get? it = Option.none → g' it = Option.none → Q items src st' → P (.ref it) { s with heap := h', toks := tk }) : P v s' := by
  obtain ⟨h', tk, g', ρ', st', items, src, it, rfl, rfl, S, R, I, hi, gi, hq⟩ := h
  exact k _ _ _ _ _ _ _ _ S R I hi gi hq
noncomputable def PostA (C : Addr) (h₀ : Heap) (g : Gh) (ρ : List Addr) (s : Shared) (Q : AV → St → Prop) (v : Value) (s' : Shared) : Prop := Post C h₀ g ρ s Q v s'

noncomputable def SndI (prog : Program) (w : World) (A : Around) (C : Addr) (h₀ : Heap) (T : Prims) (pi : PI) (e : Expr) (env : Env) : Prop := ∀ (loc : Loc) (st : St) (Q : List AV → Option Nat → St → Prop) (g : Gh) (ρ : List Addr) (s : Shared), FR g env s.heap → Vars C g ρ env s.heap loc → Rel C h₀ g ρ st s.heap →
  itW T pi loc st Q → wpAny (model prog w) A (eval e env) (fun xv s₁ => wpAny (model prog w) A (pyIter xv) (PostI C h₀ g ρ s Q) NoE s₁) NoE s

theorem truthyS {Q : Bool → St → Prop} {e : Expr} {whole : Sem Value} (h : wpAny (model prog w) A whole (Post C h₀ g ρ s (tob Q)) NoE s)
    (he : isTrue e env whole = (do let v ← whole; standAt e.pos; holding [v] (truthy v)) := by rfl) : wpAny (model prog w) A (isTrue e env whole) (PostB C h₀ g ρ s Q) NoE s := by
  refine isTrue_plain (wpAny_mono h (fun v s₁ h₁ => ?_) fun _ _ f => f) he
  refine h₁.elim fun h' tk g' ρ' st' d S R hv hq => ?_
  cases d with
  | bool b => rw [hv]; exact wpAny_truthy_bool ⟨h', tk, g', ρ', st', rfl, S, R, hq⟩
  | _ => exact hq.elim

/-- from a step to the next -/
theorem next {α : Type} {t : Sem α} {P : α → Shared → Prop} {h' : Heap} {tk : Nat} {Q : AV → St → Prop} {u : α → Sem Value} : True := trivial

theorem listRead {l : Addr} {ds : List AV} {k : Nat} (R : Rel C h₀ g ρ st s.heap) (h1 : st[k]? = some ds) (h2 : ρ[k]? = some l) : ∃ vs, s.heap.PlainList l vs.toArray ∧ VRs C g ρ ds vs := by
  obtain ⟨a, vs, ha, hp, hv⟩ := R.lists k ds h1
  rw [h2] at ha; cases ha
  exact ⟨vs, hp, hv⟩

theorem intsTake : ∀ {vs : List Value} {ns : List Int} (k : Nat), IntsAre vs ns → VRs C g ρ ((ns.take k).map .int) (vs.take k)
  | _, _, 0, _ => by simp [VRs]
  | _, _, k + 1, .nil => by simp [VRs]
  | _, _, k + 1, .cons n t r => by
    simp only [List.take_succ_cons, List.map_cons]
    exact ⟨_, _, rfl, ⟨t, rfl⟩, intsTake k r⟩

theorem slicePick_upto' (vs : List Value) (k : Nat) : slicePick vs.toArray Option.none (some (k : Int)) Option.none = (vs.take k).toArray := by
  by_cases h : k ≤ vs.length
  · rw [slicePick_upto _ _ (by simpa using h)]
  · have h' : vs.length < k := Nat.lt_of_not_le h
    have e : slicePick vs.toArray Option.none (some (k : Int)) Option.none = slicePick vs.toArray Option.none (some (vs.length : Int)) Option.none := by
      unfold slicePick
      have : sliceBounds Option.none (some (k : Int)) Option.none vs.toArray.size = sliceBounds Option.none (some (vs.length : Int)) Option.none vs.toArray.size := by
        simp only [sliceBounds, Option.getD_none, List.size_toArray]
        simp only [show (1 : Int) > 0 by decide, if_true]
        have h1 : ¬ ((k : Int) < 0) := by omega
        have h2 : ¬ ((vs.length : Int) < 0) := by omega
        simp only [h1, h2, if_false]
        congr 2
        omega
      rw [this]
    rw [e, slicePick_upto _ _ (by simp), List.take_of_length_le (Nat.le_of_lt h')]
    simp

theorem rangeCall {a b : Int} {Q : List AV → Option Nat → St → Prop} {va vb : Value} (R : Rel C h₀ g ρ st s.heap) (ha : VR C g ρ (.int a) va) (hb : VR C g ρ (.int b) vb) (h : rngW (.int a) (.int b) st Q) :
    wpAny (model prog w) A (call (.type "range") [va, vb]) (fun xv s₁ => wpAny (model prog w) A (pyIter xv) (PostI C h₀ g ρ s Q) NoE s₁) NoE s := by
  obtain ⟨t, rfl⟩ := ha
  obtain ⟨u, rfl⟩ := hb
  obtain ⟨h1, h2, h3, h4, hq⟩ := h
  refine call_range_2 ?_
  refine iterRange (ρ := ρ) (s := { s with heap := s.heap.push { cls := .type "range", data := .fields #[.int a t, .int b u, .int 1 s.toks] }, toks := s.toks + 1 }) (Heap.get?_push_size _ rfl) h1 h2 h3 h4 fun it h' I hn hk => ?_
  have k1 := push_keep s.heap { cls := .type "range", data := .fields #[.int a t, .int b u, .int 1 s.toks] }
  have R1 := R.grow fun b o e => hk b o (k1 b o e)
  have hn0 : s.heap.get? it = none := none_of_alive (fun b o e => ⟨o, k1 b o e⟩) hn
  exact ⟨h', _, g, ρ, st, _, _, it, rfl, rfl, Step.grow (fun b o e => hk b o (k1 b o e)) _ _ _, R1, I, hn0, gfree_of R hn0, hq⟩
theorem rangeCall1 {b : Int} {Q : List AV → Option Nat → St → Prop} {vb : Value} (R : Rel C h₀ g ρ st s.heap) (hb : VR C g ρ (.int b) vb) (h : rngW (.int 0) (.int b) st Q) :
    wpAny (model prog w) A (call (.type "range") [vb]) (fun xv s₁ => wpAny (model prog w) A (pyIter xv) (PostI C h₀ g ρ s Q) NoE s₁) NoE s := by
  obtain ⟨u, rfl⟩ := hb
  obtain ⟨h1, h2, h3, h4, hq⟩ := h
  refine call_range_1 ?_
  refine iterRange (ρ := ρ) (s := { s with heap := s.heap.push { cls := .type "range", data := .fields #[.int 0 s.toks, .int b u, .int 1 (s.toks + 1)] }, toks := s.toks + 1 + 1 }) (Heap.get?_push_size _ rfl) h1 h2 h3 h4 fun it h' I hn hk => ?_
  have k1 := push_keep s.heap { cls := .type "range", data := .fields #[.int 0 s.toks, .int b u, .int 1 (s.toks + 1)] }
  have R1 := R.grow fun b o e => hk b o (k1 b o e)
  have hn0 : s.heap.get? it = none := none_of_alive (fun b o e => ⟨o, k1 b o e⟩) hn
  exact ⟨h', _, g, ρ, st, _, _, it, rfl, rfl, Step.grow (fun b o e => hk b o (k1 b o e)) _ _ _, R1, I, hn0, gfree_of R hn0, hq⟩
theorem PostI.after {Q : List AV → Option Nat → St → Prop} {v : Value} {s' : Shared} {h' : Heap} {tk : Nat} (S : Step [] g ρ s.heap g' ρ' h') (P : PostI C h₀ g' ρ' { s with heap := h', toks := tk } Q v s') : PostI C h₀ g ρ s Q v s' := by
  obtain ⟨h2, tk2, g2, ρ2, st2, items, src, it, e, ev, S2, R2, I2, hn, hg, hq⟩ := P
  exact ⟨h2, tk2, g2, ρ2, st2, items, src, it, by rw [e], ev, S.trans S2, R2, I2, none_of_alive S.alive hn, hg, hq⟩

/-- a comprehension, from its source on, up to what is done with its list -/
theorem compRest1 (W : Wd prog w A C h₀ K fnv T) {caps : List Nat} {x : Nat} {c : PEs} {elt : PE} {elt' it' : Expr} {ifs' : List Expr} {q p : Pos} {sc' : Scope} {items : List AV} {src : Option Nat} {it : Addr} {RR : Value → Addr → Result → Shared → Prop} {Q : AV → St → Prop}
    (hsc : compSc sc sc' caps = true) (hS : SEnv sc env) (hxl : scLocal sc' x = true) (HE : ∀ cenv, SEnv sc' cenv → Snd prog w A C h₀ T elt elt' cenv) (HC : ∀ cenv, SEnv sc' cenv → SndC prog w A C h₀ T c ifs' cenv)
    {gB : Gh} {ρB : List Addr} {hB : Heap} (S0 : Step [] gB ρB hB g ρ s.heap) (F : FR g env s.heap) (V : Vars C g ρ env s.heap loc) (R : Rel C h₀ g ρ st s.heap) (I : ItAt ρ items src 0 it s.heap) (hitB : hB.get? it = Option.none) (gIt : g it = Option.none)
    (h : match capture loc caps with
      | some loc₀ => loopW (fun v st' K => stillW src items st' ∧ andW' T c ((x, v) :: loc₀) st' fun ok st' => if ok = true then evalW T elt ((x, v) :: loc₀) st' fun d st' => appendW (.lst st.length) d st' K else K st')
          items (st ++ [[]]) fun st' => stillW src items st' ∧ Q (.lst st.length) st'
      | Option.none => False)
    (hR : ∀ acc L h' tk g' ρ' st' m, Step [L] gB ρB hB g' ρ' h' → Rel C h₀ g' ρ' st' h' → hB.get? L = Option.none → s.heap.get? L = Option.none → h'.Ns L m → g' L = Option.none → ρ'[st.length]? = some acc → Q (.lst st.length) st' →
      RR (.ref acc) L (.ok .next) { s with heap := h', toks := tk }) :
    wpAny (model prog w) A (newList []) (fun acc s₃ => wpAny (model prog w) A (newFunctionEnv sc' env.globals (clOf env sc'.names []) [] env.qual none .none (some env)) (fun cenv s₄ =>
      codeAny (model prog w) A (.compStart (.ListComp elt' [⟨.Name (nm x) q, it', ifs', 0⟩] sc' p) 0 (.ref it) acc { cenv with scope := relabel sc' env }) (RR acc cenv.locals) s₄) E s₃) E s := by
  cases hcap : capture loc caps with
  | none => rw [hcap] at h; exact h.elim
  | some loc₀ =>
    rw [hcap] at h
    refine compEnter hsc hS F V R hcap S0 I hitB gIt fun L h' acc tk P hLB hLs hSc hloc hk => ?_
    obtain ⟨hx, hkx, hx0⟩ := hloc x hxl
    have fin : ∀ s'' : Shared, s'' = { s with heap := h', toks := tk } → codeAny (model prog w) A (.compLoop (.ListComp elt' [⟨.Name (nm x) q, it', ifs', 0⟩] sc' p) 0 (.ref it) (.ref acc) (compEnvC sc' (clOf env sc'.names []) L env)) (RR (.ref acc) L) s'' := by
      rintro s'' rfl
      refine comp1Loop (s := { s with heap := h', toks := tk }) (K := fun st' => Q (.lst st.length) st') W.okA hx hkx hx0 (HE _ hSc) (HC _ hSc) hitB P h fun h2 tk2 g2 ρ2 st2 i P2 hq h3 he => ?_
      have hio := P2.I.own P2.F
      have F3 := P2.F.keepBut hio he
      obtain ⟨m, hm⟩ := F3.ns
      exact hR acc L h3 tk2 g2 ρ2 st2 m (P2.S.iter hitB he) (P2.R.off he P2.gIt (P2.I.off P2.R)) hLB hLs hm F3.lfree P2.hacc hq
    refine codeAny_compStart_list (fin _ rfl) (iterSelf P.I (fin _ rfl))
theorem compRest2 (W : Wd prog w A C h₀ K fnv T) {caps : List Nat} {x y : Nat} {it2 elt : PE} {elt' it' i2 : Expr} {q q2 p : Pos} {sc' : Scope} {items : List AV} {src : Option Nat} {it : Addr} {RR : Value → Addr → Result → Shared → Prop} {Q : AV → St → Prop}
    (hsc : compSc sc sc' caps = true) (hS : SEnv sc env) (hxl : scLocal sc' x = true) (hyl : scLocal sc' y = true) (hxy : x ≠ y) (HI : ∀ cenv, SEnv sc' cenv → Snd prog w A C h₀ T it2 i2 cenv) (hset : ∀ cenv v, foldedSetIterable i2 cenv v = pure v) (HE : ∀ cenv, SEnv sc' cenv → Snd prog w A C h₀ T elt elt' cenv)
    {gB : Gh} {ρB : List Addr} {hB : Heap} (S0 : Step [] gB ρB hB g ρ s.heap) (F : FR g env s.heap) (V : Vars C g ρ env s.heap loc) (R : Rel C h₀ g ρ st s.heap) (I : ItAt ρ items src 0 it s.heap) (hitB : hB.get? it = Option.none) (gIt : g it = Option.none)
    (h : match capture loc caps with
      | some loc₀ => loopW (fun v st' K => stillW src items st' ∧ evalW T it2 ((x, v) :: loc₀) st' fun a st' => seqW a st' fun items2 src2 st' =>
          loopW (fun u st' K => stillW src2 items2 st' ∧ evalW T elt ((y, u) :: (x, v) :: loc₀) st' fun d st' => appendW (.lst st.length) d st' K) items2 st' fun st' => stillW src2 items2 st' ∧ K st')
          items (st ++ [[]]) fun st' => stillW src items st' ∧ Q (.lst st.length) st'
      | Option.none => False)
    (hR : ∀ acc L h' tk g' ρ' st' m, Step [L] gB ρB hB g' ρ' h' → Rel C h₀ g' ρ' st' h' → hB.get? L = Option.none → s.heap.get? L = Option.none → h'.Ns L m → g' L = Option.none → ρ'[st.length]? = some acc → Q (.lst st.length) st' →
      RR (.ref acc) L (.ok .next) { s with heap := h', toks := tk }) :
    wpAny (model prog w) A (newList []) (fun acc s₃ => wpAny (model prog w) A (newFunctionEnv sc' env.globals (clOf env sc'.names []) [] env.qual none .none (some env)) (fun cenv s₄ =>
      codeAny (model prog w) A (.compStart (.ListComp elt' [⟨.Name (nm x) q, it', [], 0⟩, ⟨.Name (nm y) q2, i2, [], 0⟩] sc' p) 0 (.ref it) acc { cenv with scope := relabel sc' env }) (RR acc cenv.locals) s₄) E s₃) E s := by
  cases hcap : capture loc caps with
  | none => rw [hcap] at h; exact h.elim
  | some loc₀ =>
    rw [hcap] at h
    refine compEnter hsc hS F V R hcap S0 I hitB gIt fun L h' acc tk P hLB hLs hSc hloc hk => ?_
    obtain ⟨hx, hkx, hx0⟩ := hloc x hxl
    obtain ⟨hy, hky, hy0⟩ := hloc y hyl
    have fin : ∀ s'' : Shared, s'' = { s with heap := h', toks := tk } → codeAny (model prog w) A (.compLoop (.ListComp elt' [⟨.Name (nm x) q, it', [], 0⟩, ⟨.Name (nm y) q2, i2, [], 0⟩] sc' p) 0 (.ref it) (.ref acc) (compEnvC sc' (clOf env sc'.names []) L env)) (RR (.ref acc) L) s'' := by
      rintro s'' rfl
      refine comp2Loop (s := { s with heap := h', toks := tk }) (K := fun st' => Q (.lst st.length) st') W.okA hx hkx hx0 hy hky hy0 hxy (HI _ hSc) (hset _) (HE _ hSc) hitB P h fun h2 tk2 g2 ρ2 st2 i P2 hq h3 he => ?_
      have hio := P2.I.own P2.F
      have F3 := P2.F.keepBut hio he
      obtain ⟨m, hm⟩ := F3.ns
      exact hR acc L h3 tk2 g2 ρ2 st2 m (P2.S.iter hitB he) (P2.R.off he P2.gIt (P2.I.off P2.R)) hLB hLs hm F3.lfree P2.hacc hq
    refine codeAny_compStart_list (fin _ rfl) (iterSelf P.I (fin _ rfl))
end
end Mine
set_option maxRecDepth 100000
set_option maxHeartbeats 4000000
namespace Mine
open PySem PySem.W PyProof.Rows PySem.Calls
section
variable {prog : Program} {w : World} {A : Around} {C : Addr} {h₀ : Heap} {K : Frag} {fnv : Nat → Value} {T : Prims}

noncomputable def SndL (prog : Program) (w : World) (A : Around) (C : Addr) (h₀ : Heap) (T : Prims) (ps : PEs) (es : List Expr) (env : Env) : Prop := ∀ (pos : Pos) (loc : Loc) (st : St) (Q : List AV → St → Prop) (g : Gh) (ρ : List Addr) (s : Shared), FR g env s.heap → Vars C g ρ env s.heap loc → Rel C h₀ g ρ st s.heap →
  evalsW T ps loc st Q → wpAny (model prog w) A (spliced (backTo pos (starEach es env))) (PostL C h₀ g ρ s Q) NoE s

theorem callSound (W : Wd prog w A C h₀ K fnv T) {f : Nat} {first : List Value} {fds : List AV} {args : PEs} {args' : List Expr} {env : Env} {sc : Scope} {pos : Pos} (hk : keepIn K (fnv f) = true ∨ ∃ id, fnv f = .builtin id) (hc : chkEs sc args args' = true) (HL : SndL prog w A C h₀ T args args' env)
    {loc : Loc} {st : St} {Q : AV → St → Prop} {g : Gh} {ρ : List Addr} {s : Shared} (F : FR g env s.heap) (V : Vars C g ρ env s.heap loc) (R : Rel C h₀ g ρ st s.heap) (hf : VRs C g ρ fds first)
    (h : evalsW T args loc st fun ds st => T.call f (fds ++ ds) st Q) : wpAny (model prog w) A (callWith pos (fnv f) first (backTo pos (starEach args' env)) []) (Post C h₀ g ρ s Q) NoE s := by
  have fin := wpAny_mono (HL pos loc st _ g ρ s F V R h) (Q' := fun vs s₁ => K.In s₁.heap ∧ wpAny (model prog w) A (call (fnv f) (first ++ vs)) (Post C h₀ g ρ s Q) NoE s₁) (fun vs s₁ h₁ => by
    refine h₁.elim fun h' tk g' ρ' st' ds S R' hv hq => ?_
    exact ⟨W.kin.keeps (R'.keep0 (s := { s with heap := h', toks := tk })), wpAny_mono (W.call f _ st' Q g' ρ' { s with heap := h', toks := tk } _ hq R' ((hf.step S).append hv)) (fun v s2 P => P.after S) fun _ _ x => x⟩) (fun _ _ x => x)
  cases args' with
  | nil =>
    have z := (show wpAny (model prog w) A (pure [] : Sem (List Value)) (fun vs s₁ => K.In s₁.heap ∧ wpAny (model prog w) A (call (fnv f) (first ++ vs)) (Post C h₀ g ρ s Q) NoE s₁) NoE s from fin)
    have z2 : wpAny (model prog w) A (call (fnv f) (first ++ [])) (Post C h₀ g ρ s Q) NoE s := fun Γ p hΓ => (z Γ p hΓ).2 Γ p hΓ
    rcases hk with hk | ⟨id, e⟩
    · exact callWith_K0 (W.kin.keeps R.keep0) hk z2
    · rw [e] at z2 ⊢
      exact callWith_method0 (by simpa using z2)
  | cons e r =>
    have hs : starEach (e :: r) env = (false, eval e env) :: starEach r env := by
      cases args with
      | nil => exact absurd (inv_nil hc) (by simp)
      | cons a b => obtain ⟨e', r', q, _, h2, _⟩ := inv_cons hc; cases q; exact starEach_plain h2
    have hp : (backTo pos (starEach r env)).any (·.1) = false := by
      cases args with
      | nil => exact absurd (inv_nil hc) (by simp)
      | cons a b => obtain ⟨e', r', q, _, _, h3⟩ := inv_cons hc; cases q; rw [backTo_any]; exact stars_plain h3
    rcases hk with hk | ⟨id, ee⟩
    · exact callWith_K (W.kin) hk fin hs hp
    · rw [ee] at fin ⊢
      exact callWith_method1 (wpAny_mono fin (fun _ _ x => x.2) fun _ _ x => x) hs hp

theorem slice_set {e : Expr} (h : isSet e = false) (env : Env) (v : Value) : foldedSetIterable e env v = pure v := by
  cases e <;> first | rfl | cases h
theorem chkI_set {sc : Scope} {pi : PI} {e : Expr} (h : chkI sc pi e = true) (env : Env) (v : Value) : foldedSetIterable e env v = pure v := by
  cases pi with
  | rng1 b => obtain ⟨q, b', p, rfl, _⟩ := inv_rng1 h; rfl
  | rng2 a b => obtain ⟨q, a', b', p, rfl, _⟩ := inv_rng2 h; rfl
  | seq a => exact slice_set (inv_seq h).2 env v

theorem notComp_base {o : Expr} {name : Str} {env : Env} (h : isName o = true) : attributeBase o name env (eval o env) = eval o env := by
  cases o <;> first | rfl | cases h

/-- what holds of a text: it may be evaluated and it may be tested -/
noncomputable def P1 (prog : Program) (w : World) (A : Around) (C : Addr) (h₀ : Heap) (T : Prims) (pe : PE) : Prop :=
  (∀ (e : Expr) (sc : Scope) (env : Env), chkE sc pe e = true → SEnv sc env → Snd prog w A C h₀ T pe e env) ∧ ∀ (e : Expr) (sc : Scope) (env : Env), chkE sc pe e = true → SEnv sc env → SndT prog w A C h₀ T pe e env
noncomputable def AllP (prog : Program) (w : World) (A : Around) (C : Addr) (h₀ : Heap) (T : Prims) : PEs → Prop
  | .nil => True
  | .cons a r => P1 prog w A C h₀ T a ∧ AllP prog w A C h₀ T r
noncomputable def P3 (prog : Program) (w : World) (A : Around) (C : Addr) (h₀ : Heap) (T : Prims) : PI → Prop
  | .rng1 b => P1 prog w A C h₀ T b
  | .rng2 a b => P1 prog w A C h₀ T a ∧ P1 prog w A C h₀ T b
  | .seq e => P1 prog w A C h₀ T e
noncomputable def Parts (prog : Program) (w : World) (A : Around) (C : Addr) (h₀ : Heap) (T : Prims) : PE → Prop
  | .none  => True
  | .bool b => True
  | .int i => True
  | .var x => True
  | .glob x => True
  | .bin op l r => P1 prog w A C h₀ T l ∧ P1 prog w A C h₀ T r
  | .neg x => P1 prog w A C h₀ T x
  | .not x => P1 prog w A C h₀ T x
  | .and xs => AllP prog w A C h₀ T xs
  | .or xs => AllP prog w A C h₀ T xs
  | .ite t b o => P1 prog w A C h₀ T t ∧ P1 prog w A C h₀ T b ∧ P1 prog w A C h₀ T o
  | .tup es => AllP prog w A C h₀ T es
  | .list es => AllP prog w A C h₀ T es
  | .cmp l ops rs => P1 prog w A C h₀ T l ∧ AllP prog w A C h₀ T rs
  | .sub v i => P1 prog w A C h₀ T v ∧ P1 prog w A C h₀ T i
  | .cut v k => P1 prog w A C h₀ T v
  | .attr v a => P1 prog w A C h₀ T v
  | .call f args => AllP prog w A C h₀ T args
  | .meth f o args => P1 prog w A C h₀ T o ∧ AllP prog w A C h₀ T args
  | .comp1 caps x it c elt => P3 prog w A C h₀ T it ∧ AllP prog w A C h₀ T c ∧ P1 prog w A C h₀ T elt
  | .comp2 caps x it y it2 elt => P3 prog w A C h₀ T it ∧ P1 prog w A C h₀ T it2 ∧ P1 prog w A C h₀ T elt
theorem evalsS' (W : Wd prog w A C h₀ K fnv T) : ∀ (ps : PEs), AllP prog w A C h₀ T ps → ∀ (es : List Expr) (sc : Scope) (env : Env), chkEs sc ps es = true → SEnv sc env → SndL prog w A C h₀ T ps es env
  | .nil, HP, es, sc, env, hc, hS => fun pos loc st Q g ρ s F V R h => by
    rw [inv_nil hc]
    dsimp only [evalsW] at h
    exact spliced_none ⟨s.heap, s.toks, g, ρ, st, [], rfl, Step.refl _ _ _ _, R, rfl, h⟩
  | .cons a r, HP, es, sc, env, hc, hS => fun pos loc st Q g ρ s F V R h => by
    obtain ⟨e', r', rfl, h1, h2, h3⟩ := inv_cons hc
    dsimp only [evalsW] at h
    refine spliced_more (wpAny_mono (HP.1.1 e' sc env h1 hS loc st _ g ρ s F V R h) (fun v s₁ P₁ => ?_) fun _ _ x => x) (starEach_plain h2)
    refine P₁.elim fun h' tk g' ρ' st' d S R' hv hq => ?_
    refine wpAny_mono (evalsS' W r HP.2 r' sc env h3 hS pos loc st' _ g' ρ' { s with heap := h', toks := tk } (F.step R S) (V.step F R S) R' hq) (fun vs s₂ P₂ => ?_) fun _ _ x => x
    refine P₂.elim fun h2' tk2 g2 ρ2 st2 ds S2 R2 hu hq2 => ?_
    exact ⟨h2', tk2, g2, ρ2, st2, d :: ds, rfl, S.trans S2, R2, ⟨v, vs, rfl, hv.step S2, hu⟩, hq2⟩

theorem andS' (W : Wd prog w A C h₀ K fnv T) : ∀ (xs : PEs), AllP prog w A C h₀ T xs → ∀ (es : List Expr) (sc : Scope) (env : Env), chkEs sc xs es = true → SEnv sc env → ∀ (pos : Pos) (loc : Loc) (st : St) (Q : AV → St → Prop) (g : Gh) (ρ : List Addr) (s : Shared), FR g env s.heap → Vars C g ρ env s.heap loc → Rel C h₀ g ρ st s.heap →
    andW T xs loc st Q → wpAny (model prog w) A (eval (.BoolOp .And es pos) env) (Post C h₀ g ρ s Q) NoE s
  | .nil, HP, es, sc, env, hc, hS => fun pos loc st Q g ρ s F V R h => (False.elim h)
  | .cons a r, HP, es, sc, env, hc, hS => fun pos loc st Q g ρ s F V R h => by
    obtain ⟨e', r', rfl, h1, h2, h3⟩ := inv_cons hc
    cases r with
    | nil =>
      rw [inv_nil h3]
      dsimp only [andW] at h
      exact BoolOp_one (HP.1.1 e' sc env h1 hS loc st Q g ρ s F V R h)
    | cons b r2 =>
      have h3' := h3
      obtain ⟨e2, r2', rfl, _⟩ := inv_cons h3
      dsimp only [andW] at h
      refine BoolOp_and (wpAny_mono (HP.1.1 e' sc env h1 hS loc st _ g ρ s F V R h) (fun v s₁ P₁ => ?_) fun _ _ x => x)
      refine P₁.elim fun h' tk g' ρ' st' d S R' hv hq => ?_
      cases d with
      | bool c =>
        rw [hv]
        refine wpAny_truthy_bool ?_
        cases c with
        | true =>
          simp only [tob_bool, if_true] at hq ⊢
          exact wpAny_mono (andS' W (.cons b r2) HP.2 (e2 :: r2') sc env h3' hS pos loc st' Q g' ρ' { s with heap := h', toks := tk } (F.step R S) (V.step F R S) R' hq) (fun v s3 P => P.after S) fun _ _ x => x
        | false =>
          simp only [tob_bool, Bool.false_eq_true, if_false] at hq ⊢
          exact Post.after S (Post.nowT (s := { s with heap := h', toks := tk }) (d := .bool false) R' rfl hq)
      | _ => exact hq.elim

theorem orS' (W : Wd prog w A C h₀ K fnv T) : ∀ (xs : PEs), AllP prog w A C h₀ T xs → ∀ (es : List Expr) (sc : Scope) (env : Env), chkEs sc xs es = true → SEnv sc env → ∀ (pos : Pos) (loc : Loc) (st : St) (Q : AV → St → Prop) (g : Gh) (ρ : List Addr) (s : Shared), FR g env s.heap → Vars C g ρ env s.heap loc → Rel C h₀ g ρ st s.heap →
    orW T xs loc st Q → wpAny (model prog w) A (eval (.BoolOp .Or es pos) env) (Post C h₀ g ρ s Q) NoE s
  | .nil, HP, es, sc, env, hc, hS => fun pos loc st Q g ρ s F V R h => (False.elim h)
  | .cons a r, HP, es, sc, env, hc, hS => fun pos loc st Q g ρ s F V R h => by
    obtain ⟨e', r', rfl, h1, h2, h3⟩ := inv_cons hc
    cases r with
    | nil =>
      rw [inv_nil h3]
      dsimp only [orW] at h
      exact BoolOp_one (HP.1.1 e' sc env h1 hS loc st Q g ρ s F V R h)
    | cons b r2 =>
      have h3' := h3
      obtain ⟨e2, r2', rfl, _⟩ := inv_cons h3
      dsimp only [orW] at h
      refine BoolOp_or (wpAny_mono (HP.1.1 e' sc env h1 hS loc st _ g ρ s F V R h) (fun v s₁ P₁ => ?_) fun _ _ x => x)
      refine P₁.elim fun h' tk g' ρ' st' d S R' hv hq => ?_
      cases d with
      | bool c =>
        rw [hv]
        refine wpAny_truthy_bool ?_
        cases c with
        | true =>
          simp only [tob_bool, if_true] at hq ⊢
          exact Post.after S (Post.nowT (s := { s with heap := h', toks := tk }) (d := .bool true) R' rfl hq)
        | false =>
          simp only [tob_bool, Bool.false_eq_true, if_false] at hq ⊢
          exact wpAny_mono (orS' W (.cons b r2) HP.2 (e2 :: r2') sc env h3' hS pos loc st' Q g' ρ' { s with heap := h', toks := tk } (F.step R S) (V.step F R S) R' hq) (fun v s3 P => P.after S) fun _ _ x => x
      | _ => exact hq.elim

theorem tandS' (W : Wd prog w A C h₀ K fnv T) : ∀ (xs : PEs), AllP prog w A C h₀ T xs → ∀ (es : List Expr) (sc : Scope) (env : Env), chkEs sc xs es = true → SEnv sc env → ∀ (pos : Pos) (whole : Sem Value) (loc : Loc) (st : St) (Q : Bool → St → Prop) (g : Gh) (ρ : List Addr) (s : Shared), FR g env s.heap → Vars C g ρ env s.heap loc → Rel C h₀ g ρ st s.heap →
    andW T xs loc st (tob Q) → wpAny (model prog w) A (isTrue (.BoolOp .And es pos) env whole) (PostB C h₀ g ρ s Q) NoE s
  | .nil, HP, es, sc, env, hc, hS => fun pos whole loc st Q g ρ s F V R h => (False.elim h)
  | .cons a r, HP, es, sc, env, hc, hS => fun pos whole loc st Q g ρ s F V R h => by
    obtain ⟨e', r', rfl, h1, h2, h3⟩ := inv_cons hc
    cases r with
    | nil =>
      rw [inv_nil h3]
      dsimp only [andW] at h
      refine isTrue_and (wpAny_mono (HP.1.2 e' sc env h1 hS loc st Q g ρ s F V R h) (fun c s₁ P₁ => ?_) fun _ _ x => x)
      cases c with
      | true => simp only [if_true]; exact isTrue_and_nil P₁
      | false => simp only [Bool.false_eq_true, if_false]; exact P₁
    | cons b r2 =>
      have h3' := h3
      obtain ⟨e2, r2', rfl, _⟩ := inv_cons h3
      dsimp only [andW] at h
      refine isTrue_and (wpAny_mono (HP.1.2 e' sc env h1 hS loc st _ g ρ s F V R h) (fun c s₁ P₁ => ?_) fun _ _ x => x)
      refine P₁.elim fun h' tk g' ρ' st' S R' hq => ?_
      cases c with
      | true =>
        simp only [if_true] at hq ⊢
        exact wpAny_mono (tandS' W (.cons b r2) HP.2 (e2 :: r2') sc env h3' hS pos whole loc st' Q g' ρ' { s with heap := h', toks := tk } (F.step R S) (V.step F R S) R' hq) (fun v s3 P => P.after S) fun _ _ x => x
      | false =>
        simp only [tob_bool, Bool.false_eq_true, if_false] at hq ⊢
        exact ⟨h', tk, g', ρ', st', rfl, S, R', hq⟩

theorem torS' (W : Wd prog w A C h₀ K fnv T) : ∀ (xs : PEs), AllP prog w A C h₀ T xs → ∀ (es : List Expr) (sc : Scope) (env : Env), chkEs sc xs es = true → SEnv sc env → ∀ (pos : Pos) (whole : Sem Value) (loc : Loc) (st : St) (Q : Bool → St → Prop) (g : Gh) (ρ : List Addr) (s : Shared), FR g env s.heap → Vars C g ρ env s.heap loc → Rel C h₀ g ρ st s.heap →
    orW T xs loc st (tob Q) → wpAny (model prog w) A (isTrue (.BoolOp .Or es pos) env whole) (PostB C h₀ g ρ s Q) NoE s
  | .nil, HP, es, sc, env, hc, hS => fun pos whole loc st Q g ρ s F V R h => (False.elim h)
  | .cons a r, HP, es, sc, env, hc, hS => fun pos whole loc st Q g ρ s F V R h => by
    obtain ⟨e', r', rfl, h1, h2, h3⟩ := inv_cons hc
    cases r with
    | nil =>
      rw [inv_nil h3]
      dsimp only [orW] at h
      refine isTrue_or (wpAny_mono (HP.1.2 e' sc env h1 hS loc st Q g ρ s F V R h) (fun c s₁ P₁ => ?_) fun _ _ x => x)
      cases c with
      | true => simp only [if_true]; exact P₁
      | false => simp only [Bool.false_eq_true, if_false]; exact isTrue_or_nil P₁
    | cons b r2 =>
      have h3' := h3
      obtain ⟨e2, r2', rfl, _⟩ := inv_cons h3
      dsimp only [orW] at h
      refine isTrue_or (wpAny_mono (HP.1.2 e' sc env h1 hS loc st _ g ρ s F V R h) (fun c s₁ P₁ => ?_) fun _ _ x => x)
      refine P₁.elim fun h' tk g' ρ' st' S R' hq => ?_
      cases c with
      | true =>
        simp only [tob_bool, if_true] at hq ⊢
        exact ⟨h', tk, g', ρ', st', rfl, S, R', hq⟩
      | false =>
        simp only [Bool.false_eq_true, if_false] at hq ⊢
        exact wpAny_mono (torS' W (.cons b r2) HP.2 (e2 :: r2') sc env h3' hS pos whole loc st' Q g' ρ' { s with heap := h', toks := tk } (F.step R S) (V.step F R S) R' hq) (fun v s3 P => P.after S) fun _ _ x => x

theorem testsS' (W : Wd prog w A C h₀ K fnv T) : ∀ (c : PEs), AllP prog w A C h₀ T c → ∀ (ifs : List Expr) (sc : Scope) (env : Env), chkEs sc c ifs = true → SEnv sc env → SndC prog w A C h₀ T c ifs env
  | .nil, HP, ifs, sc, env, hc, hS => fun loc st Q g ρ s F V R h => by
    rw [inv_nil hc]
    dsimp only [andW'] at h
    exact wpAny_tests_nil ⟨s.heap, s.toks, g, ρ, st, rfl, Step.refl _ _ _ _, R, h⟩
  | .cons a r, HP, ifs, sc, env, hc, hS => fun loc st Q g ρ s F V R h => by
    obtain ⟨e', r', rfl, h1, h2, h3⟩ := inv_cons hc
    cases r with
    | nil =>
      rw [inv_nil h3]
      dsimp only [andW'] at h
      exact wpAny_tests_one (HP.1.2 e' sc env h1 hS loc st Q g ρ s F V R h)
    | cons b r2 => dsimp only [andW'] at h

theorem chainS' (W : Wd prog w A C h₀ K fnv T) : ∀ (rs : PEs), AllP prog w A C h₀ T rs → ∀ (es : List Expr) (sc : Scope) (env : Env), chkEs sc rs es = true → SEnv sc env → ∀ (a : AV) (ops : List CmpOp) (pos : Pos) (loc : Loc) (st : St) (Q : AV → St → Prop) (g : Gh) (ρ : List Addr) (s : Shared) (va : Value), FR g env s.heap → Vars C g ρ env s.heap loc → Rel C h₀ g ρ st s.heap → VR C g ρ a va →
    chainW T rs a ops loc st Q → wpAny (model prog w) A (compareChain pos va ops (evalEach es env)) (Post C h₀ g ρ s Q) NoE s
  | .nil, HP, es, sc, env, hc, hS => fun a ops pos loc st Q g ρ s va F V R ha h => (False.elim h)
  | .cons x r, HP, es, sc, env, hc, hS => fun a ops pos loc st Q g ρ s va F V R ha h => by
    obtain ⟨e', r', rfl, h1, h2, h3⟩ := inv_cons hc
    match r, ops with
    | .nil, [op] =>
      dsimp only [chainW] at h
      rw [inv_nil h3]
      refine chain_last (wpAny_mono (HP.1.1 e' sc env h1 hS loc st _ g ρ s F V R h) (fun v s₁ P₁ => ?_) fun _ _ x => x)
      refine P₁.elim fun h' tk g' ρ' st' b S R' hv hq => ?_
      unfold cmpW at hq
      cases hc2 : cmpO op st' a b with
      | none => rw [hc2] at hq; exact hq.elim
      | some c =>
        rw [hc2] at hq
        exact cmpSound (s := { s with heap := h', toks := tk }) W.okA hc2 R' (ha.step S) hv (Post.after S (Post.nowT (s := { s with heap := h', toks := tk }) (d := .bool c) R' rfl hq))
    | .cons y r2, op :: op' :: ops =>
      dsimp only [chainW] at h
      have h3' := h3
      obtain ⟨e2, r2', rfl, _⟩ := inv_cons h3
      refine chain_link (wpAny_mono (HP.1.1 e' sc env h1 hS loc st _ g ρ s F V R h) (fun v s₁ P₁ => ?_) fun _ _ x => x)
      refine P₁.elim fun h' tk g' ρ' st' b S R' hv hq => ?_
      unfold cmpW at hq
      cases hc2 : cmpO op st' a b with
      | none => rw [hc2] at hq; exact hq.elim
      | some c =>
        rw [hc2] at hq
        refine cmpSound (s := { s with heap := h', toks := tk }) W.okA hc2 R' (ha.step S) hv (wpAny_truthy_bool ?_)
        cases c with
        | true =>
          simp only [if_true] at hq ⊢
          exact wpAny_mono (chainS' W (.cons y r2) HP.2 (e2 :: r2') sc env h3' hS b (op' :: ops) pos loc st' Q g' ρ' { s with heap := h', toks := tk } v (F.step R S) (V.step F R S) R' hv hq) (fun v s3 P => P.after S) fun _ _ x => x
        | false =>
          simp only [Bool.false_eq_true, if_false] at hq ⊢
          exact Post.after S (Post.nowT (s := { s with heap := h', toks := tk }) (d := .bool false) R' rfl hq)
    | .nil, [] => exact h.elim
    | .nil, _ :: _ :: _ => exact h.elim
    | .cons _ _, [] => exact h.elim
    | .cons _ _, [_] => exact h.elim

theorem tchainS' (W : Wd prog w A C h₀ K fnv T) : ∀ (rs : PEs), AllP prog w A C h₀ T rs → ∀ (es : List Expr) (sc : Scope) (env : Env), chkEs sc rs es = true → SEnv sc env → ∀ (a : AV) (ops : List CmpOp) (pos : Pos) (loc : Loc) (st : St) (Q : Bool → St → Prop) (g : Gh) (ρ : List Addr) (s : Shared) (va : Value), FR g env s.heap → Vars C g ρ env s.heap loc → Rel C h₀ g ρ st s.heap → VR C g ρ a va →
    chainW T rs a ops loc st (tob Q) → wpAny (model prog w) A (testChain pos va ops (evalEach es env)) (PostB C h₀ g ρ s Q) NoE s
  | .nil, HP, es, sc, env, hc, hS => fun a ops pos loc st Q g ρ s va F V R ha h => (False.elim h)
  | .cons x r, HP, es, sc, env, hc, hS => fun a ops pos loc st Q g ρ s va F V R ha h => by
    obtain ⟨e', r', rfl, h1, h2, h3⟩ := inv_cons hc
    match r, ops with
    | .nil, [op] =>
      dsimp only [chainW] at h
      rw [inv_nil h3]
      refine test_last (wpAny_mono (HP.1.1 e' sc env h1 hS loc st _ g ρ s F V R h) (fun v s₁ P₁ => ?_) fun _ _ x => x)
      refine P₁.elim fun h' tk g' ρ' st' b S R' hv hq => ?_
      unfold cmpW at hq
      cases hc2 : cmpO op st' a b with
      | none => rw [hc2] at hq; exact hq.elim
      | some c =>
        rw [hc2] at hq
        exact cmpSound (s := { s with heap := h', toks := tk }) W.okA hc2 R' (ha.step S) hv (wpAny_truthy_bool ⟨h', tk, g', ρ', st', rfl, S, R', hq⟩)
    | .cons y r2, op :: op' :: ops =>
      dsimp only [chainW] at h
      have h3' := h3
      obtain ⟨e2, r2', rfl, _⟩ := inv_cons h3
      refine test_link (wpAny_mono (HP.1.1 e' sc env h1 hS loc st _ g ρ s F V R h) (fun v s₁ P₁ => ?_) fun _ _ x => x)
      refine P₁.elim fun h' tk g' ρ' st' b S R' hv hq => ?_
      unfold cmpW at hq
      cases hc2 : cmpO op st' a b with
      | none => rw [hc2] at hq; exact hq.elim
      | some c =>
        rw [hc2] at hq
        refine cmpSound (s := { s with heap := h', toks := tk }) W.okA hc2 R' (ha.step S) hv (wpAny_truthy_bool ?_)
        cases c with
        | true =>
          simp only [if_true] at hq ⊢
          exact wpAny_mono (tchainS' W (.cons y r2) HP.2 (e2 :: r2') sc env h3' hS b (op' :: ops) pos loc st' Q g' ρ' { s with heap := h', toks := tk } v (F.step R S) (V.step F R S) R' hv hq) (fun v s3 P => P.after S) fun _ _ x => x
        | false =>
          simp only [tob_bool, Bool.false_eq_true, if_false] at hq ⊢
          exact ⟨h', tk, g', ρ', st', rfl, S, R', hq⟩
    | .nil, [] => exact h.elim
    | .nil, _ :: _ :: _ => exact h.elim
    | .cons _ _, [] => exact h.elim
    | .cons _ _, [_] => exact h.elim

theorem itS' (W : Wd prog w A C h₀ K fnv T) : ∀ (pi : PI), P3 prog w A C h₀ T pi → ∀ (e : Expr) (sc : Scope) (env : Env), chkI sc pi e = true → SEnv sc env → SndI prog w A C h₀ T pi e env
  | .rng1 b, HP, e, sc, env, hc, hS => fun loc st Q g ρ s F V R h => by
    obtain ⟨q, b', p, rfl, hl, h1, h2⟩ := inv_rng1 hc
    dsimp only [itW] at h
    refine Call_ (nameB W F R (hS _ _ (by decide) hl) W.kf.range.1 W.kf.range.2 range_plain.2 range_plain.1 ?_)
    refine callWith_type1 (spliced_more (wpAny_mono (HP.1 b' sc env h1 hS loc st _ g ρ s F V R h) (fun v s₁ P₁ => ?_) fun _ _ x => x) (starEach_plain h2)) (starEach_plain h2) rfl
    refine P₁.elim fun h' tk g' ρ' st' d S R' hv hq => ?_
    refine spliced_none ?_
    cases d with
    | int i => exact wpAny_mono (rangeCall1 (s := { s with heap := h', toks := tk }) R' hv hq) (fun xv s2 h2 => wpAny_mono h2 (fun _ _ P => P.after S) fun _ _ x => x) fun _ _ x => x
    | _ => exact hq.elim
  | .rng2 a b, HP, e, sc, env, hc, hS => fun loc st Q g ρ s F V R h => by
    obtain ⟨q, a', b', p, rfl, hl, h1, h2, h3, h4⟩ := inv_rng2 hc
    dsimp only [itW] at h
    refine Call_ (nameB W F R (hS _ _ (by decide) hl) W.kf.range.1 W.kf.range.2 range_plain.2 range_plain.1 ?_)
    refine callWith_type1 (spliced_more (wpAny_mono (HP.1.1 a' sc env h1 hS loc st _ g ρ s F V R h) (fun v s₁ P₁ => ?_) fun _ _ x => x) (starEach_plain h3)) (starEach_plain h3) (by rw [starEach_plain h4]; rfl)
    refine P₁.elim fun h' tk g' ρ' st' d S R' hv hq => ?_
    refine spliced_more (wpAny_mono (HP.2.1 b' sc env h2 hS loc st' _ g' ρ' { s with heap := h', toks := tk } (F.step R S) (V.step F R S) R' hq) (fun v2 s₂ P₂ => ?_) fun _ _ x => x) (starEach_plain h4)
    refine P₂.elim fun h2' tk2 g2 ρ2 st2 d2 S2 R2 hu hq2 => ?_
    refine spliced_none ?_
    cases d with
    | int i =>
      cases d2 with
      | int j => exact wpAny_mono (rangeCall (s := { s with heap := h2', toks := tk2 }) R2 (hv.step S2) hu hq2) (fun xv s2 h2 => wpAny_mono h2 (fun _ _ P => P.after (S.trans S2)) fun _ _ x => x) fun _ _ x => x
      | _ => exact hq2.elim
    | _ => exact hq2.elim
  | .seq a, HP, e, sc, env, hc, hS => fun loc st Q g ρ s F V R h => by
    obtain ⟨h1, h2⟩ := inv_seq hc
    dsimp only [itW] at h
    refine wpAny_mono (HP.1 e sc env h1 hS loc st _ g ρ s F V R h) (fun v s₁ P₁ => ?_) fun _ _ x => x
    refine P₁.elim fun h' tk g' ρ' st' d S R' hv hq => ?_
    unfold seqW at hq
    split at hq
    · rename_i k
      split at hq
      · rename_i l hl
        obtain ⟨x, hx, rfl⟩ := hv
        refine iterList (s := { s with heap := h', toks := tk }) R' hx hl fun it h2 I hn hk => ?_
        exact ⟨h2, tk, g', ρ', st', l, some k, it, rfl, rfl, S.trans (Step.grow hk _ _ _), R'.grow hk, I, none_of_alive S.alive hn, gfree_of R' hn, hq⟩
      · exact hq.elim
    · exact hq.elim
theorem evalS' (W : Wd prog w A C h₀ K fnv T) : ∀ (pe : PE), Parts prog w A C h₀ T pe → ∀ (e : Expr) (sc : Scope) (env : Env), chkE sc pe e = true → SEnv sc env → Snd prog w A C h₀ T pe e env
  | .none, HP, e, sc, env, hc, _ => fun loc st Q g ρ s F V R h => by
    obtain ⟨k, p, rfl⟩ := inv_none hc
    dsimp only [evalW] at h
    exact PySem.wpAny_Constant_none (Post.nowT (d := .none) R rfl h)
  | .bool b, HP, e, sc, env, hc, _ => fun loc st Q g ρ s F V R h => by
    obtain ⟨k, p, rfl⟩ := inv_bool hc
    dsimp only [evalW] at h
    exact Constant_bool (Post.nowT (d := .bool b) R rfl h)
  | .int i, HP, e, sc, env, hc, _ => fun loc st Q g ρ s F V R h => by
    obtain ⟨k, p, rfl⟩ := inv_int hc
    dsimp only [evalW] at h
    exact wpAny_Constant_int (Post.now (d := .int i) R ⟨_, rfl⟩ h)
  | .var x, HP, e, sc, env, hc, _ => fun loc st Q g ρ s F V R h => by
    obtain ⟨hx, p, rfl⟩ := inv_var hc
    dsimp only [evalW] at h
    cases hl : look loc x with
    | none => rw [hl] at h; exact h.elim
    | some d => rw [hl] at h; exact loadVar F V hl fun v hv => Post.nowT R hv h
  | .glob x, HP, e, sc, env, hc, hS => fun loc st Q g ρ s F V R h => by
    obtain ⟨hl, p, rfl⟩ := inv_glob hc
    dsimp only [evalW] at h
    cases hg : T.glob x with
    | none => rw [hg] at h; exact h.elim
    | some d =>
      rw [hg] at h
      obtain ⟨v, e1, e2⟩ := W.glob x d hg
      have hd : (glm x == ("__debug__" : Str)) = false := by
        cases q : (glm x == ("__debug__" : Str)) with
        | false => rfl
        | true =>
          exfalso
          have : glm x = "__debug__" := beq_iff_eq.mp q
          unfold glm at this
          cases x with
          | zero => have := gl_plain; unfold glm at this; simp_all
          | succ n =>
            have e3 : globNames.getD (n + 1) "?" = "?" := by simp [globNames]
            rw [e3] at this
            exact absurd this (by decide +kernel)
      exact nameK W F R (hS _ _ (by decide) hl) e1 hd (Post.nowT R (e2 g ρ R.base0) h)
  | .bin op l r, HP, e, sc, env, hc, hS => fun loc st Q g ρ s F V R h => by
    obtain ⟨l', r', p, rfl, h1, h2⟩ := inv_bin hc
    dsimp only [evalW] at h
    refine wpAny_BinOp (wpAny_mono (HP.1.1 l' sc env h1 hS loc st _ g ρ s F V R h) (fun v s₁ P₁ => ?_) fun _ _ x => x)
    refine P₁.elim fun h' tk g' ρ' st' a S R' hv hq => ?_
    refine wpAny_mono (HP.2.1 r' sc env h2 hS loc st' _ g' ρ' { s with heap := h', toks := tk } (F.step R S) (V.step F R S) R' hq) (fun u s₂ P₂ => ?_) fun _ _ x => x
    refine P₂.elim fun h2' tk2 g2 ρ2 st2 b S2 R2 hu hq2 => ?_
    exact wpAny_mono (binSound (s := { s with heap := h2', toks := tk2 }) hq2 R2 (hv.step S2) hu) (fun v s3 P => P.after (S.trans S2)) fun _ _ x => x
  | .neg x, HP, e, sc, env, hc, hS => fun loc st Q g ρ s F V R h => by
    obtain ⟨x', p, rfl, h1⟩ := inv_neg hc
    dsimp only [evalW] at h
    refine UnaryOp_ (wpAny_mono (HP.1 x' sc env h1 hS loc st _ g ρ s F V R h) (fun v s₁ P₁ => ?_) fun _ _ x => x)
    refine P₁.elim fun h' tk g' ρ' st' a S R' hv hq => ?_
    cases a with
    | int i =>
      obtain ⟨t, rfl⟩ := hv
      exact PyProof.Rows.neg_int (Post.after S (Post.now (s := { s with heap := h', toks := tk }) (d := .int (-i)) R' ⟨_, rfl⟩ hq))
    | _ => exact hq.elim
  | .not x, HP, e, sc, env, hc, hS => fun loc st Q g ρ s F V R h => by
    obtain ⟨x', p, rfl, h1⟩ := inv_not hc
    dsimp only [evalW] at h
    refine UnaryOp_ (wpAny_mono (HP.1 x' sc env h1 hS loc st _ g ρ s F V R h) (fun v s₁ P₁ => ?_) fun _ _ x => x)
    refine P₁.elim fun h' tk g' ρ' st' a S R' hv hq => ?_
    cases a with
    | bool b =>
      rw [hv]
      exact not_of (wpAny_truthy_bool (Post.after S (Post.nowT (s := { s with heap := h', toks := tk }) (d := .bool (!b)) R' rfl hq)))
    | _ => exact hq.elim
  | .and xs, HP, e, sc, env, hc, hS => fun loc st Q g ρ s F V R h => by
    obtain ⟨xs', p, rfl, h1⟩ := inv_and hc
    dsimp only [evalW] at h
    exact andS' W xs HP xs' sc env h1 hS p loc st Q g ρ s F V R h
  | .or xs, HP, e, sc, env, hc, hS => fun loc st Q g ρ s F V R h => by
    obtain ⟨xs', p, rfl, h1⟩ := inv_or hc
    dsimp only [evalW] at h
    exact orS' W xs HP xs' sc env h1 hS p loc st Q g ρ s F V R h
  | .ite t b o, HP, e, sc, env, hc, hS => fun loc st Q g ρ s F V R h => by
    obtain ⟨t', b', o', p, rfl, h1, h2, h3⟩ := inv_ite hc
    dsimp only [evalW] at h
    refine IfExp_ (wpAny_mono (HP.1.2 t' sc env h1 hS loc st _ g ρ s F V R h) (fun c s₁ P₁ => ?_) fun _ _ x => x)
    refine P₁.elim fun h' tk g' ρ' st' S R' hq => ?_
    cases c with
    | true =>
      simp only [if_true] at hq ⊢
      exact wpAny_mono (HP.2.1.1 b' sc env h2 hS loc st' _ g' ρ' { s with heap := h', toks := tk } (F.step R S) (V.step F R S) R' hq) (fun v s3 P => P.after S) fun _ _ x => x
    | false =>
      simp only [Bool.false_eq_true, if_false] at hq ⊢
      exact wpAny_mono (HP.2.2.1 o' sc env h3 hS loc st' _ g' ρ' { s with heap := h', toks := tk } (F.step R S) (V.step F R S) R' hq) (fun v s3 P => P.after S) fun _ _ x => x
  | .tup es, HP, e, sc, env, hc, hS => fun loc st Q g ρ s F V R h => by
    obtain ⟨es', k, p, rfl, h1⟩ := inv_tup hc
    dsimp only [evalW] at h
    refine Tuple_ (wpAny_mono (evalsS' W es HP es' sc env h1 hS p loc st _ g ρ s F V R h) (fun vs s₁ P₁ => ?_) fun _ _ x => x)
    refine P₁.elim fun h' tk g' ρ' st' ds S R' hv hq => ?_
    exact wpAny_mono (newTupS (s := { s with heap := h', toks := tk }) R' hv hq.1 hq.2) (fun v s3 P => P.after S) fun _ _ x => x
  | .list es, HP, e, sc, env, hc, hS => fun loc st Q g ρ s F V R h => by
    obtain ⟨es', p, rfl, h1⟩ := inv_list hc
    dsimp only [evalW] at h
    refine List_ (wpAny_mono (evalsS' W es HP es' sc env h1 hS p loc st _ g ρ s F V R h) (fun vs s₁ P₁ => ?_) fun _ _ x => x)
    refine P₁.elim fun h' tk g' ρ' st' ds S R' hv hq => ?_
    exact wpAny_mono (newListS (s := { s with heap := h', toks := tk }) R' hv hq.1 hq.2) (fun v s3 P => P.after S) fun _ _ x => x
  | .cmp l ops rs, HP, e, sc, env, hc, hS => fun loc st Q g ρ s F V R h => by
    obtain ⟨l', rs', p, rfl, h1, h2, h3⟩ := inv_cmp hc
    dsimp only [evalW] at h
    show wpAny _ _ (do compareChain p (← eval l' env) ops (markedEach ops rs' (evalEach rs' env))) _ _ s
    rw [markedEach_of_false _ _ _ h3]
    refine wpAny_bind (wpAny_mono (HP.1.1 l' sc env h1 hS loc st _ g ρ s F V R h) (fun v s₁ P₁ => ?_) fun _ _ x => x)
    refine P₁.elim fun h' tk g' ρ' st' a S R' hv hq => ?_
    exact wpAny_mono (chainS' W rs HP.2 rs' sc env h2 hS a ops p loc st' Q g' ρ' { s with heap := h', toks := tk } v (F.step R S) (V.step F R S) R' hv hq) (fun v s3 P => P.after S) fun _ _ x => x
  | .sub v i, HP, e, sc, env, hc, hS => fun loc st Q g ρ s F V R h => by
    obtain ⟨v', i', p, rfl, h1, h2, h3⟩ := inv_sub hc
    dsimp only [evalW] at h
    refine Subscript_ (wpAny_mono (HP.1.1 v' sc env h1 hS loc st _ g ρ s F V R h) (fun u s₁ P₁ => ?_) fun _ _ x => x)
    refine P₁.elim fun h' tk g' ρ' st' a S R' hv hq => ?_
    refine wpAny_mono (HP.2.1 i' sc env h2 hS loc st' _ g' ρ' { s with heap := h', toks := tk } (F.step R S) (V.step F R S) R' hq) (fun u2 s₂ P₂ => ?_) fun _ _ x => x
    refine P₂.elim fun h2' tk2 g2 ρ2 st2 b S2 R2 hu hq2 => ?_
    exact wpAny_mono (subSound (s := { s with heap := h2', toks := tk2 }) h3 hq2 R2 (hv.step S2) hu) (fun v s3 P => P.after (S.trans S2)) fun _ _ x => x
  | .cut v k, HP, e, sc, env, hc, hS => fun loc st Q g ρ s F V R h => by
    obtain ⟨n, z, a, b, q, p, rfl, h1⟩ := inv_cut hc
    dsimp only [evalW] at h
    refine wpAny_Subscript_Slice slot_list_getitem.lookup (wpAny_mono (HP.1 _ sc env h1 hS loc st _ g ρ s F V R h) (fun u s₁ P₁ => ?_) fun _ _ x => x)
    refine P₁.elim fun h' tk g' ρ' st' d S R' hv hq => ?_
    cases d with
    | scr l =>
      obtain ⟨x, vs, rfl, hl, hi⟩ := hv
      obtain ⟨hn, hq⟩ := hq
      refine wpAny_Slice ?_
      rw [evalPart_none, evalPart_some]
      refine wpAny_pure (wpAny_Constant_int (wpAny_pure ?_))
      have k1 := push_keep h' { cls := .type "slice", data := .fields #[Value.none, Value.int k tk, Value.none] }
      have hL := (hl.isList R')
      have hL' : (h'.push { cls := .type "slice", data := .fields #[Value.none, Value.int k tk, Value.none] }).IsList x vs.toArray := hL.push _
      refine ⟨⟨_, hL'.choose_spec.1, hL'.choose_spec.2.1⟩, ?_⟩
      have hlen := hi.length
      refine wpAny_getItem_list_slice hL' (Heap.IsSliceOf.new _ _ _ _) .none (.int _ _) .none (by simp) ?_ (by rw [List.size_toArray, hlen, sizeLine_eq]; omega)
      rw [slicePick_upto']
      have R1 := R'.grow k1
      obtain ⟨R2, S2⟩ := R1.more (push_keep _ _) (push_new _) (a := (h'.push { cls := .type "slice", data := .fields #[Value.none, Value.int k tk, Value.none] }).objs.size)
        (h' := (h'.push { cls := .type "slice", data := .fields #[Value.none, Value.int k tk, Value.none] }).push { cls := .type "list", data := .seq (vs.take k).toArray }) ⟨0, Heap.get?_push_size _ rfl⟩ (intsTake (C := C) (g := g') (ρ := ρ') k hi)
      exact ⟨_, _, g', _, _, .lst st'.length, rfl, S.trans ((Step.grow k1 _ _ _).trans (S2 [])), R2, ⟨_, by rw [← R'.len]; simp, rfl⟩, hq⟩
    | _ => exact hq.elim
  | .attr v a, HP, e, sc, env, hc, hS => fun loc st Q g ρ s F V R h => by
    obtain ⟨n, q, p, rfl, ha, h1⟩ := inv_attr hc
    dsimp only [evalW] at h
    refine Attribute_Name_ (wpAny_mono (HP.1 _ sc env h1 hS loc st _ g ρ s F V R h) (fun u s₁ P₁ => ?_) fun _ _ x => x)
    refine P₁.elim fun h' tk g' ρ' st' d S R' hv hq => ?_
    exact wpAny_mono (attrSound (s := { s with heap := h', toks := tk }) W ha R' hv hq) (fun v s3 P => P.after S) fun _ _ x => x
  | .call f args, HP, e, sc, env, hc, hS => fun loc st Q g ρ s F V R h => by
    obtain ⟨q, args', p, rfl, hl, hf, h1⟩ := inv_call hc
    dsimp only [evalW] at h
    have hkind := hS _ _ (by decide) hl
    have hlt := fn_plain (fn_lt hf)
    have fin : ∀ hk, wpAny (model prog w) A (callWith p (fnv f) [] (backTo p (starEach args' env)) []) (Post C h₀ g ρ s Q) NoE s := fun hk =>
      callSound W (first := []) (fds := []) hk h1 (evalsS' W args HP args' sc env h1 hS) F V R rfl h
    refine Call_ ?_
    rcases Bool.or_eq_true_iff.mp hf with hg | hb
    · obtain ⟨e1, e2⟩ := W.kf.glob f hg
      exact nameK W F R hkind e1 hlt.1 (fin (.inl e2))
    · obtain ⟨id, e1, e2, e3⟩ := W.kf.blt f hb
      exact nameB W F R hkind e2 e3 hlt.2 hlt.1 (by rw [← e1]; exact fin (.inr ⟨id, e1⟩))
  | .meth f o args, HP, e, sc, env, hc, hS => fun loc st Q g ρ s F V R h => by
    obtain ⟨x, q, apos, args', p, rfl, hf, h1, h2, h3, h4⟩ := inv_meth hc
    dsimp only [evalW] at h
    refine methCall (x := x) (q := q) (notComp_base rfl) (stars_plain h2) h4 h3 (wpAny_mono (HP.1.1 _ sc env h1 hS loc st _ g ρ s F V R h) (fun u s₁ P₁ pl => ?_) fun _ _ x => x)
    refine P₁.elim fun h' tk g' ρ' st' d S R' hv hq => ?_
    refine methAt (s := { s with heap := h', toks := tk }) W hf R' hv hq.1 ?_
    obtain ⟨a, e1, e2, e3, e4⟩ := W.kf.meth f hf
    exact wpAny_mono (callSound (s := { s with heap := h', toks := tk }) W (first := [u]) (fds := [d]) (.inl (by rw [e1]; exact e4)) h2 (evalsS' W args HP.2 args' sc env h2 hS) (F.step R S) (V.step F R S) R' ⟨u, [], rfl, hv, rfl⟩ hq.2) (fun v s3 P => P.after S) fun _ _ x => x
  | .comp1 caps x it c elt, HP, e, sc, env, hc, hS => fun loc st Q g ρ s F V R h => by
    obtain ⟨elt', q, it', ifs', sc', p, rfl, hsc, hxl, h1, h2, h3⟩ := inv_comp1 hc
    dsimp only [evalW] at h
    obtain ⟨hkf, hn, hnd, hcp⟩ := compSc_of hsc
    rw [eval_ListComp]
    refine wpAny_comprehension_free (use := Option.none) rfl (fun z => chkI_set h1 env z) (closureFor_cl (fun n hm => ?_)) hkf (fun z hz hl => ?_)
      (wpAny_mono (itS' W it HP.1 it' sc env h1 hS loc st _ g ρ s F V R h) (fun xv s₁ h₁ => wpAny_mono h₁ (fun itv s₂ h₂ => ?_) fun _ _ x => x.elim) fun _ _ x => x.elim)
    · rcases hn _ hm with ⟨z, _⟩ | ⟨_, z⟩
      · cases z
      · exact F.has n (hS n .cell (by decide) z)
    · rcases hn z hz with ⟨_, z2⟩ | ⟨z2, _⟩
      · exact z2
      · rw [hl] at z2; cases z2
    · refine h₂.elim fun h' tk g' ρ' st' items src itA S R' I hi gi hq => ?_
      refine compRest1 (s := { s with heap := h', toks := tk }) (RR := fun acc L => compPost (model prog w) A NoE Option.none (Post C h₀ g ρ s Q) acc L) (Q := Q) W hsc hS hxl (fun cenv hSc => HP.2.2.1 elt' sc' cenv h3 hSc) (fun cenv hSc => testsS' W c HP.2.1 ifs' sc' cenv h2 hSc) S (F.step R S) (V.step F R S) R' I hi gi hq ?_
      intro acc L h2 tk2 g2 ρ2 st2 m S2 R2 hLB hLs hm gL hacc hq2
      refine ⟨m, hm, fun h3 hs3 => ⟨h3, tk2, g2, ρ2, st2, .lst st'.length, rfl, ?_, ?_, ⟨acc, hacc, rfl⟩, hq2⟩⟩
      · exact (S2.called (fun b hb => by rw [List.mem_singleton.mp hb]; exact hLB)).iter hLB fun b o hb e => (hs3.2 b hb).trans e
      · exact R2.off (fun b o hb e => (hs3.2 b hb).trans e) gL fun hmm => by obtain ⟨its, qq⟩ := R2.at hmm; exact list_not_ns qq hm
  | .comp2 caps x it y it2 elt, HP, e, sc, env, hc, hS => fun loc st Q g ρ s F V R h => by
    obtain ⟨elt', q, it', q2, i2, sc', p, rfl, hxy, hsc, hxl, hyl, h1, h2, h4, h3⟩ := inv_comp2 hc
    dsimp only [evalW] at h
    obtain ⟨hkf, hn, hnd, hcp⟩ := compSc_of hsc
    rw [eval_ListComp]
    refine wpAny_comprehension_free (use := Option.none) rfl (fun z => chkI_set h1 env z) (closureFor_cl (fun n hm => ?_)) hkf (fun z hz hl => ?_)
      (wpAny_mono (itS' W it HP.1 it' sc env h1 hS loc st _ g ρ s F V R h) (fun xv s₁ h₁ => wpAny_mono h₁ (fun itv s₂ h₂ => ?_) fun _ _ x => x.elim) fun _ _ x => x.elim)
    · rcases hn _ hm with ⟨z, _⟩ | ⟨_, z⟩
      · cases z
      · exact F.has n (hS n .cell (by decide) z)
    · rcases hn z hz with ⟨_, z2⟩ | ⟨z2, _⟩
      · exact z2
      · rw [hl] at z2; cases z2
    · refine h₂.elim fun h' tk g' ρ' st' items src itA S R' I hi gi hq => ?_
      refine compRest2 (s := { s with heap := h', toks := tk }) (RR := fun acc L => compPost (model prog w) A NoE Option.none (Post C h₀ g ρ s Q) acc L) (Q := Q) W hsc hS hxl hyl hxy (fun cenv hSc => HP.2.1.1 i2 sc' cenv h2 hSc) (fun cenv v => slice_set h4 cenv v) (fun cenv hSc => HP.2.2.1 elt' sc' cenv h3 hSc) S (F.step R S) (V.step F R S) R' I hi gi hq ?_
      intro acc L h2 tk2 g2 ρ2 st2 m S2 R2 hLB hLs hm gL hacc hq2
      refine ⟨m, hm, fun h3 hs3 => ⟨h3, tk2, g2, ρ2, st2, .lst st'.length, rfl, ?_, ?_, ⟨acc, hacc, rfl⟩, hq2⟩⟩
      · exact (S2.called (fun b hb => by rw [List.mem_singleton.mp hb]; exact hLB)).iter hLB fun b o hb e => (hs3.2 b hb).trans e
      · exact R2.off (fun b o hb e => (hs3.2 b hb).trans e) gL fun hmm => by obtain ⟨its, qq⟩ := R2.at hmm; exact list_not_ns qq hm

theorem testS' (W : Wd prog w A C h₀ K fnv T) : ∀ (pe : PE), Parts prog w A C h₀ T pe → ∀ (e : Expr) (sc : Scope) (env : Env), chkE sc pe e = true → SEnv sc env → SndT prog w A C h₀ T pe e env
  | .none, HP, e, sc, env, hc, hS => fun loc st Q g ρ s F V R h => by
    have z := evalS' W .none HP e sc env hc hS loc st _ g ρ s F V R h
    obtain ⟨k, p, rfl⟩ := inv_none hc
    exact truthyS z
  | .bool b, HP, e, sc, env, hc, hS => fun loc st Q g ρ s F V R h => by
    have z := evalS' W (.bool b) HP e sc env hc hS loc st _ g ρ s F V R h
    obtain ⟨k, p, rfl⟩ := inv_bool hc
    exact truthyS z
  | .int i, HP, e, sc, env, hc, hS => fun loc st Q g ρ s F V R h => by
    have z := evalS' W (.int i) HP e sc env hc hS loc st _ g ρ s F V R h
    obtain ⟨k, p, rfl⟩ := inv_int hc
    exact truthyS z
  | .var x, HP, e, sc, env, hc, hS => fun loc st Q g ρ s F V R h => by
    have z := evalS' W (.var x) HP e sc env hc hS loc st _ g ρ s F V R h
    obtain ⟨hx, p, rfl⟩ := inv_var hc
    exact truthyS z
  | .glob x, HP, e, sc, env, hc, hS => fun loc st Q g ρ s F V R h => by
    have z := evalS' W (.glob x) HP e sc env hc hS loc st _ g ρ s F V R h
    obtain ⟨hx, p, rfl⟩ := inv_glob hc
    exact truthyS z
  | .bin op l r, HP, e, sc, env, hc, hS => fun loc st Q g ρ s F V R h => by
    have z := evalS' W (.bin op l r) HP e sc env hc hS loc st _ g ρ s F V R h
    obtain ⟨l', r', p, rfl, _⟩ := inv_bin hc
    exact truthyS z
  | .neg x, HP, e, sc, env, hc, hS => fun loc st Q g ρ s F V R h => by
    have z := evalS' W (.neg x) HP e sc env hc hS loc st _ g ρ s F V R h
    obtain ⟨x', p, rfl, _⟩ := inv_neg hc
    exact truthyS z
  | .not x, HP, e, sc, env, hc, hS => fun loc st Q g ρ s F V R h => by
    obtain ⟨x', p, rfl, h1⟩ := inv_not hc
    dsimp only [evalW] at h
    refine isTrue_not (wpAny_mono (HP.2 x' sc env h1 hS loc st (fun c st => Q (!c) st) g ρ s F V R ?_) (fun c s₁ P₁ => P₁) fun _ _ x => x)
    exact h
  | .and xs, HP, e, sc, env, hc, hS => fun loc st Q g ρ s F V R h => by
    obtain ⟨xs', p, rfl, h1⟩ := inv_and hc
    dsimp only [evalW] at h
    exact tandS' W xs HP xs' sc env h1 hS p _ loc st Q g ρ s F V R h
  | .or xs, HP, e, sc, env, hc, hS => fun loc st Q g ρ s F V R h => by
    obtain ⟨xs', p, rfl, h1⟩ := inv_or hc
    dsimp only [evalW] at h
    exact torS' W xs HP xs' sc env h1 hS p _ loc st Q g ρ s F V R h
  | .ite t b o, HP, e, sc, env, hc, hS => fun loc st Q g ρ s F V R h => by
    obtain ⟨t', b', o', p, rfl, h1, h2, h3⟩ := inv_ite hc
    dsimp only [evalW] at h
    refine isTrue_IfExp (wpAny_mono (HP.1.2 t' sc env h1 hS loc st _ g ρ s F V R h) (fun c s₁ P₁ => ?_) fun _ _ x => x)
    refine P₁.elim fun h' tk g' ρ' st' S R' hq => ?_
    cases c with
    | true =>
      simp only [if_true] at hq ⊢
      exact wpAny_mono (HP.2.1.2 b' sc env h2 hS loc st' _ g' ρ' { s with heap := h', toks := tk } (F.step R S) (V.step F R S) R' hq) (fun v s3 P => P.after S) fun _ _ x => x
    | false =>
      simp only [Bool.false_eq_true, if_false] at hq ⊢
      exact wpAny_mono (HP.2.2.2 o' sc env h3 hS loc st' _ g' ρ' { s with heap := h', toks := tk } (F.step R S) (V.step F R S) R' hq) (fun v s3 P => P.after S) fun _ _ x => x
  | .tup es, HP, e, sc, env, hc, hS => fun loc st Q g ρ s F V R h => by
    have z := evalS' W (.tup es) HP e sc env hc hS loc st _ g ρ s F V R h
    obtain ⟨es', k, p, rfl, _⟩ := inv_tup hc
    exact truthyS z
  | .list es, HP, e, sc, env, hc, hS => fun loc st Q g ρ s F V R h => by
    have z := evalS' W (.list es) HP e sc env hc hS loc st _ g ρ s F V R h
    obtain ⟨es', p, rfl, _⟩ := inv_list hc
    exact truthyS z
  | .cmp l ops rs, HP, e, sc, env, hc, hS => fun loc st Q g ρ s F V R h => by
    obtain ⟨l', rs', p, rfl, h1, h2, h3⟩ := inv_cmp hc
    dsimp only [evalW] at h
    show wpAny _ _ (do testChain p (← eval l' env) ops (markedEach ops rs' (evalEach rs' env))) _ _ s
    rw [markedEach_of_false _ _ _ h3]
    refine wpAny_bind (wpAny_mono (HP.1.1 l' sc env h1 hS loc st _ g ρ s F V R h) (fun v s₁ P₁ => ?_) fun _ _ x => x)
    refine P₁.elim fun h' tk g' ρ' st' a S R' hv hq => ?_
    exact wpAny_mono (tchainS' W rs HP.2 rs' sc env h2 hS a ops p loc st' Q g' ρ' { s with heap := h', toks := tk } v (F.step R S) (V.step F R S) R' hv hq) (fun v s3 P => P.after S) fun _ _ x => x
  | .sub v i, HP, e, sc, env, hc, hS => fun loc st Q g ρ s F V R h => by
    have z := evalS' W (.sub v i) HP e sc env hc hS loc st _ g ρ s F V R h
    obtain ⟨v', i', p, rfl, _⟩ := inv_sub hc
    exact truthyS z
  | .cut v k, HP, e, sc, env, hc, hS => fun loc st Q g ρ s F V R h => by
    have z := evalS' W (.cut v k) HP e sc env hc hS loc st _ g ρ s F V R h
    obtain ⟨n, z2, a, b, q, p, rfl, _⟩ := inv_cut hc
    exact truthyS z
  | .attr v a, HP, e, sc, env, hc, hS => fun loc st Q g ρ s F V R h => by
    have z := evalS' W (.attr v a) HP e sc env hc hS loc st _ g ρ s F V R h
    obtain ⟨n, q, p, rfl, _⟩ := inv_attr hc
    exact truthyS z
  | .call f args, HP, e, sc, env, hc, hS => fun loc st Q g ρ s F V R h => by
    have z := evalS' W (.call f args) HP e sc env hc hS loc st _ g ρ s F V R h
    obtain ⟨q, args', p, rfl, _⟩ := inv_call hc
    exact truthyS z
  | .meth f o args, HP, e, sc, env, hc, hS => fun loc st Q g ρ s F V R h => by
    have z := evalS' W (.meth f o args) HP e sc env hc hS loc st _ g ρ s F V R h
    obtain ⟨x, q, apos, args', p, rfl, _⟩ := inv_meth hc
    exact truthyS z
  | .comp1 caps x it c elt, HP, e, sc, env, hc, hS => fun loc st Q g ρ s F V R h => by
    have z := evalS' W (.comp1 caps x it c elt) HP e sc env hc hS loc st _ g ρ s F V R h
    obtain ⟨elt', q, it', ifs', sc', p, rfl, _⟩ := inv_comp1 hc
    exact truthyS z
  | .comp2 caps x it y it2 elt, HP, e, sc, env, hc, hS => fun loc st Q g ρ s F V R h => by
    have z := evalS' W (.comp2 caps x it y it2 elt) HP e sc env hc hS loc st _ g ρ s F V R h
    obtain ⟨elt', q, it', q2, i2, sc', p, rfl, _⟩ := inv_comp2 hc
    exact truthyS z

theorem mkP (W : Wd prog w A C h₀ K fnv T) (pe : PE) (HP : Parts prog w A C h₀ T pe) : P1 prog w A C h₀ T pe := ⟨evalS' W pe HP, testS' W pe HP⟩
theorem allP (W : Wd prog w A C h₀ K fnv T) (pe : PE) : P1 prog w A C h₀ T pe :=
  PE.rec (motive_1 := P1 prog w A C h₀ T) (motive_2 := AllP prog w A C h₀ T) (motive_3 := P3 prog w A C h₀ T) (mkP W .none trivial) (fun b => mkP W (.bool b) trivial) (fun i => mkP W (.int i) trivial) (fun x => mkP W (.var x) trivial) (fun x => mkP W (.glob x) trivial) (fun op l r hl hr => mkP W (.bin op l r) ⟨hl, hr⟩) (fun x hx => mkP W (.neg x) hx) (fun x hx => mkP W (.not x) hx) (fun xs hxs => mkP W (.and xs) hxs) (fun xs hxs => mkP W (.or xs) hxs) (fun t b o ht hb ho => mkP W (.ite t b o) ⟨ht, hb, ho⟩) (fun es hes => mkP W (.tup es) hes) (fun es hes => mkP W (.list es) hes) (fun l ops rs hl hrs => mkP W (.cmp l ops rs) ⟨hl, hrs⟩) (fun v i hv hi => mkP W (.sub v i) ⟨hv, hi⟩) (fun v k hv => mkP W (.cut v k) hv) (fun v a hv => mkP W (.attr v a) hv) (fun f args hargs => mkP W (.call f args) hargs) (fun f o args ho hargs => mkP W (.meth f o args) ⟨ho, hargs⟩) (fun caps x it c elt hit hc helt => mkP W (.comp1 caps x it c elt) ⟨hit, hc, helt⟩) (fun caps x it y it2 elt hit hit2 helt => mkP W (.comp2 caps x it y it2 elt) ⟨hit, hit2, helt⟩) trivial (fun _ _ ha hr => ⟨ha, hr⟩) (fun _ hb => hb) (fun _ _ ha hb => ⟨ha, hb⟩) (fun _ he => he) pe
theorem allL (W : Wd prog w A C h₀ K fnv T) : ∀ ps : PEs, AllP prog w A C h₀ T ps
  | .nil => trivial
  | .cons a r => ⟨allP W a, allL W r⟩
theorem allI (W : Wd prog w A C h₀ K fnv T) : ∀ pi : PI, P3 prog w A C h₀ T pi
  | .rng1 b => allP W b
  | .rng2 a b => ⟨allP W a, allP W b⟩
  | .seq e => allP W e
theorem evalS (W : Wd prog w A C h₀ K fnv T) (pe : PE) (e : Expr) (sc : Scope) (env : Env) : chkE sc pe e = true → SEnv sc env → Snd prog w A C h₀ T pe e env := (allP W pe).1 e sc env
theorem testS (W : Wd prog w A C h₀ K fnv T) (pe : PE) (e : Expr) (sc : Scope) (env : Env) : chkE sc pe e = true → SEnv sc env → SndT prog w A C h₀ T pe e env := (allP W pe).2 e sc env
theorem evalsS (W : Wd prog w A C h₀ K fnv T) (ps : PEs) (es : List Expr) (sc : Scope) (env : Env) : chkEs sc ps es = true → SEnv sc env → SndL prog w A C h₀ T ps es env := evalsS' W ps (allL W ps) es sc env
theorem testsS (W : Wd prog w A C h₀ K fnv T) (c : PEs) (ifs : List Expr) (sc : Scope) (env : Env) : chkEs sc c ifs = true → SEnv sc env → SndC prog w A C h₀ T c ifs env := testsS' W c (allL W c) ifs sc env
theorem itS (W : Wd prog w A C h₀ K fnv T) (pi : PI) (e : Expr) (sc : Scope) (env : Env) : chkI sc pi e = true → SEnv sc env → SndI prog w A C h₀ T pi e env := itS' W pi (allI W pi) e sc env
end
end Mine
set_option maxRecDepth 100000
set_option maxHeartbeats 4000000
namespace Mine
open PySem PySem.W PyProof.Rows PySem.Calls
section
variable {prog : Program} {w : World} {A : Around} {C : Addr} {h₀ : Heap} {K : Frag} {fnv : Nat → Value} {T : Prims} {g : Gh} {ρ : List Addr} {st : St} {s : Shared} {env : Env} {loc : Loc} {sc : Scope}

noncomputable def PostF (C : Addr) (h₀ : Heap) (g : Gh) (ρ : List Addr) (s : Shared) (env : Env) (Q : Ends) (f : Flow) (s' : Shared) : Prop :=
  ∃ h' tk g' ρ' st' loc', s' = { s with heap := h', toks := tk } ∧ Step (ownA env) g ρ s.heap g' ρ' h' ∧ Rel C h₀ g' ρ' st' h' ∧ FR g' env h' ∧ Vars C g' ρ' env h' loc' ∧
    ((f = .next ∧ Q Option.none loc' st') ∨ ∃ v d, f = .ret v ∧ VR C g' ρ' d v ∧ Q (some d) loc' st')
@[elab_as_elim] theorem PostF.elim {Q : Ends} {f : Flow} {s' : Shared} {P : Flow → Shared → Prop} (h : PostF C h₀ g ρ s env Q f s') (k : ∀ h' tk g' ρ' st' loc', Step (ownA env) g ρ s.heap g' ρ' h' → Rel C h₀ g' ρ' st' h' → FR g' env h' → Vars C g' ρ' env h' loc' → Q Option.none loc' st' → P .next { s with heap := h', toks := tk })
    (k2 : ∀ h' tk g' ρ' st' loc' v d, Step (ownA env) g ρ s.heap g' ρ' h' → Rel C h₀ g' ρ' st' h' → FR g' env h' → Vars C g' ρ' env h' loc' → VR C g' ρ' d v → Q (some d) loc' st' → P (.ret v) { s with heap := h', toks := tk }) : P f s' := by
  obtain ⟨h', tk, g', ρ', st', loc', rfl, S, R, F, V, ⟨rfl, hq⟩ | ⟨v, d, rfl, hv, hq⟩⟩ := h
  · exact k _ _ _ _ _ _ S R F V hq
  · exact k2 _ _ _ _ _ _ _ _ S R F V hv hq
theorem PostF.after {Q : Ends} {f : Flow} {s' : Shared} {h' : Heap} {tk : Nat} {own : List Addr} {g' : Gh} {ρ' : List Addr} (S : Step own g ρ s.heap g' ρ' h') (ho : ∀ b ∈ own, b ∈ ownA env) (P : PostF C h₀ g' ρ' { s with heap := h', toks := tk } env Q f s') : PostF C h₀ g ρ s env Q f s' := by
  obtain ⟨h2, tk2, g2, ρ2, st2, loc2, e, S2, r⟩ := P
  exact ⟨h2, tk2, g2, ρ2, st2, loc2, by rw [e], (S.more ho).trans S2, r⟩
theorem none_own : ∀ b ∈ ([] : List Addr), b ∈ ownA env := fun _ hb => absurd hb List.not_mem_nil

noncomputable def SndS (prog : Program) (w : World) (A : Around) (C : Addr) (h₀ : Heap) (T : Prims) (ps : PS) (x : Stmt) (env : Env) : Prop := ∀ (loc : Loc) (st : St) (Q : Ends) (g : Gh) (ρ : List Addr) (s : Shared), FR g env s.heap → Vars C g ρ env s.heap loc → Rel C h₀ g ρ st s.heap →
  execW T ps loc st Q → wpAny (model prog w) A (exec x env) (PostF C h₀ g ρ s env Q) NoE s
noncomputable def SndSs (prog : Program) (w : World) (A : Around) (C : Addr) (h₀ : Heap) (T : Prims) (ps : PSs) (xs : List Stmt) (env : Env) : Prop := ∀ (loc : Loc) (st : St) (Q : Ends) (g : Gh) (ρ : List Addr) (s : Shared), FR g env s.heap → Vars C g ρ env s.heap loc → Rel C h₀ g ρ st s.heap →
  execsW T ps loc st Q → wpAny (model prog w) A (execs xs env) (PostF C h₀ g ρ s env Q) NoE s

theorem scStore_of {x : Nat} (hS : SEnv sc env) (h : scStore sc x = true) : x < nv ∧ (env.kindOf (nm x) = some .local ∨ env.kindOf (nm x) = some .cell) := by
  unfold scStore at h
  simp only [Bool.and_eq_true, decide_eq_true_eq, Bool.or_eq_true, beq_iff_eq] at h
  exact ⟨h.1, h.2.imp (hS _ _ (by decide)) (hS _ _ (by decide))⟩

inductive StoreAll (M : Model) (A : Around) (E : Value → Shared → Prop) (env : Env) : List Nat → List (Value → Sem Unit) → Prop
  | nil : StoreAll M A E env [] []
  | cons {x : Nat} {t : Value → Sem Unit} {xs : List Nat} {ts : List (Value → Sem Unit)} : (∀ (v : Value) (Q : Unit → Shared → Prop) (s : Shared), wpAny M A (storeName env (nm x) v) Q E s → wpAny M A (t v) Q E s) → StoreAll M A E env xs ts → StoreAll M A E env (x :: xs) (t :: ts)
/-- a row of names is stored -/
theorem storeBind {M : Model} {E : Value → Shared → Prop} (hS : SEnv sc env) : ∀ {xs : List Nat} {ds : List AV} {vs : List Value} {loc loc' : Loc} {s : Shared} {ts : List (Value → Sem Unit)} {Q : Unit → Shared → Prop}, xs.all (scStore sc) = true →
    StoreAll M A E env xs ts →
    FR g env s.heap → Vars C g ρ env s.heap loc → Rel C h₀ g ρ st s.heap → VRs C g ρ ds vs → bindNames xs ds loc = some loc' →
    (∀ h' tk, Step (ownA env) g ρ s.heap g ρ h' → Rel C h₀ g ρ st h' → FR g env h' → Vars C g ρ env h' loc' → Q () { s with heap := h', toks := tk }) →
    wpAny M A (assignInOrder ts vs) Q E s
  | [], [], vs, loc, loc', s, _, Q, _, .nil, F, V, R, hv, hb, h => by
    cases hb
    exact PyProof.Rows.assignInOrder_nil (h s.heap s.toks (Step.refl _ _ _ _) R F V)
  | x :: xs, d :: ds, vs, loc, loc', s, _, Q, ha, .cons (t := t) (ts := ts) ht hts, F, V, R, ⟨v, us, hv, h1, h2⟩, hb, h => by
    subst hv
    simp only [List.all_cons, Bool.and_eq_true] at ha
    obtain ⟨hx, hk⟩ := scStore_of hS ha.1
    refine PyProof.Rows.assignInOrder_cons (ht v _ s (storeVar hx hk F V R h1 fun h' tk S' R' F' V' => ?_))
    refine storeBind (s := { s with heap := h', toks := tk }) hS ha.2 hts F' V' R' (h2.step S') hb fun h2' tk2 S2 R2 F2 V2 => ?_
    exact h h2' tk2 (S'.trans S2) R2 F2 V2
  | [], _ :: _, _, _, _, _, _, _, _, _, _, _, _, _, hb, _ => nomatch hb
  | _ :: _, [], _, _, _, _, _, _, _, _, _, _, _, _, hb, _ => nomatch hb

theorem assignEach_names {M : Model} {E : Value → Shared → Prop} : ∀ {xs : List Nat} {es : List Expr}, namesOf es = some (xs.map nm) →
    StoreAll M A E env xs ((assignEach es env).map (·.2)) ∧ (assignEach es env).length = xs.length ∧ (assignEach es env).findIdx? (·.1) = Option.none
  | [], [], _ => ⟨.nil, rfl, rfl⟩
  | [], e :: es, h => by
    cases e <;> simp [namesOf] at h
  | x :: xs, [], h => by simp [namesOf] at h
  | x :: xs, e :: es, h => by
    cases e with
    | Name n p =>
      simp only [namesOf, List.map_cons, Option.map_eq_some_iff] at h
      obtain ⟨r, h1, h2⟩ := h
      have e1 := (List.cons.inj h2).1
      have e2 := (List.cons.inj h2).2
      subst e2
      obtain ⟨a, b, c⟩ := assignEach_names (M := M) (E := E) h1
      refine ⟨?_, ?_, ?_⟩
      · show StoreAll M A E env (x :: xs) (assign (.Name n p) env :: _)
        exact .cons (fun v Q s hq => wpAny_assign_Name (by rw [e1]; exact hq)) a
      · show List.length ((false, _) :: assignEach es env) = _
        simp [b]
      · show List.findIdx? _ ((false, _) :: assignEach es env) = _
        rw [List.findIdx?_cons]
        simp only [Bool.false_eq_true, if_false, c]
        rfl
    | _ => simp [namesOf] at h
theorem binds_names {M : Model} {E : Value → Shared → Prop} : ∀ {xs : List Nat}, StoreAll M A E env xs ((xs.map nm).map fun n => bindName env n)
  | [] => .nil
  | _ :: _ => .cons (fun _ _ _ h => wpAny_bindName h) binds_names
theorem VRs.reverse : ∀ {ds : List AV} {vs : List Value}, VRs C g ρ ds vs → VRs C g ρ ds.reverse vs.reverse
  | [], _, h => by rw [h]; rfl
  | d :: ds, _, ⟨v, us, e, h1, h2⟩ => by
    rw [e, List.reverse_cons, List.reverse_cons]
    exact h2.reverse.append ⟨v, [], rfl, h1, rfl⟩
theorem bindNames_len : ∀ {xs : List Nat} {ds : List AV} {loc loc' : Loc}, bindNames xs ds loc = some loc' → xs.length = ds.length
  | [], [], _, _, _ => rfl
  | _ :: xs, _ :: ds, _, _, h => by rw [List.length_cons, List.length_cons, bindNames_len (xs := xs) (ds := ds) h]
  | [], _ :: _, _, _, h => nomatch h
  | _ :: _, [], _, _, h => nomatch h

theorem size_keep {h h' : Heap} (he : Heap.ExtBut h.objs.size h h') : ∀ b o, h.get? b = some o → h'.get? b = some o := fun b o e => he b o (Nat.ne_of_lt (Heap.lt_size e)) e
/-- a tuple's items into names -/
theorem storeTuple {E : Value → Shared → Prop} (hA : OkA A) (hS : SEnv sc env) {xs : List Nat} {es : List Expr} {k pos} {ds : List AV} {v : Value} {loc loc' : Loc} {s : Shared} {Q : Unit → Shared → Prop} (hc : chkNames sc xs es = true)
    (F : FR g env s.heap) (V : Vars C g ρ env s.heap loc) (R : Rel C h₀ g ρ st s.heap) (hv : VR C g ρ (.tup ds) v) (hb : bindNames xs ds loc = some loc')
    (h : ∀ h' tk, Step (ownA env) g ρ s.heap g ρ h' → Rel C h₀ g ρ st h' → FR g env h' → Vars C g ρ env h' loc' → Q () { s with heap := h', toks := tk }) :
    wpAny (model prog w) A (assign (.Tuple es k pos) env v) Q E s := by
  unfold chkNames at hc
  simp only [Bool.and_eq_true, beq_iff_eq] at hc
  obtain ⟨a, b, c⟩ := assignEach_names (A := A) (env := env) (M := model prog w) (E := E) hc.2
  obtain ⟨t, vs, rfl, ht, hs⟩ := hv
  refine assign_Tuple_tuple hA.handled (ht.isTup R) (by rw [b, bindNames_len hb, List.size_toArray, hs.length]) c fun h1 he => ?_
  have k1 := size_keep he
  have S1 := Step.grow k1 [] g ρ
  refine storeBind (s := { s with heap := h1 }) hS hc.1 a (F.step R S1) (V.step F R S1) (R.grow k1) hs hb fun h2 tk2 S2 R2 F2 V2 => ?_
  exact h h2 tk2 ((S1.more none_own).trans S2) R2 F2 V2

theorem storeNest {E : Value → Shared → Prop} (hA : OkA A) (hS : SEnv sc env) : ∀ {xss : List (List Nat)} {es : List Expr} {ds : List AV} {vs : List Value} {loc loc' : Loc} {s : Shared} {Q : Unit → Shared → Prop}, chkNest sc xss es = true →
    FR g env s.heap → Vars C g ρ env s.heap loc → Rel C h₀ g ρ st s.heap → VRs C g ρ ds vs → bindNest xss ds loc = some loc' →
    (∀ h' tk, Step (ownA env) g ρ s.heap g ρ h' → Rel C h₀ g ρ st h' → FR g env h' → Vars C g ρ env h' loc' → Q () { s with heap := h', toks := tk }) →
    wpAny (model prog w) A (assignInOrder ((assignEach es env).map (·.2)) vs) Q E s
  | [], es, ds, vs, loc, loc', s, Q, hc, F, V, R, hv, hb, h => by
    cases es with
    | cons _ _ => simp [chkNest] at hc
    | nil =>
      cases ds with
      | cons _ _ => simp [bindNest] at hb
      | nil =>
        cases hb
        exact PyProof.Rows.assignInOrder_nil (h s.heap s.toks (Step.refl _ _ _ _) R F V)
  | xs :: xss, es, ds, vs, loc, loc', s, Q, hc, F, V, R, hv, hb, h => by
    cases es with
    | nil => simp [chkNest] at hc
    | cons e r' =>
    cases e with
    | Tuple es1 k1 p1 =>
      simp only [chkNest, Bool.and_eq_true] at hc
      cases ds with
      | nil => simp [bindNest] at hb
      | cons d ds =>
      cases d with
      | tup d1 =>
        simp only [bindNest] at hb
        cases hb1 : bindNames xs d1 loc with
        | none => simp only [hb1] at hb; cases hb
        | some loc1 =>
          simp only [hb1] at hb
          obtain ⟨v, us, rfl, h1, h2⟩ := hv
          show wpAny _ _ (assignInOrder (assign (.Tuple es1 k1 p1) env :: _) _) _ _ _
          refine PyProof.Rows.assignInOrder_cons (storeTuple hA hS hc.1 F V R h1 hb1 fun h' tk S' R' F' V' => ?_)
          exact storeNest (s := { s with heap := h', toks := tk }) hA hS hc.2 F' V' R' (h2.step S') hb fun h2' tk2 S2 R2 F2 V2 => h h2' tk2 (S'.trans S2) R2 F2 V2
      | _ => simp [bindNest] at hb
    | _ => simp [chkNest] at hc
theorem nest_each : ∀ {xss : List (List Nat)} {es : List Expr} {ds : List AV} {loc loc' : Loc}, chkNest sc xss es = true → bindNest xss ds loc = some loc' → (assignEach es env).length = ds.length ∧ (assignEach es env).findIdx? (·.1) = Option.none
  | [], es, ds, loc, loc', hc, hb => by
    cases es with
    | cons _ _ => simp [chkNest] at hc
    | nil =>
      cases ds with
      | cons _ _ => simp [bindNest] at hb
      | nil => exact ⟨rfl, rfl⟩
  | xs :: xss, es, ds, loc, loc', hc, hb => by
    cases es with
    | nil => simp [chkNest] at hc
    | cons e r' =>
    cases e with
    | Tuple es1 k1 p1 =>
      simp only [chkNest, Bool.and_eq_true] at hc
      cases ds with
      | nil => simp [bindNest] at hb
      | cons d ds =>
      cases d with
      | tup d1 =>
        simp only [bindNest] at hb
        cases hb1 : bindNames xs d1 loc with
        | none => simp only [hb1] at hb; cases hb
        | some loc1 =>
          simp only [hb1] at hb
          obtain ⟨a, b⟩ := nest_each (xss := xss) hc.2 hb
          constructor
          · show List.length ((false, _) :: assignEach _ env) = _
            simp [a]
          · show List.findIdx? _ ((false, _) :: assignEach _ env) = _
            rw [List.findIdx?_cons]
            simp only [Bool.false_eq_true, if_false, b]
            rfl
      | _ => simp [bindNest] at hb
    | _ => simp [chkNest] at hc

theorem swaps_plain {value : Expr} {t : Option Expr} {n : Nat} (h : isComp value = false) : swapsWith value t n env = pure false := by
  cases value <;> first | rfl | cases h
end
end Mine
set_option maxRecDepth 100000
set_option maxHeartbeats 4000000
namespace Mine
open PySem PySem.W PyProof.Rows PySem.Calls
noncomputable def asg1 : (x : Stmt) → Option {q : Expr × Expr // ∃ p, x = .Assign [q.1] q.2 p}
  | .Assign ts e p => match ts with
    | [t] => some ⟨(t, e), p, rfl⟩
    | _ => Option.none
  | _ => Option.none
noncomputable def dExprS : (x : Stmt) → Option {e : Expr // ∃ p, x = .Expr e p}
  | .Expr e p => some ⟨e, p, rfl⟩
  | _ => Option.none
noncomputable def dIfS : (x : Stmt) → Option {q : Expr × List Stmt × List Stmt // ∃ p, x = .If q.1 q.2.1 q.2.2 p}
  | .If c a b p => some ⟨(c, a, b), p, rfl⟩
  | _ => Option.none
noncomputable def dWhileS : (x : Stmt) → Option {q : Expr × List Stmt × List Stmt // ∃ p, x = .While q.1 q.2.1 q.2.2 p}
  | .While c a b p => some ⟨(c, a, b), p, rfl⟩
  | _ => Option.none
noncomputable def dForS : (x : Stmt) → Option {q : Expr × Expr × List Stmt × List Stmt // ∃ p, x = .For q.1 q.2.1 q.2.2.1 q.2.2.2 p}
  | .For t i a b p => some ⟨(t, i, a, b), p, rfl⟩
  | _ => Option.none
noncomputable def dRetS : (x : Stmt) → Option {q : Option Expr // ∃ p, x = .Return q p}
  | .Return q p => some ⟨q, p, rfl⟩
  | _ => Option.none
noncomputable def isCall : Expr → Bool
  | .Call .. => true
  | _ => false
noncomputable def isC1 : (e : PE) → Option {q : List Nat × Nat × PI × PEs × PE // e = .comp1 q.1 q.2.1 q.2.2.1 q.2.2.2.1 q.2.2.2.2}
  | .comp1 a b c d e => some ⟨(a, b, c, d, e), rfl⟩
  | _ => Option.none
noncomputable def tgtOk (sc : Scope) (sw : Bool) (t : PT) (es : List Expr) (e : Expr) : Bool := match t with
  | .names xs => chkNames sc xs es && bif sw then swapNames sc es e else frontNames sc es e
  | .nest xss => !sw && chkNest sc xss es && !es.isEmpty
  | .name _ => false
theorem tgtOk_inv {sc : Scope} {sw : Bool} {t : PT} {es : List Expr} {e' : Expr} (h : tgtOk sc sw t es e' = true) : (∃ xs, t = .names xs ∧ chkNames sc xs es = true ∧ ((sw = true ∧ swapNames sc es e' = true) ∨ (sw = false ∧ frontNames sc es e' = true))) ∨ (∃ xss, sw = false ∧ t = .nest xss ∧ chkNest sc xss es = true ∧ es.isEmpty = false) := by
  cases t with
  | names xs =>
    refine .inl ⟨xs, rfl, (an2 h).1, ?_⟩
    cases sw with
    | true => exact .inl ⟨rfl, (an2 h).2⟩
    | false => exact .inr ⟨rfl, (an2 h).2⟩
  | nest xss => exact .inr ⟨xss, not_tf (an2 (an2 h).1).1, rfl, (an2 (an2 h).1).2, not_tf (an2 h).2⟩
  | name _ => cases h
mutual
noncomputable def chkS (sc : Scope) : PS → Stmt → Bool
  | .assign x e, s => (asg1 s).any fun q => ((dName q.1.1).any fun n => n.1 == nm x) && scStore sc x && chkE sc e q.1.2 && (!isComp q.1.2 || sc.names.lookup (nm x) != some .local)
  | .assignC x e, s => (asg1 s).any fun q => ((dName q.1.1).any fun n => n.1 == nm x) && scLocal sc x && (q.1.1.pos.line == q.1.2.pos.line) && (isC1 e).isSome && chkE sc e q.1.2 && (dComp q.1.2).any fun u => !(u.1.2.2.names.any fun (m, k) => m == nm x && (k == .local || k == .cell))
  | .assignT sw t e, s => (asg1 s).any fun q => chkE sc e q.1.2 && !isComp q.1.2 && (dTup q.1.1).any fun u => tgtOk sc sw t u.1 q.1.2
  | .setItem o i v, s => (asg1 s).any fun q => chkE sc v q.1.2 && !isComp q.1.2 && (dSub q.1.1).any fun u => chkE sc o u.1.1 && chkE sc i u.1.2
  | .append o v, s => (dExprS s).any fun e => (dCall e.1).any fun q => q.1.2.2.1.isEmpty && ((d1 q.1.2.1).any fun v' => chkE sc v v' && !isStar v') && (dAttr q.1.1).any fun u => u.1.2.1 == ("append" : Str) && chkE sc o u.1.1 && !isCall u.1.1 && u.1.2.2.endLine == q.1.2.2.2.line
  | .ite c a b, s => (dIfS s).any fun q => chkE sc c q.1.1 && chkSs sc a q.1.2.1 && chkSs sc b q.1.2.2
  | .whl c b, s => (dWhileS s).any fun q => chkE sc c q.1.1 && chkSs sc b q.1.2.1 && q.1.2.2.isEmpty
  | .forr x it b, s => (dForS s).any fun q => ((dName q.1.1).any fun n => n.1 == nm x) && scStore sc x && chkI sc it q.1.2.1 && chkSs sc b q.1.2.2.1 && q.1.2.2.2.isEmpty
  | .ret e, s => (dRetS s).any fun q => q.1.any fun e' => chkE sc e e'
noncomputable def chkSs (sc : Scope) : PSs → List Stmt → Bool
  | .nil, l => l.isEmpty
  | .cons s r, l => match l with
    | s' :: r' => chkS sc s s' && chkSs sc r r'
    | [] => false
end
section
variable {sc : Scope} {x : Stmt}
theorem invS_assign {n : Nat} {e : PE} (h : chkS sc (.assign n e) x = true) : ∃ q e' p, x = .Assign [.Name (nm n) q] e' p ∧ scStore sc n = true ∧ chkE sc e e' = true ∧ (isComp e' = true → sc.names.lookup (nm n) ≠ some .local) := by
  obtain ⟨q, _, h⟩ := any_some (show ((asg1 x).any fun q => ((dName q.1.1).any fun m => m.1 == nm n) && scStore sc n && chkE sc e q.1.2 && (!isComp q.1.2 || sc.names.lookup (nm n) != some .local)) = true from h)
  obtain ⟨p, hq⟩ := q.2
  have i := an2 (an2 h).1
  obtain ⟨z, hz⟩ := dName_eq (an2 i.1).1
  refine ⟨z, _, p, hq.trans (by rw [hz]), (an2 i.1).2, i.2, fun hc => ?_⟩
  rcases Bool.or_eq_true_iff.mp (an2 h).2 with h4 | h4
  · rw [hc] at h4; cases h4
  · exact bne_iff_ne.mp h4
theorem invS_assignC {n : Nat} {e : PE} (h : chkS sc (.assignC n e) x = true) : ∃ caps y it c elt elt' gens sc' epos npos p, e = .comp1 caps y it c elt ∧ x = .Assign [.Name (nm n) npos] (.ListComp elt' gens sc' epos) p ∧ scLocal sc n = true ∧ (npos.line == epos.line) = true ∧
    (sc'.names.any fun (m, k) => m == nm n && (k == .local || k == .cell)) = false ∧ chkE sc (.comp1 caps y it c elt) (.ListComp elt' gens sc' epos) = true := by
  obtain ⟨q, _, h⟩ := any_some (show ((asg1 x).any fun q => ((dName q.1.1).any fun m => m.1 == nm n) && scLocal sc n && (q.1.1.pos.line == q.1.2.pos.line) && (isC1 e).isSome && chkE sc e q.1.2 && (dComp q.1.2).any fun u => !(u.1.2.2.names.any fun (m, k) => m == nm n && (k == .local || k == .cell))) = true from h)
  obtain ⟨p, hq⟩ := q.2
  obtain ⟨⟨u, ep, hc⟩, _, h5⟩ := any_some (an2 h).2
  have i := an2 (an2 h).1
  have j := an2 i.1
  have k := an2 j.1
  obtain ⟨z, hz⟩ := dName_eq (an2 k.1).1
  obtain ⟨v, _⟩ := Option.isSome_iff_exists.mp j.2
  have h3 := k.2
  rw [hz, hc] at h3
  exact ⟨_, _, _, _, _, u.1, u.2.1, u.2.2, ep, z, p, v.2, hq.trans (by rw [hz, hc]), (an2 k.1).2, h3, not_tf h5, by rw [← hc, ← v.2]; exact i.2⟩
theorem invS_assignT {sw : Bool} {t : PT} {e : PE} (h : chkS sc (.assignT sw t e) x = true) : ∃ es k q e' p, x = .Assign [.Tuple es k q] e' p ∧ chkE sc e e' = true ∧ isComp e' = false ∧
    ((∃ xs, t = .names xs ∧ chkNames sc xs es = true ∧ ((sw = true ∧ swapNames sc es e' = true) ∨ (sw = false ∧ frontNames sc es e' = true))) ∨ (∃ xss, sw = false ∧ t = .nest xss ∧ chkNest sc xss es = true ∧ es.isEmpty = false)) := by
  obtain ⟨q, _, h⟩ := any_some (show ((asg1 x).any fun q => chkE sc e q.1.2 && !isComp q.1.2 && (dTup q.1.1).any fun u => tgtOk sc sw t u.1 q.1.2) = true from h)
  obtain ⟨p, hq⟩ := q.2
  obtain ⟨⟨u, k, r, ht⟩, _, h5⟩ := any_some (an2 h).2
  have i := an2 (an2 h).1
  exact ⟨u, k, r, _, p, hq.trans (by rw [ht]), i.1, not_tf i.2, tgtOk_inv h5⟩
theorem invS_setItem {o i v : PE} (h : chkS sc (.setItem o i v) x = true) : ∃ o' i' q v' p, x = .Assign [.Subscript o' i' q] v' p ∧ chkE sc v v' = true ∧ chkE sc o o' = true ∧ chkE sc i i' = true ∧ isComp v' = false := by
  obtain ⟨q, _, h⟩ := any_some (show ((asg1 x).any fun q => chkE sc v q.1.2 && !isComp q.1.2 && (dSub q.1.1).any fun u => chkE sc o u.1.1 && chkE sc i u.1.2) = true from h)
  obtain ⟨p, hq⟩ := q.2
  obtain ⟨⟨u, r, ht⟩, _, h5⟩ := any_some (an2 h).2
  have i := an2 (an2 h).1
  exact ⟨u.1, u.2, r, _, p, hq.trans (by rw [ht]), i.1, (an2 h5).1, (an2 h5).2, not_tf i.2⟩
theorem invS_append {o v : PE} (h : chkS sc (.append o v) x = true) : ∃ o' apos v' pos p, x = .Expr (.Call (.Attribute o' "append" apos) [v'] [] pos) p ∧ chkE sc o o' = true ∧ chkE sc v v' = true ∧ isCall o' = false ∧ (apos.endLine == pos.line) = true ∧ isStar v' = false := by
  obtain ⟨e, _, h⟩ := any_some (show ((dExprS x).any fun e => (dCall e.1).any fun q => q.1.2.2.1.isEmpty && ((d1 q.1.2.1).any fun v' => chkE sc v v' && !isStar v') && (dAttr q.1.1).any fun u => u.1.2.1 == ("append" : Str) && chkE sc o u.1.1 && !isCall u.1.1 && u.1.2.2.endLine == q.1.2.2.2.line) = true from h)
  obtain ⟨p, he⟩ := e.2
  obtain ⟨⟨q, hq⟩, _, h⟩ := any_some h
  have i := an2 (an2 h).1
  obtain ⟨v', hv, h5⟩ := any_some i.2
  obtain ⟨⟨u, hu⟩, _, h6⟩ := any_some (an2 h).2
  have j := an2 (an2 h6).1
  have k : u.2.1 = ("append" : Str) := eq_of_beq (an2 j.1).1
  have l : q.2.2.1 = [] := emp_eq i.1
  exact ⟨u.1, u.2.2, v', q.2.2.2, p, he.trans (by rw [hq, hu, l, show q.2.1 = [v'] from d1_eq hv, k]), (an2 j.1).2, (an2 h5).1, not_tf j.2, (an2 h6).2, not_tf (an2 h5).2⟩
theorem invS_ite {c : PE} {a b : PSs} (h : chkS sc (.ite c a b) x = true) : ∃ c' a' b' p, x = .If c' a' b' p ∧ chkE sc c c' = true ∧ chkSs sc a a' = true ∧ chkSs sc b b' = true := by
  obtain ⟨q, _, h⟩ := any_some (show ((dIfS x).any fun q => chkE sc c q.1.1 && chkSs sc a q.1.2.1 && chkSs sc b q.1.2.2) = true from h)
  obtain ⟨p, hq⟩ := q.2
  have i := an2 (an2 h).1
  exact ⟨_, _, _, p, hq, i.1, i.2, (an2 h).2⟩
theorem invS_whl {c : PE} {b : PSs} (h : chkS sc (.whl c b) x = true) : ∃ c' b' p, x = .While c' b' [] p ∧ chkE sc c c' = true ∧ chkSs sc b b' = true := by
  obtain ⟨q, _, h⟩ := any_some (show ((dWhileS x).any fun q => chkE sc c q.1.1 && chkSs sc b q.1.2.1 && q.1.2.2.isEmpty) = true from h)
  obtain ⟨p, hq⟩ := q.2
  have i := an2 (an2 h).1
  exact ⟨_, _, p, hq.trans (by rw [emp_eq (an2 h).2]), i.1, i.2⟩
theorem invS_forr {n : Nat} {it : PI} {b : PSs} (h : chkS sc (.forr n it b) x = true) : ∃ q it' b' p, x = .For (.Name (nm n) q) it' b' [] p ∧ scStore sc n = true ∧ chkI sc it it' = true ∧ chkSs sc b b' = true := by
  obtain ⟨q, _, h⟩ := any_some (show ((dForS x).any fun q => ((dName q.1.1).any fun m => m.1 == nm n) && scStore sc n && chkI sc it q.1.2.1 && chkSs sc b q.1.2.2.1 && q.1.2.2.2.isEmpty) = true from h)
  obtain ⟨p, hq⟩ := q.2
  have i := an2 (an2 h).1
  have j := an2 i.1
  obtain ⟨z, hz⟩ := dName_eq (an2 j.1).1
  exact ⟨z, _, _, p, hq.trans (by rw [hz, emp_eq (an2 h).2]), (an2 j.1).2, j.2, i.2⟩
theorem invS_ret {e : PE} (h : chkS sc (.ret e) x = true) : ∃ e' p, x = .Return (some e') p ∧ chkE sc e e' = true := by
  obtain ⟨q, _, h⟩ := any_some (show ((dRetS x).any fun q => q.1.any fun e' => chkE sc e e') = true from h)
  obtain ⟨p, hq⟩ := q.2
  obtain ⟨e', he, h⟩ := any_some h
  exact ⟨e', p, hq.trans (by rw [he]), h⟩
theorem invS_nil {l : List Stmt} (h : chkSs sc .nil l = true) : l = [] := emp_eq h
theorem invS_cons {s : PS} {r : PSs} {l : List Stmt} (h : chkSs sc (.cons s r) l = true) : ∃ s' r', l = s' :: r' ∧ chkS sc s s' = true ∧ chkSs sc r r' = true := by
  cases l with
  | nil => cases (h : false = true)
  | cons s' r' =>
    have i := an2 (show (chkS sc s s' && chkSs sc r r') = true from h)
    exact ⟨_, _, rfl, i.1, i.2⟩
end
end Mine
set_option maxRecDepth 100000
set_option maxHeartbeats 4000000
namespace Mine
open PySem PySem.W PyProof.Rows PySem.Calls
section
variable {sc : Scope} {env : Env}

noncomputable def nmLocal (env : Env) (line : Nat) : Expr → Option Str
  | .Name id pos => if env.kindOf id == some .local && pos.line == line then some id else none
  | _ => none
theorem nmLocal_Name (env : Env) (line : Nat) (n : Str) (p : Pos) : nmLocal env line (.Name n p) = if env.kindOf n == some .local && p.line == line then some n else none := rfl
theorem swapped_eq (es : List Expr) (k q) (vs : List Expr) (k2 p2) (env : Env) : swappedStores [.Tuple es k q] (.Tuple vs k2 p2) env =
    (if (!(es.length == 2 || es.length == 3) || vs.length != es.length || env.blockKind != .function) = true then pure none
    else if (vs.any isStar) = true then pure none
    else if ((es.filterMap (nmLocal env ((es.head?.map (·.pos.line)).getD 0))).length != es.length || (es.filterMap (nmLocal env ((es.head?.map (·.pos.line)).getD 0))).eraseDups.length != (es.filterMap (nmLocal env ((es.head?.map (·.pos.line)).getD 0))).length) = true then pure none
    else if (vs.all (foldedForSure 8)) = true then pure none
    else if (vs.all (constantsAlone 8)) = true then (do unsupported "assign.tuple-of-constant-expressions:order-of-the-stores"; pure (some (es.filterMap (nmLocal env ((es.head?.map (·.pos.line)).getD 0)))))
    else pure (some (es.filterMap (nmLocal env ((es.head?.map (·.pos.line)).getD 0))))) := by
  have e1 : isStar = (fun e : Expr => match e with | .Starred .. => true | _ => false) := by funext e; cases e <;> rfl
  have e2 : ∀ line, nmLocal env line = (fun e : Expr => match e with | .Name id pos => if env.kindOf id == some .local && pos.line == line then some id else none | _ => none) := fun line => by funext e; cases e <;> rfl
  rw [e1, e2]
  rfl
noncomputable def isLoc (sc : Scope) (line : Nat) : Expr → Bool
  | .Name id pos => sc.names.lookup id == some .local && pos.line == line
  | _ => false
theorem nm_len (line : Nat) : ∀ (es : List Expr), (es.filterMap (nmLocal env line)).length ≤ es.length
  | [] => Nat.le_refl _
  | e :: r => by
    have ih := nm_len line r
    rw [List.filterMap_cons]
    split
    · exact Nat.le_succ_of_le ih
    · exact Nat.succ_le_succ ih
theorem nm_all (hS : SEnv sc env) (line : Nat) : ∀ (xs : List Nat) (es : List Expr), xs.all (scStore sc) = true → namesOf es = some (xs.map nm) → (es.filterMap (nmLocal env line)).length = es.length → (es.all (fun | .Name id _ => sc.names.lookup id == some .local | _ => false)) = true
  | xs, [], _, _, _ => rfl
  | [], e :: r, _, hn, _ => by cases e <;> simp [namesOf] at hn
  | x :: xs, e :: r, ha, hn, hl => by
    cases e with
    | Name n p =>
      simp only [namesOf, Option.map_eq_some_iff, List.map_cons] at hn
      obtain ⟨r', h1, h2⟩ := hn
      have e1 := (List.cons.inj h2).1
      have e2 := (List.cons.inj h2).2
      subst e2
      simp only [List.all_cons, Bool.and_eq_true] at ha ⊢
      have hlen := nm_len (env := env) line r
      rw [List.filterMap_cons] at hl
      by_cases hc : (env.kindOf n == some .local && p.line == line) = true
      · have e3 : nmLocal env line (.Name n p) = some n := by rw [nmLocal_Name, if_pos hc]
        rw [e3] at hl
        refine ⟨?_, nm_all hS line xs r ha.2 h1 (by simpa using hl)⟩
        simp only [Bool.and_eq_true, beq_iff_eq] at hc ⊢
        have hst := ha.1
        unfold scStore at hst
        simp only [Bool.and_eq_true, decide_eq_true_eq, Bool.or_eq_true, beq_iff_eq] at hst
        rcases hst.2 with z | z
        · rw [e1]; exact z
        · rw [e1, hS _ _ (by decide) z] at hc; exact absurd hc.1 (by simp)
      · have e3 : nmLocal env line (.Name n p) = none := by rw [nmLocal_Name, if_neg hc]
        rw [e3] at hl
        simp only [List.length_cons] at hl
        omega
    | _ => simp [namesOf] at hn
theorem front_none {es : List Expr} {k q} {value : Expr} (hS : SEnv sc env) {xs : List Nat} (hn : chkNames sc xs es = true) (h : frontNames sc es value = true) : swappedStores [.Tuple es k q] value env = pure none := by
  unfold chkNames at hn
  simp only [Bool.and_eq_true, beq_iff_eq] at hn
  cases value with
  | Tuple vs k2 p2 =>
    rw [swapped_eq]
    unfold frontNames at h
    simp only [Bool.or_eq_true, Bool.not_eq_true'] at h
    by_cases c1 : (!(es.length == 2 || es.length == 3) || vs.length != es.length || env.blockKind != .function) = true
    · rw [if_pos c1]
    · rw [if_neg c1]
      by_cases c2 : (vs.any isStar) = true
      · rw [if_pos c2]
      · rw [if_neg c2]
        have hall : (es.all (fun | .Name id _ => sc.names.lookup id == some .local | _ => false)) = false := by
          rcases h with ((h | h) | h) | h
          · exact absurd (by simp [h]) c1
          · exact absurd (by simp [h]) c1
          · exact absurd h c2
          · exact h
        have hk : (es.filterMap (nmLocal env ((es.head?.map (·.pos.line)).getD 0))).length ≠ es.length := fun hl => by
          have := nm_all hS _ xs es hn.1 hn.2 hl
          rw [hall] at this; cases this
        rw [if_pos (by simp [hk])]
  | _ => rfl
theorem nest_none {es : List Expr} {k q} {value : Expr} {xss : List (List Nat)} (hn : chkNest sc xss es = true) (he : es.isEmpty = false) : swappedStores [.Tuple es k q] value env = pure none := by
  cases value with
  | Tuple vs k2 p2 =>
    rw [swapped_eq]
    by_cases c1 : (!(es.length == 2 || es.length == 3) || vs.length != es.length || env.blockKind != .function) = true
    · rw [if_pos c1]
    · rw [if_neg c1]
      by_cases c2 : (vs.any isStar) = true
      · rw [if_pos c2]
      · rw [if_neg c2]
        have h1 : ∀ line (xss : List (List Nat)) (es : List Expr), chkNest sc xss es = true → es.filterMap (nmLocal env line) = [] := by
          intro line xss es
          induction es generalizing xss with
          | nil => intro _; rfl
          | cons e r ih =>
            intro hc
            cases xss with
            | nil => simp [chkNest] at hc
            | cons xs xss =>
              cases e <;> first | (simp [chkNest] at hc; done) | skip
              simp only [chkNest, Bool.and_eq_true] at hc
              rw [List.filterMap_cons]
              exact ih xss hc.2
        rw [h1 _ xss es hn, if_pos (by cases es <;> simp_all)]
  | _ => rfl
theorem swap_names {es : List Expr} {k q} {value : Expr} (hS : SEnv sc env) (hk : env.scope.kind = .function) {xs : List Nat} (hn : chkNames sc xs es = true) (h : swapNames sc es value = true) : swappedStores [.Tuple es k q] value env = pure (some (xs.map nm)) := by
  unfold chkNames at hn
  simp only [Bool.and_eq_true, beq_iff_eq] at hn
  cases value with
  | Tuple vs k2 p2 =>
    rw [swapped_eq]
    unfold swapNames at h
    simp only [Bool.and_eq_true, Bool.not_eq_true'] at h
    obtain ⟨⟨⟨⟨⟨⟨⟨h1, h2⟩, h3⟩, h4⟩, h5⟩, h6⟩, h7⟩, h8⟩ := h
    have hb : env.blockKind = .function := by unfold Env.blockKind; rw [hk]; rfl
    rw [if_neg (by rw [h1, hb]; simp at h2; simp [h2]), if_neg (by rw [h4]; decide)]
    have hf : ∀ (xs : List Nat) (es : List Expr) (line : Nat), xs.all (scStore sc) = true → namesOf es = some (xs.map nm) → (es.all fun | .Name id pos => sc.names.lookup id == some .local && pos.line == line | _ => false) = true → es.filterMap (nmLocal env line) = xs.map nm := by
      intro xs es line
      induction es generalizing xs with
      | nil => intro _ hn _; simp only [namesOf, Option.some.injEq] at hn; exact hn
      | cons e r ih =>
        intro ha hn hl
        cases e with
        | Name n p =>
          cases xs with
          | nil => simp [namesOf] at hn
          | cons x xs =>
            simp only [namesOf, Option.map_eq_some_iff, List.map_cons] at hn
            obtain ⟨r', e0, e1⟩ := hn
            have e2 := (List.cons.inj e1).1
            have e3 := (List.cons.inj e1).2
            subst e3
            simp only [List.all_cons, Bool.and_eq_true] at ha hl
            have e4 : nmLocal env line (.Name n p) = some n := by
              have := hS n .local (by decide) (by simpa using hl.1.1)
              rw [nmLocal_Name, this, if_pos (by simpa using hl.1.2)]
            rw [List.filterMap_cons, e4, List.map_cons, ih xs ha.2 e0 hl.2, e2]
        | _ => simp [namesOf] at hn
    rw [hf xs es _ hn.1 hn.2 h7]
    rw [hn.2] at h8
    have hlen : (xs.map nm).length = es.length := by
      have : ∀ (ns : List Str) (es : List Expr), namesOf es = some ns → ns.length = es.length := by
        intro ns es
        induction es generalizing ns with
        | nil => intro h; cases h; rfl
        | cons e r ih =>
          intro h
          cases e with
          | Name n p =>
            simp only [namesOf, Option.map_eq_some_iff] at h
            obtain ⟨r', e0, e1⟩ := h
            subst e1
            rw [List.length_cons, List.length_cons, ih r' e0]
          | _ => simp [namesOf] at h
      exact this _ _ hn.2
    rw [if_neg (by simp only [beq_iff_eq] at h8; simp only [hlen, bne_self_eq_false, Bool.false_or, Bool.not_eq_true]; rw [← hlen, h8]; simp), if_neg (by rw [h6]; decide), if_neg (by rw [h5]; decide)]
  | _ => simp [swapNames] at h
end
end Mine
set_option maxRecDepth 100000
set_option maxHeartbeats 4000000
namespace Mine
open PySem PySem.W PyProof.Rows PySem.Calls
section
variable {prog : Program} {w : World} {A : Around} {C : Addr} {h₀ : Heap} {K : Frag} {fnv : Nat → Value} {T : Prims}

theorem wp_falseC {M : Model} {A : Around} {R : Value → Shared → Prop} {α : Type} {t : Sem α} {s : Shared} {Q : α → Shared → Prop} (h : wpAny M A t Q NoE s) : wpAny M A t Q R s := wp_false h

/-- a comprehension whose list is kept in a local name at once -/
theorem assignCS (W : Wd prog w A C h₀ K fnv T) {n : Nat} {caps : List Nat} {y : Nat} {it : PI} {c : PEs} {elt : PE} {sc : Scope} {env : Env} {elt' : Expr} {gens : List Comprehension} {sc' : Scope} {epos npos p : Pos}
    (hl : scLocal sc n = true) (hp : (npos.line == epos.line) = true) (hn : (sc'.names.any fun (m, k) => m == nm n && (k == .local || k == .cell)) = false) (hc : chkE sc (.comp1 caps y it c elt) (.ListComp elt' gens sc' epos) = true) (hS : SEnv sc env) :
    SndS prog w A C h₀ T (.assignC n (.comp1 caps y it c elt)) (.Assign [.Name (nm n) npos] (.ListComp elt' gens sc' epos) p) env := fun loc st Q g ρ s F V R h => by
  obtain ⟨elt2, q, it', ifs', sc2, p2, e, hsc, hxl, h1, h2, h3⟩ := inv_comp1 hc
  cases e
  unfold scLocal at hl
  simp only [Bool.and_eq_true, decide_eq_true_eq, beq_iff_eq] at hl
  have hkl := hS _ _ (by decide) hl.2
  dsimp only [execW, evalW] at h
  obtain ⟨hkf, hnm, hnd, hcp⟩ := compSc_of hsc
  have hsw : swapsWith (.ListComp elt' [⟨.Name (nm y) q, it', ifs', 0⟩] sc' epos) (some (.Name (nm n) npos)) p.line env = pure true := by
    show (pure (env.blockKind == .function && env.kindOf (nm n) == some .local && npos.line == epos.line && !(sc'.names.any fun (m, k) => m == nm n && (k == .local || k == .cell))) : Sem Bool) = pure true
    have hb : env.blockKind = .function := by unfold Env.blockKind; rw [F.kind]; rfl
    rw [hb, hkl, hp, hn]; rfl
  rw [exec_Assign_Name_used _ _ _ _ hsw]
  refine wpAny_bind (wpAny_standAt (wpAny_bind ?_))
  show wpAny _ A (do let _ ← comprehension (.ListComp elt' [⟨.Name (nm y) q, it', ifs', 0⟩] sc' epos) sc' env _ (newList []) false (eval it' env) (some (assign (.Name (nm n) npos) env))) _ _ s
  refine wpAny_bind (wpAny_mono (wpAny_comprehension_free (use := some (assign (.Name (nm n) npos) env)) (Q := fun _ s' => PostF C h₀ g ρ s env Q .next s') rfl (fun z => chkI_set h1 env z) (closureFor_cl (fun n hm => ?_)) hkf (fun z hz hl => ?_)
    (wpAny_mono (itS W it it' sc env h1 hS loc st _ g ρ s F V R h) (fun xv s₁ h₁ => wpAny_mono h₁ (fun itv s₂ h₂ => ?_) fun _ _ x => x.elim) fun _ _ x => x.elim)) (fun _ s' hq => wpAny_pure (wpAny_pure hq)) fun _ _ e => e)
  · rcases hnm _ hm with ⟨z, _⟩ | ⟨_, z⟩
    · cases z
    · exact F.has n (hS n .cell (by decide) z)
  · rcases hnm z hz with ⟨_, z2⟩ | ⟨z2, _⟩
    · exact z2
    · rw [hl] at z2; cases z2
  · refine h₂.elim fun h' tk g' ρ' st' items src itA S R' I hi gi hq => ?_
    refine compRest1 (s := { s with heap := h', toks := tk }) (RR := fun acc L => compPost (model prog w) A NoE (some (assign (.Name (nm n) npos) env)) (fun _ s' => PostF C h₀ g ρ s env Q .next s') acc L) (Q := fun d st => Q Option.none (upd loc n d) st) W hsc hS hxl (fun cenv hSc => evalS W elt elt' sc' cenv h3 hSc) (fun cenv hSc => testsS W c ifs' sc' cenv h2 hSc) S (F.step R S) (V.step F R S) R' I hi gi hq ?_
    intro acc L h2 tk2 g2 ρ2 st2 m S2 R2 hLB hLs hm gL hacc hq2
    have S2' : Step [] g ρ s.heap g2 ρ2 h2 := S2.called (fun b hb => by rw [List.mem_singleton.mp hb]; exact hLB)
    have F2 := F.step R S2'
    have V2 := V.step F R S2'
    have hLo : L ∉ ownA env := fun hm' => by
      rcases List.mem_cons.mp hm' with q | q
      · obtain ⟨m', o, _, _, ho, _⟩ := F.ns; rw [← q, hLB] at ho; cases ho
      · obtain ⟨⟨n', c'⟩, hc', rfl⟩ := List.mem_map.mp q
        have hlk : ∃ c2, env.cells.lookup n' = some c2 := lookup_of_mem hc'
        obtain ⟨c2, e2⟩ := hlk
        have := F.nodup n' c2 c' (mem_of_lookup e2) hc'
        subst this
        obtain ⟨⟨v, o, ho, _⟩, _⟩ := F.cell n' _ e2
        rw [show s.heap.get? c2 = some o from ho] at hLB; cases hLB
    show wpAny _ A (assign (.Name (nm n) npos) env (.ref acc)) _ _ _
    refine wpAny_assign_Name (storeVar (s := { s with heap := h2, toks := tk2 }) hl.1 (.inl hkl) F2 V2 R2 (d := .lst st'.length) ⟨acc, hacc, rfl⟩ fun h3 tk3 S3 R3 F3 V3 => ?_)
    have hm3 : h3.Ns L m := Ns_keep hm fun o e => S3.keep L o e (fun hmm => by obtain ⟨its, qq⟩ := R2.at hmm; exact list_not_ns qq hm) hLo
    refine ⟨m, hm3, fun h4 hs4 => ?_⟩
    have kb : ∀ b o, b ≠ L → h3.get? b = some o → h4.get? b = some o := fun b o hb e => (hs4.2 b hb).trans e
    exact ⟨h4, tk3, g2, ρ2, st2, _, rfl, ((S2'.more none_own).trans S3).iter hLB kb, R3.off kb gL (fun hmm => by obtain ⟨its, qq⟩ := R3.at hmm; exact list_not_ns qq hm3), F3.keepBut hLo kb, V3.keepBut hLo kb, .inl ⟨rfl, hq2⟩⟩

theorem stepOwn {env : Env} {g g' : Gh} {ρ ρ' : List Addr} {h h' : Heap} (S : Step [] g ρ h g' ρ' h') : Step (ownA env) g ρ h g' ρ' h' := S.more none_own

/-- what a turn of a loop says of the flow -/
theorem forS (W : Wd prog w A C h₀ K fnv T) {n : Nat} {it : PI} {b : PSs} {sc : Scope} {env : Env} {q : Pos} {it' : Expr} {b' : List Stmt} {p : Pos} (hn : scStore sc n = true) (hi : chkI sc it it' = true) (hS : SEnv sc env)
    (HB : SndSs prog w A C h₀ T b b' env) : SndS prog w A C h₀ T (.forr n it b) (.For (.Name (nm n) q) it' b' [] p) env := fun loc st Q g ρ s F V R h => by
  dsimp only [execW] at h
  obtain ⟨hx, hk⟩ := scStore_of hS hn
  refine wpAny_For (wpAny_mono (itS W it it' sc env hi hS loc st _ g ρ s F V R h) (fun xv s₁ h₁ => wpAny_mono h₁ (fun itv s₂ h₂ => ?_) fun _ _ x => x.elim) fun _ _ x => x.elim) (fun z => chkI_set hi env z)
  refine h₂.elim fun h' tk g' ρ' st' items src itA S R' I hit gi hq => ?_
  obtain ⟨Iv, i0, iturn, iend⟩ := hq
  refine codeAny_forLoop (fun m s' => ∃ i h2 tk2 g2 ρ2 st2 loc2, m = items.length - i ∧ i ≤ items.length ∧ s' = { s with heap := h2, toks := tk2 } ∧ Step (ownA env) g ρ s.heap g2 ρ2 h2 ∧ Rel C h₀ g2 ρ2 st2 h2 ∧ FR g2 env h2 ∧ Vars C g2 ρ2 env h2 loc2 ∧ ItAt ρ2 items src i itA h2 ∧ g2 itA = Option.none ∧ Iv i loc2 st2)
    ?_ items.length ⟨0, h', tk, g', ρ', st', loc, rfl, Nat.zero_le _, rfl, stepOwn S, R', F.step R S, V.step F R S, I, gi, i0⟩
  rintro m s' ⟨i, h2, tk2, g2, ρ2, st2, loc2, rfl, hle, rfl, S2, R2, F2, V2, I2, gi2, hI⟩
  have hio : itA ∉ ownA env := I2.own F2
  by_cases hlt : i < items.length
  · have hget : items[i]? = some items[i] := List.getElem?_eq_getElem hlt
    obtain ⟨still, hb⟩ := iturn i items[i] loc2 st2 hI hget
    refine nextS (s := { s with heap := h2, toks := tk2 }) W.okA I2 R2 still (fun d v h1 tk1 hd hv I1 hs => ?_) (fun h1 hnn he => by rw [hget] at hnn; cases hnn)
    rw [hget] at hd; cases hd
    have hib : ∀ b o, b ≠ itA → h2.get? b = some o → h1.get? b = some o := fun b o hb e => (hs.2 b hb).trans e
    have R1 : Rel C h₀ g2 ρ2 st2 h1 := R2.off hib gi2 (I2.off R2)
    have F1 : FR g2 env h1 := F2.keepBut hio hib
    have V1 : Vars C g2 ρ2 env h1 loc2 := V2.keepBut hio hib
    have S1 : Step (ownA env) g ρ s.heap g2 ρ2 h1 := S2.iter hit hib
    refine wpAny_assign_Name (storeVar (s := { s with heap := h1, toks := tk1 }) hx hk F1 V1 R1 hv fun h3 tk3 S3 R3 F3 V3 => ?_)
    have I3 : ItAt ρ2 items src (i + 1) itA h3 := I1.step R1 hio S3
    refine wp_false (wpAny_mono (HB _ st2 _ g2 ρ2 { s with heap := h3, toks := tk3 } F3 V3 R3 hb) (fun f s4 h4 => ?_) fun _ _ x => x)
    refine h4.elim (fun h5 tk5 g5 ρ5 st5 loc5 S5 R5 F5 V5 hq => ?_) fun h5 tk5 g5 ρ5 st5 loc5 v5 d5 S5 R5 F5 V5 hv5 hq => ?_
    · refine ⟨items.length - (i + 1), by omega, i + 1, h5, tk5, g5, ρ5, st5, loc5, rfl, by omega, rfl, (S1.trans S3).trans S5, R5, F5, V5, I3.step R3 hio S5, ?_, hq⟩
      obtain ⟨_, _, ho, _⟩ := I3.obj
      exact S5.gkeep gi2 ho
    · exact ⟨h5, tk5, g5, ρ5, st5, loc5, rfl, (S1.trans S3).trans S5, R5, F5, V5, .inr ⟨v5, d5, rfl, hv5, hq⟩⟩
  · have hi : i = items.length := by omega
    subst hi
    obtain ⟨still, hq⟩ := iend loc2 st2 hI
    refine nextS (s := { s with heap := h2, toks := tk2 }) W.okA I2 R2 still (fun d v h1 tk1 hd hv I1 hs => by simp at hd) (fun h1 _ he => wpAny_execs_nil ?_)
    exact ⟨h1, tk2, g2, ρ2, st2, loc2, rfl, S2.iter hit he, R2.off he gi2 (I2.off R2), F2.keepBut hio he, V2.keepBut hio he, .inl ⟨rfl, hq⟩⟩

theorem whileS (W : Wd prog w A C h₀ K fnv T) {c : PE} {b : PSs} {sc : Scope} {env : Env} {c' : Expr} {b' : List Stmt} {p : Pos} (hc : chkE sc c c' = true) (hS : SEnv sc env)
    (HB : SndSs prog w A C h₀ T b b' env) : SndS prog w A C h₀ T (.whl c b) (.While c' b' [] p) env := fun loc st Q g ρ s F V R h => by
  dsimp only [execW] at h
  obtain ⟨Iv, n, i0, turn⟩ := h
  refine wpAny_While (codeAny_whileLoop (fun m s' => ∃ h2 tk2 g2 ρ2 st2 loc2, s' = { s with heap := h2, toks := tk2 } ∧ Step (ownA env) g ρ s.heap g2 ρ2 h2 ∧ Rel C h₀ g2 ρ2 st2 h2 ∧ FR g2 env h2 ∧ Vars C g2 ρ2 env h2 loc2 ∧ Iv m loc2 st2)
    ?_ n ⟨s.heap, s.toks, g, ρ, st, loc, rfl, Step.refl _ _ _ _, R, F, V, i0⟩)
  rintro m s' ⟨h2, tk2, g2, ρ2, st2, loc2, rfl, S2, R2, F2, V2, hI⟩
  refine wp_false (wpAny_mono (testS W c c' sc env hc hS loc2 st2 _ g2 ρ2 { s with heap := h2, toks := tk2 } F2 V2 R2 (turn m loc2 st2 hI)) (fun ok s3 h3 => ?_) fun _ _ x => x)
  refine h3.elim fun h3' tk3 g3 ρ3 st3 S3 R3 hq => ?_
  have F3 := F2.step R2 S3
  have V3 := V2.step F2 R2 S3
  cases ok with
  | false =>
    simp only [Bool.false_eq_true, if_false] at hq ⊢
    exact wpAny_execs_nil ⟨h3', tk3, g3, ρ3, st3, loc2, rfl, S2.trans (stepOwn S3), R3, F3, V3, .inl ⟨rfl, hq⟩⟩
  | true =>
    simp only [if_true] at hq ⊢
    refine wp_false (wpAny_mono (HB _ st3 _ g3 ρ3 { s with heap := h3', toks := tk3 } F3 V3 R3 hq) (fun f s4 h4 => ?_) fun _ _ x => x)
    refine h4.elim (fun h5 tk5 g5 ρ5 st5 loc5 S5 R5 F5 V5 hq => ?_) fun h5 tk5 g5 ρ5 st5 loc5 v5 d5 S5 R5 F5 V5 hv5 hq => ?_
    · obtain ⟨m', hm', hq⟩ := hq
      exact ⟨m', hm', h5, tk5, g5, ρ5, st5, loc5, rfl, (S2.trans (stepOwn S3)).trans S5, R5, F5, V5, hq⟩
    · exact ⟨h5, tk5, g5, ρ5, st5, loc5, rfl, (S2.trans (stepOwn S3)).trans S5, R5, F5, V5, .inr ⟨v5, d5, rfl, hv5, hq⟩⟩

mutual
theorem execS (W : Wd prog w A C h₀ K fnv T) : ∀ (ps : PS) (x : Stmt) (sc : Scope) (env : Env), chkS sc ps x = true → SEnv sc env → SndS prog w A C h₀ T ps x env
  | .assign n e, x, sc, env, hc, hS => fun loc st Q g ρ s F V R h => by
    obtain ⟨q, e', p, rfl, h1, h2, h3⟩ := invS_assign hc
    dsimp only [execW] at h
    obtain ⟨hx, hk⟩ := scStore_of hS h1
    refine wpAny_Assign_Name (wpAny_mono (evalS W e e' sc env h2 hS loc st _ g ρ s F V R h) (fun v s₁ P₁ => ?_) fun _ _ x => x) ?_
    · refine P₁.elim fun h' tk g' ρ' st' d S R' hv hq => ?_
      exact storeVar (s := { s with heap := h', toks := tk }) hx hk (F.step R S) (V.step F R S) R' hv fun h2 tk2 S2 R2 F2 V2 => ⟨h2, tk2, g', ρ', st', _, rfl, (stepOwn S).trans S2, R2, F2, V2, .inl ⟨rfl, hq⟩⟩
    · by_cases hcomp : isComp e' = true
      · have hkl : env.kindOf (nm n) ≠ some .local := by
          unfold scStore at h1
          simp only [Bool.and_eq_true, decide_eq_true_eq, Bool.or_eq_true, beq_iff_eq] at h1
          rcases h1.2 with z | z
          · exact absurd z (h3 hcomp)
          · rw [hS _ _ (by decide) z]; decide
        have hb : (env.kindOf (nm n) == some .local) = false := by simpa using hkl
        cases e' <;> first | (cases hcomp; done) | skip
        all_goals
          show (pure (env.blockKind == .function && env.kindOf (nm n) == some .local && _ && _) : Sem Bool) = pure false
          rw [hb]; simp
      · exact swaps_plain (by simpa using hcomp)
  | .assignC n e, x, sc, env, hc, hS => by
    obtain ⟨caps, y, it, c, elt, elt', gens, sc', epos, npos, p, rfl, rfl, h1, h2, h3, h4⟩ := invS_assignC hc
    exact assignCS W h1 h2 h3 h4 hS
  | .assignT sw t e, x, sc, env, hc, hS => fun loc st Q g ρ s F V R h => by
    obtain ⟨es, k, q, e', p, rfl, h1, h2, h3⟩ := invS_assignT hc
    dsimp only [execW] at h
    have hsw : swapsWithSole [.Tuple es k q] e' p.line env = pure false := by
      cases e' <;> first | rfl | cases h2
    rcases h3 with ⟨xs, rfl, hn, hw⟩ | ⟨xss, rfl, rfl, hn, he⟩
    · rcases hw with ⟨rfl, hw⟩ | ⟨rfl, hw⟩
      · refine Assign_Tuple_swapped (wpAny_mono (evalS W e e' sc env h1 hS loc st _ g ρ s F V R h) (fun v s₁ P₁ => ?_) fun _ _ x => x) hsw (swap_names hS F.kind hn hw)
        refine P₁.elim fun h' tk g' ρ' st' d S R' hv hq => ?_
        unfold bindT at hq
        cases d with
        | tup ds =>
          simp only [if_true] at hq
          cases hb : bindNames xs.reverse ds.reverse loc with
          | none => rw [hb] at hq; exact hq.elim
          | some loc1 =>
            rw [hb] at hq
            obtain ⟨t, vs, rfl, ht, hs⟩ := hv
            have hlen : (xs.map nm).length = vs.toArray.size := by
              have := bindNames_len hb
              simp only [List.length_reverse] at this
              rw [List.length_map, List.size_toArray, hs.length, this]
            unfold chkNames at hn
            simp only [Bool.and_eq_true] at hn
            rw [hlen]
            refine unpackItems_tuple (s := { s with heap := h', toks := tk }) W.okA.handled (ht.isTup R') fun h2 he2 => ?_
            have k2 := size_keep he2
            have S2 := S.trans (Step.grow k2 [] g' ρ')
            rw [← List.map_reverse]
            refine storeBind (s := { s with heap := h2, toks := tk }) hS (by rw [List.all_reverse]; exact hn.1) binds_names (F.step R S2) (V.step F R S2) (R'.grow k2) hs.reverse hb fun h3 tk3 S3 R3 F3 V3 => ?_
            exact ⟨h3, tk3, g', ρ', st', _, rfl, (stepOwn S2).trans S3, R3, F3, V3, .inl ⟨rfl, hq⟩⟩
        | _ => exact hq.elim
      · refine Assign_Tuple (wpAny_mono (evalS W e e' sc env h1 hS loc st _ g ρ s F V R h) (fun v s₁ P₁ => ?_) fun _ _ x => x) hsw (front_none hS hn hw)
        refine P₁.elim fun h' tk g' ρ' st' d S R' hv hq => ?_
        unfold bindT at hq
        cases d with
        | tup ds =>
          simp only [Bool.false_eq_true, if_false] at hq
          cases hb : bindNames xs ds loc with
          | none => rw [hb] at hq; exact hq.elim
          | some loc1 =>
            rw [hb] at hq
            exact storeTuple (s := { s with heap := h', toks := tk }) W.okA hS hn (F.step R S) (V.step F R S) R' hv hb fun h2 tk2 S2 R2 F2 V2 => ⟨h2, tk2, g', ρ', st', _, rfl, (stepOwn S).trans S2, R2, F2, V2, .inl ⟨rfl, hq⟩⟩
        | _ => exact hq.elim
    · refine Assign_Tuple (wpAny_mono (evalS W e e' sc env h1 hS loc st _ g ρ s F V R h) (fun v s₁ P₁ => ?_) fun _ _ x => x) hsw (nest_none hn he)
      refine P₁.elim fun h' tk g' ρ' st' d S R' hv hq => ?_
      unfold bindT at hq
      cases d with
      | tup ds =>
        dsimp only at hq
        cases hb : bindNest xss ds loc with
        | none => rw [hb] at hq; exact hq.elim
        | some loc1 =>
          rw [hb] at hq
          obtain ⟨t, vs, rfl, ht, hs⟩ := hv
          obtain ⟨a, b⟩ := nest_each (env := env) hn hb
          refine assign_Tuple_tuple (s := { s with heap := h', toks := tk }) W.okA.handled (ht.isTup R') (by rw [a, List.size_toArray, hs.length]) b fun h2 he2 => ?_
          have k2 := size_keep he2
          have S2 := S.trans (Step.grow k2 [] g' ρ')
          exact storeNest (s := { s with heap := h2, toks := tk }) W.okA hS hn (F.step R S2) (V.step F R S2) (R'.grow k2) hs hb fun h3 tk3 S3 R3 F3 V3 => ⟨h3, tk3, g', ρ', st', _, rfl, (stepOwn S2).trans S3, R3, F3, V3, .inl ⟨rfl, hq⟩⟩
      | _ => exact hq.elim
  | .setItem o i v, x, sc, env, hc, hS => fun loc st Q g ρ s F V R h => by
    obtain ⟨o', i', q, v', p, rfl, h1, h2, h3, h4⟩ := invS_setItem hc
    dsimp only [execW] at h
    refine wpAny_Assign_Subscript (wpAny_mono (evalS W v v' sc env h1 hS loc st _ g ρ s F V R h) (fun va s₁ P₁ => ?_) fun _ _ x => x) (swaps_plain h4)
    refine P₁.elim fun ha tka ga ρa sta da Sa Ra hva hqa => ?_
    have Fa := F.step R Sa
    have Va := V.step F R Sa
    refine wpAny_mono (evalS W o o' sc env h2 hS loc sta _ ga ρa { s with heap := ha, toks := tka } Fa Va Ra hqa) (fun vb s₂ P₂ => ?_) fun _ _ x => x
    refine P₂.elim fun hb tkb gb ρb stb db Sb Rb hvb hqb => ?_
    have Fb := Fa.step Ra Sb
    have Vb := Va.step Fa Ra Sb
    refine wpAny_mono (evalS W i i' sc env h3 hS loc stb _ gb ρb { s with heap := hb, toks := tkb } Fb Vb Rb hqb) (fun vc s₃ P₃ => ?_) fun _ _ x => x
    refine P₃.elim fun hc tkc gc ρc stc dc Sc Rc hvc hqc => ?_
    have Fc := Fb.step Rb Sc
    have Vc := Vb.step Fb Rb Sc
    cases db <;> first | (exact hqc.elim) | skip
    rename_i k
    cases dc <;> first | (exact hqc.elim) | skip
    rename_i j
    dsimp only at hqc
    cases hl : stc[k]? with
    | none => rw [hl] at hqc; exact hqc.elim
    | some l =>
      rw [hl] at hqc
      dsimp only at hqc
      obtain ⟨l1000, j0, j1, hq⟩ := hqc
      obtain ⟨x, hx, rfl⟩ := hvb.step Sc
      obtain ⟨t, rfl⟩ := hvc
      obtain ⟨x', us, hx', hp, hu⟩ := Rc.lists k l hl
      rw [hx] at hx'; cases hx'
      have hlen := hu.length
      have hsz : j < us.toArray.size := by rw [List.size_toArray, hlen]; exact j1
      refine setItem_plain (s := { s with heap := hc, toks := tkc }) hp j0 ?_ hsz fun h5 hp5 hs5 => ?_
      · omega
      · have e5 : us.toArray.setIfInBounds j.toNat va = (us.set j.toNat va).toArray := by simp
        rw [e5] at hp5
        obtain ⟨R5, S5⟩ := Rc.turn hs5 hx hp5 (hu.set ((hva.step Sb).step Sc))
        have S6 := ((Sa.trans Sb).trans Sc).trans (S5 [])
        exact ⟨h5, tkc, gc, ρc, _, loc, rfl, stepOwn S6, R5, F.step R S6, V.step F R S6, .inl ⟨rfl, hq⟩⟩
  | .append o v, x, sc, env, hc, hS => fun loc st Q g ρ s F V R h => by
    obtain ⟨o', apos, v', pos, p, rfl, h1, h2, h3, h4, h5⟩ := invS_append hc
    dsimp only [execW] at h
    have hbase : attributeBase o' "append" env (eval o' env) = eval o' env := by
      cases o' with
      | Call => cases h3
      | _ => rfl
    have hstar : (starEach [v'] env).any (·.1) = false := by rw [starEach_plain h5]; rfl
    have hint : interactive env = false := by unfold interactive; rw [F.kind]; rfl
    refine wpAny_Expr (methCall (x := nm 0) (q := pos) (args := [v']) hbase hstar (by simp) h4 ?_) hint rfl
    refine wpAny_mono (evalS W o o' sc env h1 hS loc st _ g ρ s F V R h) (fun va s₁ P₁ pl => ?_) fun _ _ x => x
    refine P₁.elim fun ha tka ga ρa sta da Sa Ra hva hqa => ?_
    have Fa := F.step R Sa
    have Va := V.step F R Sa
    cases da <;> first | (exact hqa.elim) | skip
    rename_i k
    dsimp only at hqa
    obtain ⟨x, hx, rfl⟩ := hva
    obtain ⟨its, nn, hp⟩ := Ra.at (List.mem_of_getElem? hx)
    refine getMethod_list_append hp rfl rfl (callWith_method1 (wpAny_mono (evalsS W (.cons v .nil) [v'] sc env (by simp [chkEs, h2, h5]) hS pos loc sta (fun ds st => match ds with | [d] => appendW (.lst k) d st fun st => Q Option.none loc st | _ => False) ga ρa { s with heap := ha, toks := tka } Fa Va Ra ?_) (fun vs s₂ P₂ => ?_) fun _ _ x => x) (starEach_plain h5) rfl)
    · dsimp only [evalsW]
      exact hqa
    · refine P₂.elim fun hb tkb gb ρb stb ds Sb Rb hvb hqb => ?_
      match ds, hvb, hqb with
      | [], _, hqb => exact hqb.elim
      | _ :: _ :: _, _, hqb => exact hqb.elim
      | [d], hvb, hqb =>
      obtain ⟨vd, us, rfl, hvd, rfl⟩ := hvb
      obtain ⟨x', e', _, hw⟩ := appendS (prog := prog) (w := w) (A := A) (E := NoE) (s := { s with heap := hb, toks := tkb })
        (P := fun v s5 => match v with | .ref _ => False | _ => PostF C h₀ g ρ s env Q .next s5) hqb Rb (va := .ref x) ⟨x, by obtain ⟨r, e⟩ := Sb.pre; rw [e]; exact getElem?_prefix hx, rfl⟩ hvd
        (fun h5 st5 R5 S5 hq5 => ⟨h5, tkb, gb, ρb, st5, loc, rfl, stepOwn ((Sa.trans Sb).trans (S5 [])), R5, F.step R ((Sa.trans Sb).trans (S5 [])), V.step F R ((Sa.trans Sb).trans (S5 [])), .inl ⟨rfl, hq5⟩⟩)
      cases e'
      exact hw
  | .ite c a b, x, sc, env, hc, hS => fun loc st Q g ρ s F V R h => by
    obtain ⟨c', a', b', p, rfl, h1, h2, h3⟩ := invS_ite hc
    dsimp only [execW] at h
    refine wpAny_If (wpAny_mono (testS W c c' sc env h1 hS loc st _ g ρ s F V R h) (fun ok s₁ P₁ => ?_) fun _ _ x => x)
    refine P₁.elim fun h' tk g' ρ' st' S R' hq => ?_
    cases ok with
    | true =>
      simp only [if_true] at hq ⊢
      exact wpAny_mono (execsS W a a' sc env h2 hS loc st' Q g' ρ' { s with heap := h', toks := tk } (F.step R S) (V.step F R S) R' hq) (fun f s2 P => P.after S none_own) fun _ _ x => x
    | false =>
      simp only [Bool.false_eq_true, if_false] at hq ⊢
      exact wpAny_mono (execsS W b b' sc env h3 hS loc st' Q g' ρ' { s with heap := h', toks := tk } (F.step R S) (V.step F R S) R' hq) (fun f s2 P => P.after S none_own) fun _ _ x => x
  | .whl c b, x, sc, env, hc, hS => by
    obtain ⟨c', b', p, rfl, h1, h2⟩ := invS_whl hc
    exact whileS W h1 hS (execsS W b b' sc env h2 hS)
  | .forr n it b, x, sc, env, hc, hS => by
    obtain ⟨q, it', b', p, rfl, h1, h2, h3⟩ := invS_forr hc
    exact forS W h1 h2 hS (execsS W b b' sc env h3 hS)
  | .ret e, x, sc, env, hc, hS => fun loc st Q g ρ s F V R h => by
    obtain ⟨e', p, rfl, h1⟩ := invS_ret hc
    dsimp only [execW] at h
    refine wpAny_Return_some (wpAny_mono (evalS W e e' sc env h1 hS loc st _ g ρ s F V R h) (fun v s₁ P₁ => ?_) fun _ _ x => x)
    refine P₁.elim fun h' tk g' ρ' st' d S R' hv hq => ?_
    exact ⟨h', tk, g', ρ', st', loc, rfl, stepOwn S, R', F.step R S, V.step F R S, .inr ⟨v, d, rfl, hv, hq⟩⟩
theorem execsS (W : Wd prog w A C h₀ K fnv T) : ∀ (ps : PSs) (xs : List Stmt) (sc : Scope) (env : Env), chkSs sc ps xs = true → SEnv sc env → SndSs prog w A C h₀ T ps xs env
  | .nil, xs, sc, env, hc, hS => fun loc st Q g ρ s F V R h => by
    rw [invS_nil hc]
    dsimp only [execsW] at h
    exact wpAny_execs_nil ⟨s.heap, s.toks, g, ρ, st, loc, rfl, Step.refl _ _ _ _, R, F, V, .inl ⟨rfl, h⟩⟩
  | .cons x r, xs, sc, env, hc, hS => fun loc st Q g ρ s F V R h => by
    obtain ⟨x', r', rfl, h1, h2⟩ := invS_cons hc
    dsimp only [execsW] at h
    refine wpAny_execs_cons (wpAny_mono (execS W x x' sc env h1 hS loc st _ g ρ s F V R h) (fun f s₁ P₁ => ?_) fun _ _ x => x)
    refine P₁.elim (fun h' tk g' ρ' st' loc' S R' F' V' hq => ?_) fun h' tk g' ρ' st' loc' v d S R' F' V' hv hq => ?_
    · exact wpAny_mono (execsS W r r' sc env h2 hS loc' st' Q g' ρ' { s with heap := h', toks := tk } F' V' R' hq) (fun f s2 P => P.after S fun _ hb => hb) fun _ _ x => x
    · exact ⟨h', tk, g', ρ', st', loc', rfl, S, R', F', V', .inr ⟨v, d, rfl, hv, hq⟩⟩
end
end
end Mine
set_option maxRecDepth 100000
namespace Mine
open PySem
noncomputable def a_is_on : List Nat := [38, 28]
noncomputable def b_doubled : PSs := (.cons (.ite (.or (.cons (.cmp (.var 28) [.Is] (.cons .none .nil)) (.cons (.cmp (.sub (.var 28) (.int 1)) [.Eq] (.cons (.int 0) .nil)) .nil))) (.cons (.ret .none) .nil) .nil) (.cons (.assignT false (.names [54, 55]) (.var 28)) (.cons (.assign 40 (.bin .Mult (.bin .Mult (.bin .Mult (.int 3) (.var 54)) (.var 54)) (.call 27 (.cons (.bin .Mult (.int 2) (.var 55)) (.cons (.bin .Sub (.attr (.var 38) 0) (.int 2)) (.cons (.attr (.var 38) 0) .nil)))))) (.cons (.assign 8 (.bin .Mod (.bin .Sub (.bin .Mult (.var 40) (.var 40)) (.bin .Mult (.int 2) (.var 54))) (.attr (.var 38) 0))) (.cons (.ret (.tup (.cons (.var 8) (.cons (.bin .Mod (.bin .Sub (.bin .Mult (.var 40) (.bin .Sub (.var 54) (.var 8))) (.var 55)) (.attr (.var 38) 0)) .nil)))) .nil)))))
noncomputable def a_doubled : List Nat := [38, 28]
noncomputable def b_added : PSs := (.cons (.ite (.or (.cons (.cmp (.var 23) [.Is] (.cons .none .nil)) (.cons (.cmp (.var 24) [.Is] (.cons .none .nil)) .nil))) (.cons (.ret (.ite (.cmp (.var 23) [.Is] (.cons .none .nil)) (.var 24) (.var 23))) .nil) .nil) (.cons (.ite (.cmp (.sub (.var 23) (.int 0)) [.Eq] (.cons (.sub (.var 24) (.int 0)) .nil)) (.cons (.ret (.ite (.cmp (.sub (.var 23) (.int 1)) [.Eq] (.cons (.sub (.var 24) (.int 1)) .nil)) (.meth 2 (.var 38) (.cons (.var 23) .nil)) .none)) .nil) .nil) (.cons (.assign 40 (.bin .Mult (.bin .Sub (.sub (.var 24) (.int 1)) (.sub (.var 23) (.int 1))) (.call 27 (.cons (.bin .Sub (.sub (.var 24) (.int 0)) (.sub (.var 23) (.int 0))) (.cons (.bin .Sub (.attr (.var 38) 0) (.int 2)) (.cons (.attr (.var 38) 0) .nil)))))) (.cons (.assign 8 (.bin .Mod (.bin .Sub (.bin .Sub (.bin .Mult (.var 40) (.var 40)) (.sub (.var 23) (.int 0))) (.sub (.var 24) (.int 0))) (.attr (.var 38) 0))) (.cons (.ret (.tup (.cons (.var 8) (.cons (.bin .Mod (.bin .Sub (.bin .Mult (.var 40) (.bin .Sub (.sub (.var 23) (.int 0)) (.var 8))) (.sub (.var 23) (.int 1))) (.attr (.var 38) 0)) .nil)))) .nil)))))
noncomputable def a_added : List Nat := [38, 23, 24]
noncomputable def b_times : PSs := (.cons (.ite (.cmp (.var 28) [.Is] (.cons .none .nil)) (.cons (.ret .none) .nil) .nil) (.cons (.assign 22 (.bin .Mod (.var 22) (.attr (.var 38) 3))) (.cons (.assignT true (.names [46, 13]) (.tup (.cons (.tup (.cons (.int 1) (.cons (.int 1) (.cons (.int 0) .nil)))) (.cons (.tup (.cons (.sub (.var 28) (.int 0)) (.cons (.sub (.var 28) (.int 1)) (.cons (.int 1) .nil)))) .nil)))) (.cons (.whl (.cmp (.var 22) [.Gt] (.cons (.int 0) .nil)) (.cons (.ite (.cmp (.bin .BitAnd (.var 22) (.int 1)) [.Eq] (.cons (.int 1) .nil)) (.cons (.assign 46 (.call 7 (.cons (.var 46) (.cons (.var 13) (.cons (.attr (.var 38) 0) .nil))))) .nil) .nil) (.cons (.assign 13 (.call 6 (.cons (.var 13) (.cons (.attr (.var 38) 0) .nil)))) (.cons (.assign 22 (.bin .RShift (.var 22) (.int 1))) .nil)))) (.cons (.ret (.call 8 (.cons (.var 46) (.cons (.attr (.var 38) 0) .nil)))) .nil)))))
noncomputable def a_times : List Nat := [38, 22, 28]
noncomputable def b_lifted : PSs := (.cons (.ite (.not (.cmp (.int 0) [.LtE, .Lt] (.cons (.var 54) (.cons (.attr (.var 38) 0) .nil)))) (.cons (.ret .none) .nil) .nil) (.cons (.assign 42 (.bin .Mod (.bin .Add (.bin .Mult (.bin .Mult (.var 54) (.var 54)) (.var 54)) (.attr (.var 38) 1)) (.attr (.var 38) 0))) (.cons (.assign 55 (.call 27 (.cons (.var 42) (.cons (.bin .FloorDiv (.bin .Add (.attr (.var 38) 0) (.int 1)) (.int 4)) (.cons (.attr (.var 38) 0) .nil))))) (.cons (.ite (.cmp (.bin .Mod (.bin .Mult (.var 55) (.var 55)) (.attr (.var 38) 0)) [.NotEq] (.cons (.var 42) .nil)) (.cons (.ret .none) .nil) .nil) (.cons (.ite (.cmp (.bin .Mod (.var 55) (.int 2)) [.NotEq] (.cons (.var 26) .nil)) (.cons (.assign 55 (.bin .Sub (.attr (.var 38) 0) (.var 55))) .nil) .nil) (.cons (.ret (.ite (.cmp (.var 55) [.Lt] (.cons (.attr (.var 38) 0) .nil)) (.tup (.cons (.var 54) (.cons (.var 55) .nil))) .none)) .nil))))))
noncomputable def a_lifted : List Nat := [38, 54, 26]
noncomputable def b_wide_doubled : PSs := (.cons (.assignT false (.names [54, 55, 56]) (.var 28)) (.cons (.ite (.or (.cons (.cmp (.var 55) [.Eq] (.cons (.int 0) .nil)) (.cons (.cmp (.var 56) [.Eq] (.cons (.int 0) .nil)) .nil))) (.cons (.ret (.tup (.cons (.int 1) (.cons (.int 1) (.cons (.int 0) .nil))))) .nil) .nil) (.cons (.assign 42 (.bin .Mod (.bin .Mult (.var 55) (.var 55)) (.var 25))) (.cons (.assign 20 (.bin .Mod (.bin .Mult (.bin .Mult (.int 4) (.var 54)) (.var 42)) (.var 25))) (.cons (.assign 40 (.bin .Mod (.bin .Mult (.bin .Mult (.int 3) (.var 54)) (.var 54)) (.var 25))) (.cons (.assign 8 (.bin .Mod (.bin .Sub (.bin .Mult (.var 40) (.var 40)) (.bin .Mult (.int 2) (.var 20))) (.var 25))) (.cons (.ret (.tup (.cons (.var 8) (.cons (.bin .Mod (.bin .Sub (.bin .Mult (.var 40) (.bin .Sub (.var 20) (.var 8))) (.bin .Mult (.bin .Mult (.int 8) (.var 42)) (.var 42))) (.var 25)) (.cons (.bin .Mod (.bin .Mult (.bin .Mult (.int 2) (.var 55)) (.var 56)) (.var 25)) .nil))))) .nil)))))))
noncomputable def a_wide_doubled : List Nat := [28, 25]
noncomputable def b_wide_added : PSs := (.cons (.ite (.or (.cons (.cmp (.sub (.var 23) (.int 2)) [.Eq] (.cons (.int 0) .nil)) (.cons (.cmp (.sub (.var 24) (.int 2)) [.Eq] (.cons (.int 0) .nil)) .nil))) (.cons (.ret (.ite (.cmp (.sub (.var 23) (.int 2)) [.Eq] (.cons (.int 0) .nil)) (.var 24) (.var 23))) .nil) .nil) (.cons (.assignT false (.names [54, 55, 56]) (.var 23)) (.cons (.assignT false (.names [48, 49, 50]) (.var 24)) (.cons (.assignT true (.names [18, 32]) (.tup (.cons (.bin .Mod (.bin .Mult (.bin .Mult (.var 54) (.var 50)) (.var 50)) (.var 25)) (.cons (.bin .Mod (.bin .Mult (.bin .Mult (.var 48) (.var 56)) (.var 56)) (.var 25)) .nil)))) (.cons (.assignT true (.names [19, 14]) (.tup (.cons (.bin .Mod (.bin .Mult (.bin .Mult (.bin .Mult (.var 55) (.var 50)) (.var 50)) (.var 50)) (.var 25)) (.cons (.bin .Mod (.bin .Mult (.bin .Mult (.bin .Mult (.var 49) (.var 56)) (.var 56)) (.var 56)) (.var 25)) .nil)))) (.cons (.ite (.cmp (.var 18) [.Eq] (.cons (.var 32) .nil)) (.cons (.ret (.ite (.cmp (.var 19) [.Eq] (.cons (.var 14) .nil)) (.call 6 (.cons (.var 23) (.cons (.var 25) .nil))) (.tup (.cons (.int 1) (.cons (.int 1) (.cons (.int 0) .nil)))))) .nil) .nil) (.cons (.assignT true (.names [43, 33]) (.tup (.cons (.bin .Sub (.var 32) (.var 18)) (.cons (.bin .Sub (.var 14) (.var 19)) .nil)))) (.cons (.assign 42 (.bin .Mod (.bin .Mult (.var 43) (.var 43)) (.var 25))) (.cons (.assignT true (.names [5, 20]) (.tup (.cons (.bin .Mod (.bin .Mult (.var 43) (.var 42)) (.var 25)) (.cons (.bin .Mod (.bin .Mult (.var 18) (.var 42)) (.var 25)) .nil)))) (.cons (.assign 8 (.bin .Mod (.bin .Sub (.bin .Sub (.bin .Mult (.var 33) (.var 33)) (.var 5)) (.bin .Mult (.int 2) (.var 20))) (.var 25))) (.cons (.ret (.tup (.cons (.var 8) (.cons (.bin .Mod (.bin .Sub (.bin .Mult (.var 33) (.bin .Sub (.var 20) (.var 8))) (.bin .Mult (.var 19) (.var 5))) (.var 25)) (.cons (.bin .Mod (.bin .Mult (.bin .Mult (.var 43) (.var 56)) (.var 50)) (.var 25)) .nil))))) .nil)))))))))))
noncomputable def a_wide_added : List Nat := [23, 24, 25]
noncomputable def b_narrowed : PSs := (.cons (.assignT false (.names [54, 55, 56]) (.var 28)) (.cons (.ite (.cmp (.var 56) [.Eq] (.cons (.int 0) .nil)) (.cons (.ret .none) .nil) .nil) (.cons (.assign 2 (.call 27 (.cons (.var 56) (.cons (.bin .Sub (.var 25) (.int 2)) (.cons (.var 25) .nil))))) (.cons (.assign 42 (.bin .Mod (.bin .Mult (.var 2) (.var 2)) (.var 25))) (.cons (.ret (.tup (.cons (.bin .Mod (.bin .Mult (.var 54) (.var 42)) (.var 25)) (.cons (.bin .Mod (.bin .Mult (.bin .Mult (.var 55) (.var 42)) (.var 2)) (.var 25)) .nil)))) .nil)))))
noncomputable def a_narrowed : List Nat := [28, 25]
noncomputable def b_signature : PSs := (.cons (.assign 28 (.meth 4 (.var 6) (.cons (.var 17) (.cons (.attr (.var 6) 2) .nil)))) (.cons (.ite (.or (.cons (.cmp (.var 28) [.Is] (.cons .none .nil)) (.cons (.not (.cmp (.int 0) [.Lt, .Lt] (.cons (.var 37) (.cons (.attr (.var 6) 3) .nil)))) .nil))) (.cons (.ret .none) .nil) .nil) (.cons (.assignT true (.names [31, 26]) (.tup (.cons (.sub (.var 28) (.int 0)) (.cons (.bin .Mod (.sub (.var 28) (.int 1)) (.int 2)) .nil)))) (.cons (.assign 35 (.bin .Mod (.bin .Mult (.bin .Add (.var 53) (.bin .Mult (.var 31) (.var 37))) (.call 27 (.cons (.var 17) (.cons (.bin .Sub (.attr (.var 6) 3) (.int 2)) (.cons (.attr (.var 6) 3) .nil))))) (.attr (.var 6) 3))) (.cons (.ite (.or (.cons (.not (.cmp (.int 0) [.Lt, .Lt] (.cons (.var 31) (.cons (.attr (.var 6) 3) .nil)))) (.cons (.cmp (.var 35) [.Eq] (.cons (.int 0) .nil)) .nil))) (.cons (.ret .none) .nil) .nil) (.cons (.ite (.cmp (.var 35) [.Gt] (.cons (.bin .FloorDiv (.attr (.var 6) 3) (.int 2)) .nil)) (.cons (.assignT true (.names [35, 26]) (.tup (.cons (.bin .Sub (.attr (.var 6) 3) (.var 35)) (.cons (.bin .Sub (.int 1) (.var 26)) .nil)))) .nil) .nil) (.cons (.ret (.tup (.cons (.var 26) (.cons (.var 31) (.cons (.var 35) .nil))))) .nil)))))))
noncomputable def a_signature : List Nat := [6, 37, 53, 17]
noncomputable def b_recovered : PSs := (.cons (.ite (.or (.cons (.cmp (.var 26) [.NotIn] (.cons (.tup (.cons (.int 0) (.cons (.int 1) .nil))) .nil)) (.cons (.not (.cmp (.int 0) [.Lt, .Lt] (.cons (.var 31) (.cons (.attr (.var 6) 3) .nil)))) (.cons (.not (.cmp (.int 0) [.Lt, .Lt] (.cons (.var 35) (.cons (.attr (.var 6) 3) .nil)))) .nil)))) (.cons (.ret .none) .nil) .nil) (.cons (.assign 28 (.meth 5 (.var 6) (.cons (.var 31) (.cons (.var 26) .nil)))) (.cons (.ite (.cmp (.var 28) [.Is] (.cons .none .nil)) (.cons (.ret .none) .nil) .nil) (.cons (.assign 2 (.call 27 (.cons (.var 31) (.cons (.bin .Sub (.attr (.var 6) 3) (.int 2)) (.cons (.attr (.var 6) 3) .nil))))) (.cons (.ret (.meth 3 (.var 6) (.cons (.meth 4 (.var 6) (.cons (.bin .Mult (.var 35) (.var 2)) (.cons (.var 28) .nil))) (.cons (.meth 4 (.var 6) (.cons (.bin .Mult (.neg (.var 53)) (.var 2)) (.cons (.attr (.var 6) 2) .nil))) .nil)))) .nil)))))
noncomputable def a_recovered : List Nat := [6, 53, 26, 31, 35]
noncomputable def b_secp256k1 : PSs := (.cons (.assign 54 (.int 55066263022277343669578718895168534326250603453777594175500187360389116729240)) (.cons (.assign 55 (.int 32670510020758816978083085130507043184471273380659243275938904335757337482424)) (.cons (.assign 21 (.int 115792089237316195423570985008687907852837564279074904382605163141518161494337)) (.cons (.ret (.call 0 (.cons (.bin .Sub (.bin .Sub (.bin .LShift (.int 1) (.int 256)) (.bin .LShift (.int 1) (.int 32))) (.int 977)) (.cons (.int 7) (.cons (.tup (.cons (.var 54) (.cons (.var 55) .nil))) (.cons (.var 21) .nil)))))) .nil))))
noncomputable def a_secp256k1 : List Nat := []
noncomputable def b_small_curve : PSs := (.cons (.ret (.call 0 (.cons (.int 67) (.cons (.int 7) (.cons (.tup (.cons (.int 2) (.cons (.int 22) .nil))) (.cons (.int 79) .nil)))))) .nil)
noncomputable def a_small_curve : List Nat := []
noncomputable def b_law_draw : PSs := (.cons (.assignT true (.names [4, 0]) (.tup (.cons (.sub (.var 52) (.int 0)) (.cons (.sub (.var 52) (.int 1)) .nil)))) (.cons (.assign 16 (.cmp (.var 0) [.Lt] (.cons (.call 28 (.cons (.var 4) .nil)) .nil))) (.cons (.assign 3 (.ite (.var 16) (.sub (.var 4) (.var 0)) (.int 0))) (.cons (.setItem (.var 52) (.int 1) (.bin .Add (.var 0) (.int 1))) (.cons (.setItem (.var 52) (.int 2) (.bin .Mod (.bin .Add (.bin .Add (.bin .Mult (.sub (.var 52) (.int 2)) (.int 75)) (.bin .Mod (.var 3) (.int 1009))) (.int 74)) (.int 65537))) (.cons (.ret (.bin .Mod (.ite (.var 16) (.var 3) (.sub (.var 52) (.int 2))) (.var 39))) .nil))))))
noncomputable def a_law_draw : List Nat := [52, 39]
noncomputable def b_law_number : PSs := (.cons (.assign 9 (.call 13 (.cons (.var 52) (.cons (.int 1000) .nil)))) (.cons (.assign 41 (.list (.cons (.var 9) (.cons (.bin .Sub (.var 21) (.int 1)) (.cons (.var 21) (.cons (.bin .Add (.var 21) (.var 9)) (.cons (.neg (.var 9)) (.cons (.bin .Add (.bin .Pow (.int 2) (.int 130)) (.var 9)) (.cons (.bin .Sub (.neg (.bin .Pow (.int 2) (.int 90))) (.var 9)) (.cons (.int 0) .nil)))))))))) (.cons (.ret (.sub (.var 41) (.call 13 (.cons (.var 52) (.cons (.call 28 (.cons (.var 41) .nil)) .nil))))) .nil)))
noncomputable def a_law_number : List Nat := [52, 21]
noncomputable def b_law_word : PSs := (.cons (.assign 9 (.call 13 (.cons (.var 52) (.cons (.int 1000) .nil)))) (.cons (.assign 41 (.list (.cons (.var 9) (.cons (.int 0) (.cons (.var 21) (.cons (.bin .Mult (.var 21) (.var 9)) (.cons (.bin .Sub (.bin .Pow (.int 2) (.int 256)) (.int 1)) (.cons (.bin .Add (.bin .Pow (.int 2) (.int 255)) (.var 9)) (.cons (.bin .Sub (.bin .Pow (.int 2) (.int 256)) (.var 21)) .nil))))))))) (.cons (.ret (.sub (.var 41) (.call 13 (.cons (.var 52) (.cons (.call 28 (.cons (.var 41) .nil)) .nil))))) .nil)))
noncomputable def a_law_word : List Nat := [52, 21]
noncomputable def b_law_inverses : PSs := (.cons (.assign 11 (.list (.cons (.int 0) (.cons (.int 1) .nil)))) (.cons (.forr 9 (.rng2 (.int 2) (.var 30)) (.cons (.append (.var 11) (.bin .Mod (.bin .Mult (.bin .Sub (.var 30) (.bin .FloorDiv (.var 30) (.var 9))) (.sub (.var 11) (.bin .Mod (.var 30) (.var 9)))) (.var 30))) .nil)) (.cons (.ret (.var 11)) .nil)))
noncomputable def a_law_inverses : List Nat := [30]
noncomputable def b_law_listed : PSs := (.cons (.assign 34 (.comp1 [] 42 (.rng1 (.var 25)) .nil (.list .nil))) (.cons (.forr 55 (.rng1 (.var 25)) (.cons (.append (.sub (.var 34) (.bin .Mod (.bin .Mult (.var 55) (.var 55)) (.var 25))) (.var 55)) .nil)) (.cons (.ret (.comp2 [1, 25, 34] 54 (.rng1 (.var 25)) 55 (.sub (.var 34) (.bin .Mod (.bin .Add (.bin .Mult (.bin .Mult (.var 54) (.var 54)) (.var 54)) (.var 1)) (.var 25))) (.tup (.cons (.var 54) (.cons (.var 55) .nil))))) .nil)))
noncomputable def a_law_listed : List Nat := [25, 1]
noncomputable def b_law_sum : PSs := (.cons (.ite (.or (.cons (.cmp (.var 23) [.Is] (.cons .none .nil)) (.cons (.cmp (.var 24) [.Is] (.cons .none .nil)) .nil))) (.cons (.ret (.ite (.cmp (.var 23) [.Is] (.cons .none .nil)) (.var 24) (.var 23))) .nil) .nil) (.cons (.assignT false (.nest [[54, 55], [48, 49]]) (.tup (.cons (.var 23) (.cons (.var 24) .nil)))) (.cons (.ite (.and (.cons (.cmp (.var 54) [.Eq] (.cons (.var 48) .nil)) (.cons (.cmp (.bin .Mod (.bin .Add (.var 55) (.var 49)) (.var 25)) [.Eq] (.cons (.int 0) .nil)) .nil))) (.cons (.ret .none) .nil) .nil) (.cons (.assign 40 (.ite (.cmp (.var 54) [.Eq] (.cons (.var 48) .nil)) (.bin .Mult (.bin .Mult (.bin .Mult (.int 3) (.var 54)) (.var 54)) (.sub (.var 15) (.bin .Mod (.bin .Mult (.int 2) (.var 55)) (.var 25)))) (.bin .Mult (.bin .Sub (.var 49) (.var 55)) (.sub (.var 15) (.bin .Mod (.bin .Sub (.var 48) (.var 54)) (.var 25)))))) (.cons (.assign 8 (.bin .Mod (.bin .Sub (.bin .Sub (.bin .Mult (.var 40) (.var 40)) (.var 54)) (.var 48)) (.var 25))) (.cons (.ret (.tup (.cons (.var 8) (.cons (.bin .Mod (.bin .Sub (.bin .Mult (.var 40) (.bin .Sub (.var 54) (.var 8))) (.var 55)) (.var 25)) .nil)))) .nil))))))
noncomputable def a_law_sum : List Nat := [25, 15, 23, 24]
noncomputable def b_law_multiples : PSs := (.cons (.assignT true (.names [15, 44]) (.tup (.cons (.call 16 (.cons (.var 25) .nil)) (.cons (.list (.cons .none .nil)) .nil)))) (.cons (.forr 47 (.rng1 (.bin .Sub (.var 21) (.int 1))) (.cons (.append (.var 44) (.call 18 (.cons (.var 25) (.cons (.var 15) (.cons (.sub (.var 44) (.neg (.int 1))) (.cons (.var 10) .nil)))))) .nil)) (.cons (.ret (.var 44)) .nil)))
noncomputable def a_law_multiples : List Nat := [25, 21, 10]
noncomputable def b_law_sums_right : PSs := (.cons (.assign 21 (.call 28 (.cons (.var 44) .nil))) (.cons (.assignT true (.names [23, 24]) (.tup (.cons (.call 13 (.cons (.var 52) (.cons (.var 21) .nil))) (.cons (.call 13 (.cons (.var 52) (.cons (.var 21) .nil))) .nil)))) (.cons (.assign 24 (.sub (.list (.cons (.var 24) (.cons (.var 23) (.cons (.bin .Mod (.bin .Sub (.var 21) (.var 23)) (.var 21)) .nil)))) (.call 13 (.cons (.var 52) (.cons (.int 3) .nil))))) (.cons (.ite (.cmp (.meth 3 (.var 6) (.cons (.sub (.var 44) (.var 23)) (.cons (.sub (.var 44) (.var 24)) .nil))) [.NotEq] (.cons (.sub (.var 44) (.bin .Mod (.bin .Add (.var 23) (.var 24)) (.var 21))) .nil)) (.cons (.ret (.bool false)) .nil) .nil) (.cons (.ite (.cmp (.meth 2 (.var 6) (.cons (.sub (.var 44) (.var 23)) .nil)) [.NotEq] (.cons (.sub (.var 44) (.bin .Mod (.bin .Mult (.int 2) (.var 23)) (.var 21))) .nil)) (.cons (.ret (.bool false)) .nil) .nil) (.cons (.assign 22 (.call 14 (.cons (.var 52) (.cons (.var 21) .nil)))) (.cons (.ret (.cmp (.meth 4 (.var 6) (.cons (.var 22) (.cons (.sub (.var 44) (.var 23)) .nil))) [.Eq] (.cons (.sub (.var 44) (.bin .Mod (.bin .Mult (.var 22) (.var 23)) (.var 21))) .nil))) .nil)))))))
noncomputable def a_law_sums_right : List Nat := [52, 6, 44]
noncomputable def b_law_places_right : PSs := (.cons (.assignT false (.names [54, 55, 26]) (.tup (.cons (.bin .Sub (.call 13 (.cons (.var 52) (.cons (.bin .Add (.attr (.var 6) 0) (.int 3)) .nil))) (.int 1)) (.cons (.bin .Sub (.call 13 (.cons (.var 52) (.cons (.bin .Add (.attr (.var 6) 0) (.int 3)) .nil))) (.int 1)) (.cons (.call 13 (.cons (.var 52) (.cons (.int 2) .nil))) .nil))))) (.cons (.ite (.cmp (.call 13 (.cons (.var 52) (.cons (.int 2) .nil))) [.Eq] (.cons (.int 1) .nil)) (.cons (.assignT false (.names [54, 55]) (.sub (.var 29) (.bin .Mod (.bin .Add (.var 54) (.var 55)) (.call 28 (.cons (.var 29) .nil))))) .nil) .nil) (.cons (.assignC 7 (.comp1 [26, 54] 28 (.seq (.var 29)) (.cons (.and (.cons (.cmp (.sub (.var 28) (.int 0)) [.Eq] (.cons (.var 54) .nil)) (.cons (.cmp (.bin .Mod (.sub (.var 28) (.int 1)) (.int 2)) [.Eq] (.cons (.var 26) .nil)) .nil))) .nil) (.var 28))) (.cons (.ite (.cmp (.meth 5 (.var 6) (.cons (.var 54) (.cons (.var 26) .nil))) [.NotEq] (.cons (.ite (.cmp (.var 7) [.NotEq] (.cons (.list .nil) .nil)) (.sub (.var 7) (.int 0)) .none) .nil)) (.cons (.ret (.bool false)) .nil) .nil) (.cons (.ret (.and (.cons (.cmp (.meth 1 (.var 6) (.cons (.tup (.cons (.var 54) (.cons (.var 55) .nil))) .nil)) [.Eq] (.cons (.cmp (.tup (.cons (.var 54) (.cons (.var 55) .nil))) [.In] (.cons (.var 29) .nil)) .nil)) (.cons (.meth 1 (.var 6) (.cons .none .nil)) .nil)))) .nil)))))
noncomputable def a_law_places_right : List Nat := [52, 6, 29]
noncomputable def b_law_signed_right : PSs := (.cons (.assign 21 (.call 28 (.cons (.var 44) .nil))) (.cons (.assignT false (.names [37, 17, 53, 7]) (.tup (.cons (.bin .Sub (.call 13 (.cons (.var 52) (.cons (.bin .Add (.var 21) (.int 3)) .nil))) (.int 1)) (.cons (.call 14 (.cons (.var 52) (.cons (.var 21) .nil))) (.cons (.call 15 (.cons (.var 52) (.cons (.var 21) .nil))) (.cons .none .nil)))))) (.cons (.assign 28 (.sub (.var 44) (.bin .Mod (.var 17) (.var 21)))) (.cons (.ite (.and (.cons (.cmp (.var 28) [.IsNot] (.cons .none .nil)) (.cons (.cmp (.int 0) [.Lt, .Lt] (.cons (.var 37) (.cons (.var 21) .nil))) (.cons (.cmp (.int 0) [.Lt, .Lt] (.cons (.sub (.var 28) (.int 0)) (.cons (.var 21) .nil))) .nil)))) (.cons (.assignT true (.names [31, 26]) (.tup (.cons (.sub (.var 28) (.int 0)) (.cons (.bin .Mod (.sub (.var 28) (.int 1)) (.int 2)) .nil)))) (.cons (.assign 35 (.bin .Mod (.bin .Mult (.bin .Add (.var 53) (.bin .Mult (.var 31) (.var 37))) (.sub (.var 15) (.bin .Mod (.var 17) (.var 21)))) (.var 21))) (.cons (.ite (.cmp (.var 35) [.Gt] (.cons (.int 0) .nil)) (.cons (.assign 7 (.ite (.cmp (.bin .Mult (.int 2) (.var 35)) [.Lt] (.cons (.var 21) .nil)) (.tup (.cons (.var 26) (.cons (.var 31) (.cons (.var 35) .nil)))) (.tup (.cons (.bin .Sub (.int 1) (.var 26)) (.cons (.var 31) (.cons (.bin .Sub (.var 21) (.var 35)) .nil)))))) .nil) .nil) .nil))) .nil) (.cons (.assign 45 (.call 9 (.cons (.var 6) (.cons (.var 37) (.cons (.var 53) (.cons (.var 17) .nil)))))) (.cons (.ite (.cmp (.var 45) [.NotEq] (.cons (.var 7) .nil)) (.cons (.ret (.bool false)) .nil) .nil) (.cons (.ret (.or (.cons (.cmp (.var 45) [.Is] (.cons .none .nil)) (.cons (.cmp (.call 10 (.cons (.var 6) (.cons (.var 53) (.cons (.sub (.var 45) (.int 0)) (.cons (.sub (.var 45) (.int 1)) (.cons (.sub (.var 45) (.int 2)) .nil)))))) [.Eq] (.cons (.sub (.var 44) (.var 37)) .nil)) .nil)))) .nil)))))))
noncomputable def a_law_signed_right : List Nat := [52, 6, 44, 15]
noncomputable def b_law_wild_right : PSs := (.cons (.assignT true (.names [21, 53, 7]) (.tup (.cons (.call 28 (.cons (.var 44) .nil)) (.cons (.call 15 (.cons (.var 52) (.cons (.call 28 (.cons (.var 44) .nil)) .nil))) (.cons .none .nil))))) (.cons (.assignT false (.names [26, 31, 35]) (.tup (.cons (.bin .Sub (.call 13 (.cons (.var 52) (.cons (.int 4) .nil))) (.int 1)) (.cons (.bin .Sub (.call 13 (.cons (.var 52) (.cons (.bin .Add (.var 21) (.int 3)) .nil))) (.int 1)) (.cons (.bin .Sub (.call 13 (.cons (.var 52) (.cons (.bin .Add (.var 21) (.int 3)) .nil))) (.int 1)) .nil))))) (.cons (.ite (.and (.cons (.cmp (.var 26) [.In] (.cons (.tup (.cons (.int 0) (.cons (.int 1) .nil))) .nil)) (.cons (.cmp (.int 0) [.Lt, .Lt] (.cons (.var 31) (.cons (.var 21) .nil))) (.cons (.cmp (.int 0) [.Lt, .Lt] (.cons (.var 35) (.cons (.var 21) .nil))) .nil)))) (.cons (.assignC 27 (.comp1 [26, 31, 44] 17 (.rng2 (.int 1) (.var 21)) (.cons (.and (.cons (.cmp (.sub (.sub (.var 44) (.var 17)) (.int 0)) [.Eq] (.cons (.var 31) .nil)) (.cons (.cmp (.bin .Mod (.sub (.sub (.var 44) (.var 17)) (.int 1)) (.int 2)) [.Eq] (.cons (.var 26) .nil)) .nil))) .nil) (.var 17))) (.cons (.ite (.cmp (.var 27) [.NotEq] (.cons (.list .nil) .nil)) (.cons (.assign 7 (.sub (.var 44) (.bin .Mod (.bin .Mult (.bin .Sub (.bin .Mult (.var 35) (.sub (.var 27) (.int 0))) (.var 53)) (.sub (.var 15) (.var 31))) (.var 21)))) .nil) .nil) .nil)) .nil) (.cons (.ret (.cmp (.call 10 (.cons (.var 6) (.cons (.var 53) (.cons (.var 26) (.cons (.var 31) (.cons (.var 35) .nil)))))) [.Eq] (.cons (.var 7) .nil))) .nil))))
noncomputable def a_law_wild_right : List Nat := [52, 6, 44, 15]
noncomputable def b_law_even_right : PSs := (.cons (.assignT true (.names [29, 15]) (.tup (.cons (.call 17 (.cons (.int 7) (.cons (.int 1) .nil))) (.cons (.call 16 (.cons (.int 7) .nil)) .nil)))) (.cons (.assignT true (.names [6, 41]) (.tup (.cons (.call 0 (.cons (.int 7) (.cons (.int 1) (.cons (.sub (.var 29) (.int 0)) (.cons (.int 12) .nil))))) (.cons (.bin .Add (.list (.cons .none .nil)) (.var 29)) .nil)))) (.cons (.assignT true (.names [23, 24]) (.tup (.cons (.sub (.var 41) (.call 13 (.cons (.var 52) (.cons (.int 12) .nil)))) (.cons (.sub (.var 41) (.call 13 (.cons (.var 52) (.cons (.int 12) .nil)))) .nil)))) (.cons (.ite (.cmp (.meth 3 (.var 6) (.cons (.var 23) (.cons (.var 24) .nil))) [.NotEq] (.cons (.call 18 (.cons (.int 7) (.cons (.var 15) (.cons (.var 23) (.cons (.var 24) .nil))))) .nil)) (.cons (.ret (.bool false)) .nil) .nil) (.cons (.ite (.cmp (.meth 2 (.var 6) (.cons (.var 23) .nil)) [.NotEq] (.cons (.call 18 (.cons (.int 7) (.cons (.var 15) (.cons (.var 23) (.cons (.var 23) .nil))))) .nil)) (.cons (.ret (.bool false)) .nil) .nil) (.cons (.assignT true (.names [22, 7]) (.tup (.cons (.call 14 (.cons (.var 52) (.cons (.int 12) .nil))) (.cons .none .nil)))) (.cons (.forr 47 (.rng1 (.bin .Mod (.var 22) (.int 12))) (.cons (.assign 7 (.call 18 (.cons (.int 7) (.cons (.var 15) (.cons (.var 7) (.cons (.var 23) .nil)))))) .nil)) (.cons (.ret (.and (.cons (.cmp (.meth 4 (.var 6) (.cons (.var 22) (.cons (.var 23) .nil))) [.Eq] (.cons (.var 7) .nil)) (.cons (.call 21 (.cons (.var 52) (.cons (.var 6) (.cons (.var 29) .nil)))) .nil)))) .nil))))))))
noncomputable def a_law_even_right : List Nat := [52]
noncomputable def b_law_great_right : PSs := (.cons (.assignT true (.names [6, 22]) (.tup (.cons (.call 11 .nil) (.cons (.bin .Add (.int 1) (.call 13 (.cons (.var 52) (.cons (.int 3) .nil)))) .nil)))) (.cons (.assignT false (.names [54, 55]) (.meth 4 (.var 6) (.cons (.var 22) (.cons (.attr (.var 6) 2) .nil)))) (.cons (.ret (.and (.cons (.meth 1 (.var 6) (.cons (.attr (.var 6) 2) .nil)) (.cons (.cmp (.meth 4 (.var 6) (.cons (.bin .Sub (.attr (.var 6) 3) (.var 22)) (.cons (.attr (.var 6) 2) .nil))) [.Eq] (.cons (.tup (.cons (.var 54) (.cons (.bin .Sub (.attr (.var 6) 0) (.var 55)) .nil))) .nil)) .nil)))) .nil)))
noncomputable def a_law_great_right : List Nat := [52]
noncomputable def b_law : PSs := (.cons (.assign 52 (.list (.cons (.comp1 [] 3 (.seq (.cut (.var 36) 40)) .nil (.bin .Mod (.var 3) (.int 2147483647))) (.cons (.int 0) (.cons (.int 11) .nil))))) (.cons (.assign 51 (.call 13 (.cons (.var 52) (.cons (.int 8) .nil)))) (.cons (.ite (.cmp (.var 51) [.Eq] (.cons (.int 7) .nil)) (.cons (.ret (.call 25 (.cons (.var 52) .nil))) .nil) .nil) (.cons (.ite (.cmp (.var 51) [.Eq] (.cons (.int 6) .nil)) (.cons (.ret (.call 24 (.cons (.var 52) .nil))) .nil) .nil) (.cons (.assignT false (.names [25, 1, 21]) (.sub (.glob 0) (.var 51))) (.cons (.assign 29 (.call 17 (.cons (.var 25) (.cons (.var 1) .nil)))) (.cons (.assign 6 (.ite (.cmp (.var 51) [.Eq] (.cons (.int 5) .nil)) (.call 12 .nil) (.call 0 (.cons (.var 25) (.cons (.var 1) (.cons (.sub (.var 29) (.call 13 (.cons (.var 52) (.cons (.bin .Sub (.var 21) (.int 1)) .nil)))) (.cons (.var 21) .nil))))))) (.cons (.ite (.or (.cons (.cmp (.tup (.cons (.attr (.var 6) 0) (.cons (.attr (.var 6) 1) (.cons (.attr (.var 6) 3) .nil)))) [.NotEq] (.cons (.tup (.cons (.var 25) (.cons (.var 1) (.cons (.var 21) .nil)))) .nil)) (.cons (.cmp (.attr (.var 6) 2) [.NotIn] (.cons (.var 29) .nil)) .nil))) (.cons (.ret (.bool false)) .nil) .nil) (.cons (.assignT true (.names [44, 15]) (.tup (.cons (.call 19 (.cons (.var 25) (.cons (.var 21) (.cons (.attr (.var 6) 2) .nil)))) (.cons (.call 16 (.cons (.var 21) .nil)) .nil)))) (.cons (.ite (.or (.cons (.not (.call 20 (.cons (.var 52) (.cons (.var 6) (.cons (.var 44) .nil))))) (.cons (.not (.call 21 (.cons (.var 52) (.cons (.var 6) (.cons (.var 29) .nil))))) .nil))) (.cons (.ret (.bool false)) .nil) .nil) (.cons (.ret (.and (.cons (.call 22 (.cons (.var 52) (.cons (.var 6) (.cons (.var 44) (.cons (.var 15) .nil))))) (.cons (.call 23 (.cons (.var 52) (.cons (.var 6) (.cons (.var 44) (.cons (.var 15) .nil))))) .nil)))) .nil)))))))))))
noncomputable def a_law : List Nat := [36]
noncomputable def bodies : List (List Nat × PSs) := [(a_is_on, b_is_on), (a_doubled, b_doubled), (a_added, b_added), (a_times, b_times), (a_lifted, b_lifted), (a_wide_doubled, b_wide_doubled), (a_wide_added, b_wide_added), (a_narrowed, b_narrowed), (a_signature, b_signature), (a_recovered, b_recovered), (a_secp256k1, b_secp256k1), (a_small_curve, b_small_curve), (a_law_draw, b_law_draw), (a_law_number, b_law_number), (a_law_word, b_law_word), (a_law_inverses, b_law_inverses), (a_law_listed, b_law_listed), (a_law_sum, b_law_sum), (a_law_multiples, b_law_multiples), (a_law_sums_right, b_law_sums_right), (a_law_places_right, b_law_places_right), (a_law_signed_right, b_law_signed_right), (a_law_wild_right, b_law_wild_right), (a_law_even_right, b_law_even_right), (a_law_great_right, b_law_great_right), (a_law, b_law)]
noncomputable def bodyOf : Nat → Option (List Nat × PSs)
  | 0 => Option.none
  | f + 1 => bodies[f]?
end Mine
set_option maxRecDepth 100000
set_option maxHeartbeats 4000000
namespace Mine
open PySem PySem.W PyProof.Rows PySem.Calls

noncomputable def powW (ds : List AV) (st : St) (Q : AV → St → Prop) : Prop := match ds with
  | [.int a, .int e, .int m] => 0 ≤ e ∧ 1 < m ∧ Q (.int (Builtin.powMod (a % m).toNat e.natAbs m.natAbs : Nat)) st
  | _ => False
noncomputable def lenW (ds : List AV) (st : St) (Q : AV → St → Prop) : Prop := match ds with
  | [.lst i] => match st[i]? with
    | some l => l.length ≤ 1000 ∧ Q (.int (l.length : Nat)) st
    | Option.none => False
  | _ => False
noncomputable def mkW (ds : List AV) (st : St) (Q : AV → St → Prop) : Prop := match ds with
  | [.int p, .int b, g, .int n] => Q (.curve p b g n) st
  | _ => False
noncomputable def fnW (T : Prims) (ps : List Nat) (b : PSs) (ds : List AV) (st : St) (Q : AV → St → Prop) : Prop :=
  match bindNames ps ds [] with
  | some loc => execsW T b loc st fun r _ st' => Q (r.getD .none) st'
  | Option.none => False
noncomputable def curvesV : AV := .tup [.tup [.int 7, .int 3, .int 13], .tup [.int 7, .int 5, .int 7], .tup [.int 19, .int 2, .int 13], .tup [.int 19, .int 10, .int 19], .tup [.int 31, .int 3, .int 43], .tup [.int 67, .int 7, .int 79]]
noncomputable def globV : Nat → Option AV
  | 0 => some curvesV
  | _ => Option.none
noncomputable def callR : Nat → Calls
  | 0, _, _, _, _ => False
  | n + 1, f, ds, st, Q => if f = 0 then mkW ds st Q else if f = 27 then powW ds st Q else if f = 28 then lenW ds st Q else
    match bodyOf f with
    | some (ps, b) => fnW ⟨callR n, globV⟩ ps b ds st Q
    | Option.none => False

@[irreducible] noncomputable def callW (n : Nat) : Calls := callR n
theorem callW_eq (n : Nat) : callW n = callR n := by unfold callW; rfl
end Mine
set_option maxRecDepth 100000
set_option maxHeartbeats 4000000
namespace Mine
open PySem PySem.W PyProof.Rows PySem.Calls
section
variable {prog : Program} {w : World} {A : Around} {E : Value → Shared → Prop} {s : Shared}
theorem entry_bpow : entryFor table "pow" = some Builtin.«pow» := entryFor_of_tree (by kernel_rfl)
theorem kind_bpow : builtinKind "pow" = none := by decide +kernel
theorem plain_bpow : plainId "pow" = true := by decide +kernel
theorem args_bpow (a b c : Value) : argsOk "pow" ⟨[a, b, c], []⟩ := by unfold argsOk; kernel_rfl
theorem callPow {a e m : Int} {t u v : Tok} {Q : Value → Shared → Prop} (h1 : 0 ≤ e) (h2 : 1 < m) (h : ∀ tk tk', Q (.int (Builtin.powMod (a % m).toNat e.natAbs m.natAbs : Nat) tk) { s with toks := tk' }) :
    wpAny (model prog w) A (call (.builtin "pow") [.int a t, .int e u, .int m v]) Q E s := by
  refine call_function_entry kind_bpow plain_bpow entry_bpow (args_bpow _ _ _) ?_
  unfold Builtin.«pow»
  refine wpAny_bind (m := Builtin.Builtins.bindParams "pow" _ _ _) (wpAny_of_eq (a := [some (.int a t), some (.int e u), some (.int m v)]) (by rfl) ?_)
  dsimp only [Option.getD]
  refine wpAny_bind (wpAny_rule ?_)
  refine wpAny_bind (m := typeOf _) (wpAny_of_eq (a := .type "int") (by rfl) ?_)
  dsimp only
  refine wpAny_bind (m := typeLookup _ _) (wpAny_of_eq (PySem.F.slot_int_pow.lookup) ?_)
  dsimp only
  refine wpAny_bind (wpAny_callSpecial?_slot (name := Str.ofString "__pow__") (typeIs_int s a t) PySem.F.slot_int_pow (wpAny_call_entry PySem.F.slot_int_pow (typeIs_int s a t) PySem.F.entry_int_pow ?_ (PySem.F.args_int_pow_3 _ _ _)))
  refine wpAny_bind (m := Builtin.Int.intOfSelf _) (wpAny_of_eq (a := a) (by rfl) ?_)
  show wpAny _ _ (asInt? (.int e u) >>= _) _ _ _
  refine wpAny_bind (wpAny_of_eq (a := some e) (by rfl) ?_)
  show wpAny _ _ (asInt? (.int m v) >>= _) _ _ _
  refine wpAny_bind (wpAny_of_eq (a := some m) (by rfl) ?_)
  dsimp only
  rw [if_neg (by intro z; cases z)]
  show wpAny _ _ (if (m == 0) = true then _ else _) _ _ _
  rw [if_neg (by simp; omega)]
  show wpAny _ _ (if (m.natAbs == 1) = true then _ else _) _ _ _
  rw [if_neg (by simp; omega)]
  show wpAny _ _ (if e < 0 then _ else _) _ _ _
  rw [if_neg (by omega)]
  have hm : ((m.natAbs : Nat) : Int) = m := by omega
  show wpAny _ _ (retInt (if (decide (m < 0) && _) = true then _ else _)) _ _ _
  rw [if_neg (by simp; omega), hm]
  refine wpAny_bind (m := mkInt _) (wpAny_mkInt (wpAny_pure ⟨_, rfl, ?_⟩))
  rw [if_pos (by rfl)]
  exact wpAny_pure ⟨_, rfl, h _ _⟩
end
end Mine
set_option maxRecDepth 100000
set_option maxHeartbeats 4000000
namespace Mine
open PySem PySem.W PyProof.Rows PySem.Calls

noncomputable def scopeOk (sc : Scope) (ps : List Nat) : Bool :=
  sc.kind == .function && !sc.isCoroutine && !sc.isGenerator && ps.all (scStore sc) && decide ((cellsFrom 0 sc.names []).map (·.1)).Nodup && sc.names.all (fun x => x.2 != .cell || ((cellsFrom 0 sc.names []).map (·.1)).contains x.1)
structure FnOk (K : Frag) (fnv : Nat → Value) (f : Nat) (ps : List Nat) (b : PSs) : Prop where
  ok : ∃ (oc : Value) (od : Option Addr) (osl : Array (Option Value)) (fd : FuncData) (body : List Stmt) (a : Addr),
    fnv f = .ref a ∧ K.lookup a = some ⟨oc, od, .func fd, osl⟩ ∧ fd.body = .stmts body ∧ fd.closure = [] ∧ fd.globals = mainGlobals ∧ fd.builtins = builtinsNs ∧ codeIn K fd.code fd.qualname = true ∧
    (∀ vals : List Value, vals.length = ps.length → bindArgs fd ⟨vals, []⟩ = pure ((ps.map nm).zip vals)) ∧ chkSs fd.scope b body = true ∧ scopeOk fd.scope ps = true

structure Base (prog : Program) (w : World) (C : Addr) (h₀ : Heap) (K : Frag) (fnv : Nat → Value) : Prop where
  kin : K.In h₀
  mg : ∃ mg, h₀.Ns mainGlobals mg
  mb : ∃ mb, h₀.Ns builtinsNs mb ∧ ∀ x : Str, x ≠ "__name__" → mb x = bootBuiltins x
  kf : KF K C fnv
  lim : h₀.NoLimit
  glob : ∀ x d, globV x = some d → ∃ v, nsIn K mainGlobals (glm x) = some (some v) ∧ ∀ (g : Gh) (ρ : List Addr), (∀ b o, h₀.get? b = some o → g b = some o) → VR C g ρ d v
  pow : fnv 27 = .builtin "pow"
  len : fnv 28 = .builtin "len"
  fn : ∀ f ps b, bodyOf f = some (ps, b) → FnOk K fnv f ps b
  make : ∀ A, OkA A → A.depth + 1 < recursionLimit → ∀ ds st Q g ρ s vs, mkW ds st Q → Rel C h₀ g ρ st s.heap → VRs C g ρ ds vs → wpAny (model prog w) A (call (fnv 0) vs) (Post C h₀ g ρ s Q) NoE s

section
variable {prog : Program} {w : World} {A : Around} {C : Addr} {h₀ : Heap} {K : Frag} {fnv : Nat → Value} {g : Gh} {ρ : List Addr} {st : St} {s : Shared}

theorem cells_has {names : List (Str × NameKind)} {N : Nat} {n : Str} (h : ((cellsFrom 0 names []).map (·.1)).contains n = true) : ∃ c, (cellsFrom N names []).lookup n = some c := by
  rw [List.contains_iff_mem, cellsFrom_names names 0 N [] [] rfl] at h
  obtain ⟨⟨n', c⟩, hm, rfl⟩ := List.mem_map.mp h
  exact lookup_of_mem hm

/-- the arguments in a new frame -/
noncomputable def At0 (C : Addr) (g : Gh) (ρ : List Addr) (kindOf : Str → Option NameKind) (m cm : Str → Option Value) (loc : Loc) : Prop :=
  ∀ x d, look loc x = some d → x < nv ∧ ∃ v, VR C g ρ d v ∧ ((kindOf (nm x) = some .local ∧ m (nm x) = some v) ∨ (kindOf (nm x) = some .cell ∧ cm (nm x) = some v))
theorem bindVars {kindOf : Str → Option NameKind} : ∀ {ps : List Nat} {ds : List AV} {vs : List Value} {m cm : Str → Option Value} {loc loc' : Loc}, (∀ x ∈ ps, x < nv ∧ (kindOf (nm x) = some .local ∨ kindOf (nm x) = some .cell)) → VRs C g ρ ds vs →
    At0 C g ρ kindOf m cm loc → bindNames ps ds loc = some loc' → At0 C g ρ kindOf (bindL kindOf ((ps.map nm).zip vs) m) (bindC kindOf ((ps.map nm).zip vs) cm) loc'
  | [], [], vs, m, cm, loc, loc', _, hv, a, h => by cases h; rw [hv]; exact a
  | p :: ps, d :: ds, vs, m, cm, loc, loc', hp, ⟨v, us, e, h1, h2⟩, a, h => by
    subst e
    obtain ⟨hx, hk⟩ := hp p List.mem_cons_self
    refine bindVars (ps := ps) (fun x hm => hp x (List.mem_cons_of_mem _ hm)) h2 ?_ h
    intro y e hy
    rw [look_upd] at hy
    by_cases hpy : p = y
    · subst hpy
      rw [if_pos rfl] at hy; cases hy
      refine ⟨hx, v, h1, ?_⟩
      rcases hk with hk | hk
      · left; rw [if_pos hk]; exact ⟨hk, by simp⟩
      · right; rw [if_neg (by rw [hk]; decide)]; exact ⟨hk, by simp⟩
    · rw [if_neg hpy] at hy
      obtain ⟨hy', u, hu, hr⟩ := a y e hy
      refine ⟨hy', u, hu, ?_⟩
      have hne : nm y ≠ nm p := fun q => hpy (nm_inj hx hy' q.symm)
      rcases hr with ⟨q, r⟩ | ⟨q, r⟩
      · left; refine ⟨q, ?_⟩; split
        · exact (if_neg hne).trans r
        · exact r
      · right; refine ⟨q, ?_⟩; split
        · exact r
        · exact (if_neg hne).trans r
  | [], _ :: _, _, _, _, _, _, _, _, _, h => nomatch h
  | _ :: _, [], _, _, _, _, _, _, _, _, h => nomatch h

theorem fnSound {T : Prims} {f : Nat} {ps : List Nat} {b : PSs} (B : Base prog w C h₀ K fnv) (hroom : A.depth < recursionLimit) (X : FnOk K fnv f ps b) (W : ∀ env, Wd prog w (A.deeper env) C h₀ K fnv T)
    {ds : List AV} {vs : List Value} {Q : AV → St → Prop} (h : fnW T ps b ds st Q) (R : Rel C h₀ g ρ st s.heap) (hv : VRs C g ρ ds vs) : wpAny (model prog w) A (call (fnv f) vs) (Post C h₀ g ρ s Q) NoE s := by
  obtain ⟨oc, od, osl, fd, body, a, e1, e2, hbd, hcl, hgl, hbl, e3, e4, e5, e6⟩ := X.ok
  generalize hscope : fd.scope = scope at e5 e6
  unfold fnW at h
  cases hb : bindNames ps ds [] with
  | none => rw [hb] at h; exact h.elim
  | some loc =>
    rw [hb] at h
    dsimp only at h
    unfold scopeOk at e6
    simp only [Bool.and_eq_true, beq_iff_eq, Bool.not_eq_true', decide_eq_true_eq] at e6
    obtain ⟨⟨⟨⟨⟨k1, k2⟩, k3⟩, k4⟩, k5⟩, k6⟩ := e6
    have hlen : vs.length = ps.length := by rw [hv.length, bindNames_len hb]
    have KI := B.kin.keeps R.keep0
    have hcells : ∀ n, scope.names.lookup n = some .cell → ∃ c, (cellsFrom (s.heap.objs.size + 1) scope.names []).lookup n = some c := fun n hn => by
      have := List.all_eq_true.mp k6 _ (mem_of_lookup' hn)
      simp only [Bool.or_eq_true, bne_self_eq_false, Bool.false_eq_true, false_or] at this
      exact cells_has this
    have hst : ∀ x ∈ ps, x < nv ∧ (scope.names.lookup (nm x) = some .local ∨ scope.names.lookup (nm x) = some .cell) := fun x hx => by
      have := List.all_eq_true.mp k4 x hx
      unfold scStore at this
      simpa only [Bool.and_eq_true, decide_eq_true_eq, Bool.or_eq_true, beq_iff_eq] using this
    rw [e1]
    refine wpAny_call (codeAny_call_cells (fd := fd) hroom (KI _ _ e2) rfl (B.lim.keeps R.keep0) (codeRec_of KI e3) hbd (e4 vs hlen) hcl (fun x hx => ?_) (fun s₁ Z => ?_) (by rw [hscope]; exact k2) (by rw [hscope]; exact k3) (by rw [hscope]; exact k1))
    · rw [hscope]
      have h1 : x.1 ∈ ps.map nm := (List.of_mem_zip (show (x.1, x.2) ∈ _ from hx)).1
      obtain ⟨y, hy, e⟩ := List.mem_map.mp h1
      rcases (hst y hy).2 with z | z
      · left; rw [← e]; exact z
      · right
        rw [← e]
        refine ⟨z, ?_⟩
        obtain ⟨c, hc⟩ := hcells _ z
        show ((cellsFrom (s.heap.objs.size + 1) scope.names []).lookup _).isSome = true
        rw [hc]; rfl
    · generalize henv : callEnvC fd s.heap.objs.size a = env at Z ⊢
      have hL : env.locals = s.heap.objs.size := by rw [← henv]; rfl
      have hsc : env.scope = scope := by rw [← henv, ← hscope]; rfl
      have hcs : env.cells = cellsFrom (s.heap.objs.size + 1) scope.names [] := by rw [← henv, ← hscope]; rfl
      have hko : ∀ n, env.kindOf n = scope.names.lookup n := fun n => by rw [← henv, ← hscope]; rfl
      obtain ⟨h', tk, rfl⟩ := Z.toInCall.same
      have kp : ∀ b o, s.heap.get? b = some o → h'.get? b = some o := Z.toInCall.keep
      have R1 := R.grow kp
      have S1 := Step.grow kp [] g ρ
      have newG : ∀ x, s.heap.objs.size ≤ x → g x = Option.none := fun x hx => gfree_of R (Heap.get?_none_of_le hx)
      have keys : ((env.cells).map (·.1)).Nodup := by rw [hcs, ← cellsFrom_names scope.names 0 (s.heap.objs.size + 1) [] [] rfl]; exact k5
      have F1 : FR g env h' := by
        refine ⟨by rw [hsc]; exact k1, by rw [← henv]; exact hgl, by rw [← henv]; exact hbl, ⟨_, Z.toInCall.ns⟩, by rw [hL]; exact newG _ (Nat.le_refl _), fun n hn => ?_, fun n c hc => ?_, Z.apart, fun n c c' h1 h2 => ?_⟩
        · rw [hko] at hn
          rw [hcs]
          exact hcells n hn
        · refine ⟨⟨_, Z.cell n c hc⟩, newG c ?_⟩
          have := Z.above n c (mem_of_lookup hc)
          rw [hL] at this
          exact Nat.le_of_lt this
        · have a1 := lookup_of_mem_nodup keys h1
          have a2 := lookup_of_mem_nodup keys h2
          rw [a1] at a2; exact Option.some.inj a2
      have V1 : Vars C g ρ env h' loc := by
        have := bindVars (kindOf := env.kindOf) (m := fun _ => Option.none) (cm := fun _ => Option.none) (fun x hx => by rw [hko]; exact hst x hx) hv (fun x d e => by cases e) hb
        intro x d hx
        obtain ⟨hx', v, hv', hr⟩ := this x d hx
        refine ⟨hx', v, ?_, hv'⟩
        rcases hr with ⟨q, r⟩ | ⟨q, r⟩
        · exact .inl ⟨q, _, Z.toInCall.ns, r⟩
        · obtain ⟨c, hc⟩ := F1.has _ q
          exact .inr ⟨q, c, hc, by rw [← r]; exact Z.cell _ c hc⟩
      have hS : SEnv scope env := fun n k _ hl => by rw [hko]; exact hl
      refine wpAny_mono (execsS (W env) b body scope env e5 hS loc st _ g ρ { s with heap := h', toks := tk } F1 V1 R1 h) (fun fl s2 P => ?_) fun _ _ x => x.elim
      obtain ⟨h2, tk2, g2, ρ2, st2, loc2, rfl, S2, R2, F2, V2, hf⟩ := P
      have hown : ∀ b ∈ ownA env, s.heap.get? b = Option.none := fun b hb => by
        rcases List.mem_cons.mp hb with q | q
        · rw [q, hL]; exact push_new _
        · obtain ⟨⟨n, c⟩, hc, rfl⟩ := List.mem_map.mp q
          have := Z.above n c hc
          rw [hL] at this
          exact Heap.get?_none_of_le (Nat.le_of_lt this)
      have S3 : Step [] g ρ s.heap g2 ρ2 h2 := ((S1.more none_own).trans S2).called hown
      rcases hf with ⟨rfl, hq⟩ | ⟨v, d, rfl, hv2, hq⟩
      · exact ⟨h2, tk2, g2, ρ2, st2, .none, rfl, S3, R2, rfl, hq⟩
      · exact ⟨h2, tk2, g2, ρ2, st2, d, rfl, S3, R2, hv2, hq⟩

noncomputable def OkN (n : Nat) (A : Around) : Prop := A.handled = none ∧ A.units + 80 + 3 * n < cLine ∧ A.depth + n + 1 < recursionLimit
theorem OkN.ok {n : Nat} (h : OkN n A) : OkA A := ⟨h.1, by have := h.2.1; omega⟩
theorem callSnd (B : Base prog w C h₀ K fnv) : ∀ (n : Nat) (A : Around), OkN n A → ∀ f ds st Q g ρ s vs, callR n f ds st Q → Rel C h₀ g ρ st s.heap → VRs C g ρ ds vs → wpAny (model prog w) A (call (fnv f) vs) (Post C h₀ g ρ s Q) NoE s
  | 0, _, _, _, _, _, _, _, _, _, _, h, _, _ => h.elim
  | n + 1, A, hA, f, ds, st, Q, g, ρ, s, vs, h, R, hv => by
    have hroom : A.depth < recursionLimit := by have := hA.2.2; omega
    unfold callR at h
    split at h
    · rename_i e; subst e
      exact B.make A hA.ok (by have := hA.2.2; omega) ds st Q g ρ s vs h R hv
    · split at h
      · rename_i e; subst e
        rw [B.pow]
        unfold powW at h
        split at h
        · obtain ⟨h1, h2, h3⟩ := h
          obtain ⟨v1, r1, rfl, ⟨t1, rfl⟩, v2, r2, rfl, ⟨t2, rfl⟩, v3, r3, rfl, ⟨t3, rfl⟩, rfl⟩ := hv
          exact callPow h1 h2 fun tk tk' => Post.now (d := .int _) R ⟨_, rfl⟩ h3
        · exact h.elim
      · split at h
        · rename_i e; subst e
          rw [B.len]
          unfold lenW at h
          split at h
          · rename_i i
            split at h
            · rename_i l hl
              obtain ⟨v1, r1, rfl, ⟨x, hx, rfl⟩, rfl⟩ := hv
              obtain ⟨x', us, hx', hp, hu⟩ := R.lists i l hl
              rw [hx] at hx'; cases hx'
              have hlen := hu.length
              refine PySem.Calls.call_len_list hp.isList (by rw [List.size_toArray]; omega) ?_
              rw [List.size_toArray, hlen]
              exact Post.now (d := .int _) R ⟨_, rfl⟩ h.2
            · exact h.elim
          · exact h.elim
        · split at h
          · rename_i ps b hb
            refine fnSound B hroom (B.fn f ps b hb) (fun env => ?_) h R hv
            have hA' : OkN n (A.deeper env) := ⟨hA.1, by have := hA.2.1; show A.units + 3 + 80 + 3 * n < cLine; omega, by have := hA.2.2; show A.depth + 1 + n + 1 < recursionLimit; omega⟩
            exact ⟨hA'.ok, B.kin, B.mg, B.mb, B.kf, B.glob, fun f ds st Q g ρ s vs h R hv => callSnd B n (A.deeper env) hA' f ds st Q g ρ s vs h R hv⟩
          · exact h.elim
theorem callSndW (B : Base prog w C h₀ K fnv) (n : Nat) (A : Around) (hA : OkN n A) (f : Nat) (ds : List AV) (st : St) (Q : AV → St → Prop) (g : Gh) (ρ : List Addr) (s : Shared) (vs : List Value) (h : callW n f ds st Q) (R : Rel C h₀ g ρ st s.heap) (hv : VRs C g ρ ds vs) : wpAny (model prog w) A (call (fnv f) vs) (Post C h₀ g ρ s Q) NoE s := by
  rw [callW_eq] at h
  exact callSnd B n A hA f ds st Q g ρ s vs h R hv
end
end Mine
set_option maxRecDepth 100000
set_option maxHeartbeats 4000000
namespace Mine
open PySem PySem.W PyProof.Rows PySem.Calls
section
variable {prog : Program} {w : World} {A : Around} {C : Addr} {h₀ : Heap} {K : Frag} {g : Gh} {ρ : List Addr} {st : St} {s : Shared} {own : List Addr}

theorem Rel.absorb {g₀ : Gh} {ρ₀ : List Addr} {h h' : Heap} (R : Rel C h₀ g ρ st h') (S : Step own g₀ ρ₀ h g ρ h') {a : Addr} {o : Obj} (ha : h.get? a = Option.none) (hg : g a = Option.none) (hρ : a ∉ ρ) (ho : h'.get? a = some o) :
    Rel C h₀ (gput g a o) ρ st h' ∧ Step own g₀ ρ₀ h (gput g a o) ρ h' := by
  have ge : ∀ b x, g b = some x → gput g a o b = some x := fun b x e => by
    unfold gput
    rw [if_neg (fun q => by rw [q, hg] at e; cases e)]; exact e
  refine ⟨⟨fun b x e => ge b x (R.base0 b x e), fun b x e => ?_, R.nodup, fun b hb => ?_, R.len, fun i l e => ?_⟩, ⟨fun b x e => ge b x (S.gext b x e), fun b x e => ?_, S.ext, S.keep, S.alive⟩⟩
  · unfold gput at e
    split at e
    · rename_i q; cases e; rw [q]; exact ho
    · exact R.base b x e
  · unfold gput
    rw [if_neg (fun (q : b = a) => hρ (q ▸ hb))]
    exact R.fresh b hb
  · obtain ⟨x, vs, hx, hp, hv⟩ := R.lists i l e
    exact ⟨x, vs, hx, hp, hv.mono ge ⟨[], (List.append_nil _).symm⟩⟩
  · unfold gput at e
    split at e
    · rename_i q; rw [q]; exact .inr ha
    · exact S.gnew b x e

abbrev sSelf : Str := Str.ofString "self"
abbrev sP : Str := Str.ofString "p"
abbrev sB : Str := Str.ofString "b"
abbrev sG : Str := Str.ofString "g"
abbrev sN : Str := Str.ofString "n"

/-- self.x = x -/
theorem initStep {env : Env} {x dx L : Addr} {base : Heap} {m : Str → Option Value} {n : Str} {v : Value} {es : List DictEntry} {k k' : Nat} {p1 p2 p3 p4 : Pos} {Q : Flow → Shared → Prop} {E : Value → Shared → Prop}
    (hk : env.scope.kind = .function) (hL : env.locals = L) (hs : env.kindOf sSelf = some .local) (hn : env.kindOf n = some .local) (hd : (n == ("__debug__" : Str)) = false)
    (F : Fr base L s.heap m) (X : K.In base) (N : News base L s.heap [(x, instObj C dx), (dx, dictOf es k)]) (hne : x ≠ dx)
    (m1 : m sSelf = some (.ref x)) (m2 : m n = some v)
    (c1 : findIn K (.ref C) "__setattr__" = some (some (.builtin "object.__setattr__"))) (c2 : plainOver K C = true) (c3 : takerIn K C n = some Option.none) (c4 : hasDictIn K C = true) (hl : (getL n es).isSome = true)
    (e : ∀ tk, (putL n (PyData.keyHash w.params n) (.str n tk) v es, putN n es k) = (es ++ [⟨PyData.keyHash w.params n, .str n tk, v⟩], k')) (hz : es.length < 100)
    (h : ∀ h' tk tk', Fr base L h' m → News base L h' [(x, instObj C dx), (dx, dictOf (es ++ [⟨PyData.keyHash w.params n, .str n tk, v⟩]) k')] → Q .next { s with heap := h', toks := tk' }) :
    wpAny (model prog w) A (exec (.Assign [.Attribute (.Name sSelf p1) n p2] (.Name n p3) p4) env) Q E s := by
  subst hL
  refine plainObj_wpAny_Assign_Attribute (wpAny_Name (wpAny_loadName_local hk hn F.ns m2 (wpAny_Name (wpAny_loadName_local hk hs F.ns m1 ?_) (by decide))) hd) (by rfl)
  refine set_dict F X N (InstAt.of_news N (x := x) (dx := dx) (List.mem_cons_self) (List.mem_cons_of_mem _ List.mem_cons_self)) rfl c1 c2 c3 c4 hl (e _) (.tail hne (.head (by simp))) (by simp; omega) fun h' F' N' => h h' _ _ F' N'

theorem makeSound {fI : Addr} {oc : Value} {od : Option Addr} {osl : Array (Option Value)} {name qual : Str} {params : Arguments} {scope : Scope} {dV kV doc pm cdv ct : Value} {an : Option Addr} {q1 q2 q3 q4 q5 q6 q7 q8 q9 q10 q11 q12 q13 q14 q15 q16 : Pos}
    (X : K.In h₀) (hlim : h₀.NoLimit) (hm : makesIn K C = true) (hi : findIn K (.ref C) "__init__" = some (some (.ref fI))) (hf : typeIn K (.ref fI) = some (.type "function"))
    (ho : K.lookup fI = some ⟨oc, od, .func (fnOf name qual params
      [.Assign [.Attribute (.Name sSelf q1) sP q2] (.Name sP q3) q4, .Assign [.Attribute (.Name sSelf q5) sB q6] (.Name sB q7) q8, .Assign [.Attribute (.Name sSelf q9) sG q10] (.Name sG q11) q12, .Assign [.Attribute (.Name sSelf q13) sN q14] (.Name sN q15) q16]
      scope dV kV doc pm an cdv ct), osl⟩) (hcd : codeIn K cdv qual = true)
    (hb : ∀ v0 v1 v2 v3 v4 : Value, bindArgs (fnOf name qual params
      [.Assign [.Attribute (.Name sSelf q1) sP q2] (.Name sP q3) q4, .Assign [.Attribute (.Name sSelf q5) sB q6] (.Name sB q7) q8, .Assign [.Attribute (.Name sSelf q9) sG q10] (.Name sG q11) q12, .Assign [.Attribute (.Name sSelf q13) sN q14] (.Name sN q15) q16]
      scope dV kV doc pm an cdv ct) ⟨[v0, v1, v2, v3, v4], []⟩ = pure [(sSelf, v0), (sP, v1), (sB, v2), (sG, v3), (sN, v4)])
    (k1 : scope.kind = .function) (k2 : scope.isCoroutine = false) (k3 : scope.isGenerator = false) (hcell : ∀ x ∈ scope.names, x.2 ≠ .cell)
    (hloc : ∀ n ∈ [sSelf, sP, sB, sG, sN], scope.names.lookup n = some .local)
    (c1 : findIn K (.ref C) "__setattr__" = some (some (.builtin "object.__setattr__"))) (c2 : plainOver K C = true) (c3 : ∀ n ∈ [sP, sB, sG, sN], takerIn K C n = some Option.none) (c4 : hasDictIn K C = true)
    (hroom : A.depth + 1 < recursionLimit) {ds : List AV} {vs : List Value} {Q : AV → St → Prop}
    (h : mkW ds st Q) (R : Rel C h₀ g ρ st s.heap) (hv : VRs C g ρ ds vs) : wpAny (model prog w) A (call (.ref C) vs) (Post C h₀ g ρ s Q) NoE s := by
  unfold mkW at h
  split at h
  · rename_i p b gg n
    obtain ⟨v1, r1, rfl, ⟨t1, rfl⟩, v2, r2, rfl, ⟨t2, rfl⟩, v3, r3, rfl, hv3, v4, r4, rfl, ⟨t4, rfl⟩, rfl⟩ := hv
    obtain ⟨hh, gn, dr, tk0, os⟩ := s
    have KI := X.keeps R.keep0
    refine wpAny_call (make_core (makes_of KI hm) (looks_findIn KI hi) (fun self => bind_fn KI self hf) (.inl rfl) ?_)
    have kp : ∀ b o, hh.get? b = some o → ((hh.push emptyDict).push (instObj C hh.objs.size)).get? b = some o := fun b o e => push_keep _ _ b o (push_keep _ _ b o e)
    have KI2 : K.In ((hh.push emptyDict).push (instObj C hh.objs.size)) := KI.keeps kp
    refine codeAny_call_def (s := ⟨(hh.push emptyDict).push (instObj C hh.objs.size), gn, dr, tk0, os⟩) (binds := [(sSelf, .ref (hh.objs.size + 1)), (sP, .int p t1), (sB, .int b t2), (sG, v3), (sN, .int n t4)]) ?_ (KI2 _ _ ho) rfl ((hlim.keeps R.keep0).keeps kp) (codeRec_of KI2 hcd) rfl (BindsTo.of_eq (hb _ _ _ _ _)) hcell (fun x hx => ?_) (fun h1 hns hk1 => ?_) k2 k3 k1
    · show A.depth + (Code.builtin "type.__call__" _).weight < recursionLimit
      have : (Code.builtin "type.__call__" ⟨.ref C :: [.int p t1, .int b t2, v3, .int n t4], []⟩).weight ≤ 1 := by
        exact Nat.le_of_ble_eq_true (by kernel_rfl)
      omega
    · simp only [List.mem_cons, List.not_mem_nil, or_false] at hx
      rcases hx with rfl | rfl | rfl | rfl | rfl <;> exact hloc _ (by simp)
    · generalize henv : callEnv _ ((hh.push emptyDict).push (instObj C hh.objs.size)).objs.size fI = env
      have hsz : ((hh.push emptyDict).push (instObj C hh.objs.size)).objs.size = hh.objs.size + 2 := by rw [Heap.size_push, Heap.size_push]
      rw [hsz] at hns
      have hsc : env.scope = scope := by rw [← henv]; rfl
      have hL : env.locals = hh.objs.size + 2 := by rw [← henv, ← hsz]; rfl
      have hko : ∀ n, env.kindOf n = scope.names.lookup n := fun n => by rw [← henv]; rfl
      have hkp : ∀ b o, hh.get? b = some o → h1.get? b = some o := fun b o e => hk1 b o (kp b o e)
      have gx : ((hh.push emptyDict).push (instObj C hh.objs.size)).get? (hh.objs.size + 1) = some (instObj C hh.objs.size) := by
        have := Heap.get?_push_size (hh.push emptyDict) (o := instObj C hh.objs.size) rfl
        rwa [Heap.size_push] at this
      have gd : ((hh.push emptyDict).push (instObj C hh.objs.size)).get? hh.objs.size = some emptyDict := push_keep _ _ _ _ (Heap.get?_push_size hh rfl)
      have nn : ∀ k, hh.get? (hh.objs.size + k) = Option.none := fun k => Heap.get?_none_of_le (Nat.le_add_right _ _)
      have F : Fr hh (hh.objs.size + 2) h1 (fun x => ([(sSelf, .ref (hh.objs.size + 1)), (sP, .int p t1), (sB, .int b t2), (sG, v3), (sN, .int n t4)] : List (Str × Value)).reverse.lookup x) := ⟨hns, hkp, Nat.le_add_right _ _⟩
      have N : News hh (hh.objs.size + 2) h1 [(hh.objs.size + 1, instObj C hh.objs.size), (hh.objs.size, dictOf [] 0)] := by
        intro q hq
        simp only [List.mem_cons, List.not_mem_nil, or_false] at hq
        rcases hq with rfl | rfl
        · exact ⟨hk1 _ _ gx, Nat.ne_of_lt (Nat.lt_succ_self _), nn 1⟩
        · exact ⟨hk1 _ _ gd, Nat.ne_of_lt (Nat.lt_add_of_pos_right (by decide)), nn 0⟩
      have hkf : env.scope.kind = .function := by rw [hsc]; exact k1
      have hl : ∀ n ∈ [sSelf, sP, sB, sG, sN], env.kindOf n = some .local := fun n hn => by rw [hko]; exact hloc n hn
      have hne : hh.objs.size + 1 ≠ hh.objs.size := Nat.succ_ne_self _
      refine wpAny_execs_cons (initStep hkf hL (hl _ (by simp)) (hl _ (by simp)) (by decide) F KI N hne (by rfl) (v := .int p t1) (by rfl) c1 c2 (c3 _ (by simp)) c4 (by rfl) (k' := 1) (fun tk => by rfl) (by decide) fun h2 tk2 tk2' F2 N2 => ?_)
      refine wpAny_execs_cons (initStep hkf hL (hl _ (by simp)) (hl _ (by simp)) (by decide) F2 KI N2 hne (by rfl) (v := .int b t2) (by rfl) c1 c2 (c3 _ (by simp)) c4 (by rfl) (k' := 2) (fun tk => by rfl) (by simp) fun h3 tk3 tk3' F3 N3 => ?_)
      refine wpAny_execs_cons (initStep hkf hL (hl _ (by simp)) (hl _ (by simp)) (by decide) F3 KI N3 hne (by rfl) (v := v3) (by rfl) c1 c2 (c3 _ (by simp)) c4 (by rfl) (k' := 3) (fun tk => by rfl) (by simp) fun h4 tk4 tk4' F4 N4 => ?_)
      refine wpAny_execs_cons (initStep hkf hL (hl _ (by simp)) (hl _ (by simp)) (by decide) F4 KI N4 hne (by rfl) (v := .int n t4) (by rfl) c1 c2 (c3 _ (by simp)) c4 (by rfl) (k' := 4) (fun tk => by rfl) (by simp) fun h5 tk5 tk5' F5 N5 => ?_)
      refine wpAny_execs_nil ?_
      refine ⟨rfl, ?_⟩
      have R5 : Rel C h₀ g ρ st h5 := R.grow F5.keep
      have S5 : Step [] g ρ hh g ρ h5 := Step.grow F5.keep [] g ρ
      have off : ∀ k, hh.objs.size + k ∉ ρ := fun k hm => by
        obtain ⟨its, nx, q⟩ := R.at hm
        exact nomatch ((nn k).symm.trans q)
      obtain ⟨n5x, _, _⟩ := N5 _ (List.mem_cons_self)
      obtain ⟨n5d, _, _⟩ := N5 _ (List.mem_cons_of_mem _ List.mem_cons_self)
      obtain ⟨R6, S6⟩ := R5.absorb S5 (nn 0) (gfree_of R (nn 0)) (off 0) n5d
      have gx6 : ∀ o, gput g (hh.objs.size + 0) o (hh.objs.size + 1) = Option.none := fun o => by
        unfold gput
        rw [if_neg (by show ¬ (hh.objs.size + 1 = hh.objs.size); exact hne)]
        exact gfree_of R (nn 1)
      obtain ⟨R7, S7⟩ := R6.absorb S6 (nn 1) (gx6 _) (off 1) n5x
      refine ⟨h5, tk5', _, ρ, st, .curve p b gg n, rfl, S7, R7, ?_, h⟩
      refine ⟨hh.objs.size + 1, t1, t2, v3, t4, rfl, ⟨hh.objs.size, (([] ++ [⟨PyData.keyHash w.params sP, .str sP tk2, .int p t1⟩]) ++ [⟨PyData.keyHash w.params sB, .str sB tk3, .int b t2⟩]) ++ [⟨PyData.keyHash w.params sG, .str sG tk4, v3⟩] ++ [⟨PyData.keyHash w.params sN, .str sN tk5, .int n t4⟩], 4, ?_, ?_, rfl, ?_, ?_⟩, hv3.step S7⟩
      · unfold gput; rw [if_pos rfl]
      · unfold gput; rw [if_neg (fun q => hne q.symm)]; exact if_pos rfl
      · intro a v hva
        match a, hva with
        | 0, hva => cases hva; rfl
        | 1, hva => cases hva; rfl
        | 2, hva => cases hva; rfl
        | 3, hva => cases hva; rfl
      · intro m hm
        simp only [methNames, List.mem_cons, List.not_mem_nil, or_false] at hm
        rcases hm with rfl | rfl | rfl | rfl | rfl <;> rfl
  · exact h.elim
end
end Mine
set_option maxRecDepth 100000
set_option maxHeartbeats 4000000
namespace Mine
open PySem PySem.W PyProof.Rows PySem.Calls

theorem zip_filterMap : ∀ {ns : List Str} {vals : List Value} {l : List (Str × Value)}, ns.Nodup → vals.length = ns.length → (∀ n v, (n, v) ∈ ns.zip vals → l.lookup n = some v) → ns.filterMap (fun n => (l.lookup n).map (n, ·)) = ns.zip vals
  | [], [], _, _, _, _ => rfl
  | n :: ns, v :: vs, l, hn, hl, h => by
    rw [List.filterMap_cons, h n v (by simp)]
    simp only [Option.map_some, List.zip_cons_cons]
    rw [zip_filterMap (List.nodup_cons.mp hn).2 (by simpa using hl) fun n v hm => h n v (by simp only [List.zip_cons_cons]; exact List.mem_cons_of_mem _ hm)]
  | [], _ :: _, _, _, hl, _ => by simp at hl
  | _ :: _, [], _, _, hl, _ => by simp at hl
theorem zip_lookup : ∀ {ns : List Str} {vals : List Value}, ns.Nodup → ∀ n v, (n, v) ∈ ns.zip vals → (ns.zip vals).lookup n = some v
  | [], _, _, _, _, h => by simp at h
  | _ :: _, [], _, _, _, h => by simp at h
  | m :: ns, u :: vs, hn, n, v, h => by
    simp only [List.zip_cons_cons, List.mem_cons] at h ⊢
    rcases h with h | h
    · cases h; simp
    · have hne : n ≠ m := fun e => (List.nodup_cons.mp hn).1 (e ▸ (List.of_mem_zip h).1)
      rw [List.lookup_cons, beq_eq_false_iff_ne.mpr hne]
      exact zip_lookup (List.nodup_cons.mp hn).2 n v h
theorem zip_has : ∀ {ns : List Str} {vals : List Value}, vals.length = ns.length → ∀ n ∈ ns, ∃ v, (n, v) ∈ ns.zip vals
  | [], _, _, _, h => by simp at h
  | m :: ns, [], hl, _, _ => by simp at hl
  | m :: ns, u :: vs, hl, n, h => by
    rcases List.mem_cons.mp h with rfl | h
    · exact ⟨u, by simp⟩
    · obtain ⟨v, hv⟩ := zip_has (vals := vs) (by simpa using hl) n h
      exact ⟨v, by simp [hv]⟩

theorem bindPlain {fd : FuncData} {ns : List Str} {vals : List Value} (h1 : fd.params.posonlyargs = []) (h2 : fd.params.args.map (·.arg) = ns) (h3 : fd.params.vararg = none) (h4 : fd.params.kwonlyargs = []) (h5 : fd.params.kwarg = none) (h6 : fd.defaults = .none)
    (hn : ns.Nodup) (hl : vals.length = ns.length) : bindArgs fd ⟨vals, []⟩ = pure (ns.zip vals) := by
  have hz := zip_lookup (ns := ns) (vals := vals) hn
  have hmiss : (ns.filter fun n => ((ns.zip vals).lookup n).isNone) = [] := by
    rw [List.filter_eq_nil_iff]
    intro n hm
    obtain ⟨v, hv⟩ := zip_has hl n hm
    rw [hz n v hv]; simp
  have hb := zip_filterMap (l := ns.zip vals) hn hl hz
  have hd : seqItems? Value.none = (pure none : Sem (Option (Array Value))) := rfl
  obtain ⟨f1, f2, ⟨p1, p2, p3, p4, p5, p6, p7⟩, f4, f5, f6, f7, f8, f9, f10, f11, f12, f13, f14, f15⟩ := fd
  dsimp only at h1 h2 h3 h4 h5 h6
  subst h1 h3 h4 h5 h6
  have pb : ∀ {α β : Type} (a : α) (f : α → Sem β), (pure a >>= f) = f a := fun _ _ => rfl
  unfold bindArgs
  dsimp only
  rw [hd, List.forIn_nil, pb, pb, List.map_nil, List.nil_append, List.append_nil, h2]
  refine (if_neg (by rw [hl]; simp)).trans ?_
  dsimp only [Option.getD_none]
  refine (if_neg (by rw [List.drop_nil, show List.take (ns.length - ([] : List Value).length) ns = ns from List.take_length, hmiss]; decide)).trans ?_
  rw [List.drop_nil, List.zip_nil_right, List.forIn_nil, pb, List.forIn_nil, pb]
  refine (if_neg Bool.false_ne_true).trans ?_
  rw [hb]

/-! what is looked up in the written part of the heap -/
noncomputable def clsOf (K : Frag) : Addr := match nsIn K mainGlobals (fnm 0) with
  | some (some (.ref a)) => a
  | _ => 0
noncomputable def fnvOf (K : Frag) (f : Nat) : Value :=
  if isMe f = true then (match findIn K (.ref (clsOf K)) (fnm f) with | some (some v) => v | _ => .none)
  else if f = 27 then .builtin "pow" else if f = 28 then .builtin "len"
  else (match nsIn K mainGlobals (fnm f) with | some (some v) => v | _ => .none)
noncomputable def paramsChk (fd : FuncData) (ps : List Nat) : Bool :=
  fd.params.posonlyargs.isEmpty && fd.params.args.map (·.arg) == ps.map nm && fd.params.vararg.isNone && fd.params.kwonlyargs.isEmpty && fd.params.kwarg.isNone && fd.defaults == .none && decide (ps.map nm).Nodup
noncomputable def fnChk (K : Frag) (v : Value) (ps : List Nat) (b : PSs) : Bool := match v with
  | .ref a => match K.lookup a with
    | some ⟨_, _, .func fd, _⟩ => (match fd.body with | .stmts body => chkSs fd.scope b body | _ => false) && fd.closure.isEmpty && fd.globals == mainGlobals && fd.builtins == builtinsNs && codeIn K fd.code fd.qualname && paramsChk fd ps && scopeOk fd.scope ps
    | _ => false
  | _ => false
theorem fnChk_ok {K : Frag} {fnv : Nat → Value} {f : Nat} {ps : List Nat} {b : PSs} (h : fnChk K (fnv f) ps b = true) : FnOk K fnv f ps b := by
  unfold fnChk at h
  split at h
  · rename_i a ha
    split at h
    · rename_i oc od fd osl ho
      simp only [Bool.and_eq_true] at h
      obtain ⟨⟨⟨⟨⟨⟨h1, h2⟩, h3⟩, h4⟩, h5⟩, h6⟩, h7⟩ := h
      split at h1
      · rename_i body hb
        unfold paramsChk at h6
        simp only [Bool.and_eq_true, decide_eq_true_eq] at h6
        obtain ⟨⟨⟨⟨⟨⟨p1, p2⟩, p3⟩, p4⟩, p5⟩, p6⟩, p7⟩ := h6
        refine ⟨⟨oc, od, osl, fd, body, a, ha, ho, hb, List.isEmpty_iff.mp h2, by simpa using h3, by simpa using h4, h5, fun vals hl => ?_, h1, h7⟩⟩
        exact bindPlain (List.isEmpty_iff.mp p1) (by simpa using p2) (by simpa using p3) (List.isEmpty_iff.mp p4) (by simpa using p5) (by simpa using p6) p7 (by simpa using hl)
      · cases h1
    · cases h
  · cases h
mutual
noncomputable def vrChk (K : Frag) : AV → Value → Bool
  | .int i, v => match v with
    | .int j _ => decide (i = j)
    | _ => false
  | .tup l, v => match v with
    | .ref a => match K.lookup a with
      | some ⟨c, _, .seq items _, _⟩ => c == .type "tuple" && vrsChk K l items.toList
      | _ => false
    | _ => false
  | _, _ => false
noncomputable def vrsChk (K : Frag) : List AV → List Value → Bool
  | [], vs => vs.isEmpty
  | d :: r, vs => match vs with
    | v :: us => vrChk K d v && vrsChk K r us
    | [] => false
end
mutual
theorem vrChk_ok {K : Frag} {C : Addr} {h₀ : Heap} {g : Gh} {ρ : List Addr} (X : K.In h₀) (hg : ∀ b o, h₀.get? b = some o → g b = some o) : ∀ (d : AV) (v : Value), vrChk K d v = true → VR C g ρ d v
  | .int i, v, h => by
    unfold vrChk at h
    split at h
    · simp only [decide_eq_true_eq] at h; subst h; exact ⟨_, rfl⟩
    · cases h
  | .tup l, v, h => by
    unfold vrChk at h
    split at h
    · rename_i a
      split at h
      · rename_i c od items n osl ho
        simp only [Bool.and_eq_true, beq_iff_eq] at h
        refine ⟨a, items.toList, rfl, ⟨_, hg _ _ (X _ _ ho), h.1, n, rfl⟩, vrsChk_ok X hg l items.toList h.2⟩
      · cases h
    · cases h
  | .none, _, h => by simp [vrChk] at h
  | .bool _, _, h => by simp [vrChk] at h
  | .lst _, _, h => by simp [vrChk] at h
  | .scr _, _, h => by simp [vrChk] at h
  | .curve _ _ _ _, _, h => by simp [vrChk] at h
theorem vrsChk_ok {K : Frag} {C : Addr} {h₀ : Heap} {g : Gh} {ρ : List Addr} (X : K.In h₀) (hg : ∀ b o, h₀.get? b = some o → g b = some o) : ∀ (d : List AV) (v : List Value), vrsChk K d v = true → VRs C g ρ d v
  | [], vs, h => by unfold vrsChk at h; exact List.isEmpty_iff.mp h
  | d :: r, vs, h => by
    unfold vrsChk at h
    split at h
    · simp only [Bool.and_eq_true] at h
      exact ⟨_, _, rfl, vrChk_ok X hg d _ h.1, vrsChk_ok X hg r _ h.2⟩
    · cases h
end
noncomputable def glChk (K : Frag) (f : Nat) : Bool := nsIn K mainGlobals (fnm f) == some (some (fnvOf K f)) && keepIn K (fnvOf K f)
noncomputable def meChk (K : Frag) (f : Nat) : Bool := match fnvOf K f with
  | .ref a => findIn K (.ref (clsOf K)) (fnm f) == some (some (.ref a)) && isFn K (.ref a) && keepIn K (.ref a)
  | _ => false
noncomputable def blChk (K : Frag) (f : Nat) : Bool := match fnvOf K f with
  | .builtin id => nsIn K mainGlobals (fnm f) == some Option.none && bootBuiltins (fnm f) == some (.builtin id)
  | _ => false
noncomputable def bodyChk (K : Frag) (f : Nat) : Bool := match bodyOf f with
  | some (ps, b) => fnChk K (fnvOf K f) ps b
  | Option.none => true
noncomputable def initBodyP (q1 q2 q3 q4 q5 q6 q7 q8 q9 q10 q11 q12 q13 q14 q15 q16 : Pos) : List Stmt :=
  [.Assign [.Attribute (.Name sSelf q1) sP q2] (.Name sP q3) q4, .Assign [.Attribute (.Name sSelf q5) sB q6] (.Name sB q7) q8, .Assign [.Attribute (.Name sSelf q9) sG q10] (.Name sG q11) q12, .Assign [.Attribute (.Name sSelf q13) sN q14] (.Name sN q15) q16]
noncomputable def stepChk (x : Str) (t : Stmt) : Bool := (asg1 t).any fun q => ((dName q.1.2).any fun n => n.1 == x) && (dAttr q.1.1).any fun u => u.1.2.1 == x && (dName u.1.1).any fun n => n.1 == sSelf
theorem stepChk_ok {x : Str} {t : Stmt} (h : stepChk x t = true) : ∃ q1 q2 q3 q4, t = .Assign [.Attribute (.Name sSelf q1) x q2] (.Name x q3) q4 := by
  obtain ⟨q, _, h⟩ := any_some h
  obtain ⟨p, hq⟩ := q.2
  obtain ⟨z, hz⟩ := dName_eq (an2 h).1
  obtain ⟨⟨u, hu⟩, _, h⟩ := any_some (an2 h).2
  obtain ⟨y, hy⟩ := dName_eq (e := u.1) (an2 h).2
  have k : u.2.1 = x := eq_of_beq (an2 h).1
  exact ⟨y, u.2.2, z, p, hq.trans (by rw [hz, hu, hy, k])⟩
noncomputable def initChk (K : Frag) : Bool :=
  makesIn K (clsOf K) && (match findIn K (.ref (clsOf K)) "__init__" with
    | some (some (.ref fI)) => typeIn K (.ref fI) == some (.type "function") && (match K.lookup fI with
      | some ⟨_, _, .func fd, _⟩ => (match fd.body with
        | .stmts [t1, t2, t3, t4] => stepChk sP t1 && stepChk sB t2 && stepChk sG t3 && stepChk sN t4
        | _ => false) && fd.closure.isEmpty && fd.globals == mainGlobals && fd.builtins == builtinsNs && codeIn K fd.code fd.qualname && fd.scope.kind == .function && !fd.scope.isCoroutine && !fd.scope.isGenerator && fd.scope.names.all (fun x => x.2 != .cell) &&
        [sSelf, sP, sB, sG, sN].all (fun n => fd.scope.names.lookup n == some .local) &&
        fd.params.posonlyargs.isEmpty && fd.params.args.map (·.arg) == [sSelf, sP, sB, sG, sN] && fd.params.vararg.isNone && fd.params.kwonlyargs.isEmpty && fd.params.kwarg.isNone && fd.defaults == .none
      | _ => false)
    | _ => false) &&
  findIn K (.ref (clsOf K)) "__setattr__" == some (some (.builtin "object.__setattr__")) && plainOver K (clsOf K) && [sP, sB, sG, sN].all (fun n => takerIn K (clsOf K) n == some Option.none) && hasDictIn K (clsOf K)
noncomputable def restChk (K : Frag) : Bool :=
  nsIn K mainGlobals rangeName == some Option.none && bootBuiltins rangeName == some (.type "range") && findIn K (.ref (clsOf K)) "__getattribute__" == some (some (.builtin "object.__getattribute__")) &&
  findIn K (.ref (clsOf K)) "__getattr__" == some Option.none && hasDictIn K (clsOf K) && (List.range 4).all (fun a => findIn K (.ref (clsOf K)) (fldm a) == some Option.none) &&
  (match nsIn K mainGlobals (glm 0) with | some (some v) => vrChk K curvesV v | _ => false) && fnvOf K 0 == .ref (clsOf K)
end Mine
set_option maxRecDepth 100000
set_option maxHeartbeats 4000000
namespace Mine
open PySem PySem.W PyProof.Rows PySem.Calls
section
variable {prog : Program} {w : World} {h₀ : Heap} {K : Frag}

theorem init_ok (X : K.In h₀) (hlim : h₀.NoLimit) (hc : initChk K = true) (h0 : fnvOf K 0 = .ref (clsOf K)) : ∀ A, OkA A → A.depth + 1 < recursionLimit → ∀ ds st Q g ρ s vs, mkW ds st Q → Rel (clsOf K) h₀ g ρ st s.heap → VRs (clsOf K) g ρ ds vs → wpAny (model prog w) A (call (fnvOf K 0) vs) (Post (clsOf K) h₀ g ρ s Q) NoE s := by
  intro A hA hroom ds st Q g ρ s vs h R hv
  rw [h0]
  unfold initChk at hc
  simp only [Bool.and_eq_true] at hc
  obtain ⟨⟨⟨⟨⟨c1, c2⟩, c3⟩, c4⟩, c5⟩, c6⟩ := hc
  split at c2
  · rename_i fI hfI
    simp only [Bool.and_eq_true, beq_iff_eq] at c2
    obtain ⟨d1, d2⟩ := c2
    split at d2
    · rename_i oc od fd osl ho
      simp only [Bool.and_eq_true, beq_iff_eq, Bool.not_eq_true'] at d2
      obtain ⟨⟨⟨⟨⟨⟨⟨⟨⟨⟨⟨⟨⟨⟨⟨e0, e1⟩, e2⟩, e3⟩, e4⟩, e5⟩, e6⟩, e7⟩, e8⟩, e9⟩, p1⟩, p2⟩, p3⟩, p4⟩, p5⟩, p6⟩ := d2
      split at e0
      · rename_i t1 t2 t3 t4 hb
        simp only [Bool.and_eq_true] at e0
        obtain ⟨⟨⟨s1, s2⟩, s3⟩, s4⟩ := e0
        obtain ⟨q1, q2, q3, q4, rfl⟩ := stepChk_ok s1
        obtain ⟨q5, q6, q7, q8, rfl⟩ := stepChk_ok s2
        obtain ⟨q9, q10, q11, q12, rfl⟩ := stepChk_ok s3
        obtain ⟨q13, q14, q15, q16, rfl⟩ := stepChk_ok s4
        have hbind : ∀ v0 v1 v2 v3 v4 : Value, bindArgs fd ⟨[v0, v1, v2, v3, v4], []⟩ = pure [(sSelf, v0), (sP, v1), (sB, v2), (sG, v3), (sN, v4)] := fun v0 v1 v2 v3 v4 =>
          bindPlain (ns := [sSelf, sP, sB, sG, sN]) (List.isEmpty_iff.mp p1) p2 (by simpa using p3) (List.isEmpty_iff.mp p4) (by simpa using p5) p6 (by decide) rfl
        have hcell : ∀ x ∈ fd.scope.names, x.2 ≠ .cell := fun x hx => by simpa using List.all_eq_true.mp e8 x hx
        have hloc : ∀ n ∈ [sSelf, sP, sB, sG, sN], fd.scope.names.lookup n = some .local := fun n hn => by simpa using List.all_eq_true.mp e9 n hn
        have htk : ∀ n ∈ [sP, sB, sG, sN], takerIn K (clsOf K) n = some Option.none := fun n hn => by simpa using List.all_eq_true.mp c5 n hn
        have e1' := List.isEmpty_iff.mp e1
        cases fd
        dsimp only at hb e1' e2 e3 e4 e5 e6 e7 hcell hloc hbind
        subst hb e1' e2 e3
        exact makeSound X hlim c1 hfI d1 ho e4 hbind e5 e6 e7 hcell hloc (beq_iff_eq.mp c3) c4 htk c6 hroom h R hv
      · cases e0
    · cases d2
  · cases c2

theorem base_of {mg mb : Str → Option Value} (X : K.In h₀) (hmg : h₀.Ns mainGlobals mg) (hmb : h₀.Ns builtinsNs mb) (hb : ∀ x : Str, x ≠ "__name__" → mb x = bootBuiltins x) (hlim : h₀.NoLimit)
    (c1 : ((List.range 29).all fun f => !isGl f || glChk K f) = true) (c2 : ((List.range 29).all fun f => !isMe f || meChk K f) = true) (c3 : ((List.range 29).all fun f => !isBl f || blChk K f) = true)
    (c4 : ((List.range 29).all fun f => bodyChk K f) = true) (c5 : initChk K = true) (c6 : restChk K = true) : Base prog w (clsOf K) h₀ K (fnvOf K) := by
  unfold restChk at c6
  simp only [Bool.and_eq_true, beq_iff_eq] at c6
  obtain ⟨⟨⟨⟨⟨⟨⟨r1, r2⟩, r3⟩, r4⟩, r5⟩, r6⟩, r7⟩, r8⟩ := c6
  have lt29 : ∀ {f}, (isGl f = true ∨ isMe f = true ∨ isBl f = true) → f ∈ List.range 29 := fun {f} h => by
    unfold isGl isMe isBl at h
    simp only [Bool.or_eq_true, Bool.and_eq_true, beq_iff_eq, decide_eq_true_eq] at h
    rw [List.mem_range]; omega
  refine ⟨X, ⟨mg, hmg⟩, ⟨mb, hmb, hb⟩, ⟨fun f hf => ?_, fun f hf => ?_, fun f hf => ?_, ⟨r1, r2⟩, r3, r4, r5, fun a ha => ?_⟩, hlim, fun x d hx => ?_, rfl, rfl, fun f ps b hf => ?_, init_ok X hlim c5 r8⟩
  · have := List.all_eq_true.mp c1 f (lt29 (.inl hf))
    rw [hf] at this
    unfold glChk at this
    simpa using this
  · have := List.all_eq_true.mp c2 f (lt29 (.inr (.inl hf)))
    rw [hf] at this
    unfold meChk at this
    simp only [Bool.not_true, Bool.false_or] at this
    split at this
    · rename_i a ha
      simp only [Bool.and_eq_true, beq_iff_eq] at this
      exact ⟨a, ha, this.1.1, this.1.2, this.2⟩
    · cases this
  · have := List.all_eq_true.mp c3 f (lt29 (.inr (.inr hf)))
    rw [hf] at this
    unfold blChk at this
    simp only [Bool.not_true, Bool.false_or] at this
    split at this
    · rename_i id ha
      simp only [Bool.and_eq_true, beq_iff_eq] at this
      exact ⟨id, ha, this.1, this.2⟩
    · cases this
  · simpa using List.all_eq_true.mp r6 a (List.mem_range.mpr ha)
  · unfold globV at hx
    split at hx
    · cases hx
      split at r7
      · rename_i v hv
        exact ⟨v, hv, fun g ρ hg => vrChk_ok X hg _ _ r7⟩
      · cases r7
    · cases hx
  · have hlt : f < 29 := by
      cases f with
      | zero => decide
      | succ f => exact Nat.lt_of_lt_of_le (Nat.succ_lt_succ (List.getElem?_eq_some_iff.mp (show bodies[f]? = some (ps, b) from hf)).1) (by decide)
    have := List.all_eq_true.mp c4 f (List.mem_range.mpr hlt)
    unfold bodyChk at this
    rw [hf] at this
    exact fnChk_ok this

/-- the law's own frame -/
theorem lawTop {m : Str → Option Value} (B : Base prog w (clsOf K) h₀ K (fnvOf K)) {ns : List Int} {l : Addr} {vs : List Value} (hL : h₀.IsList l vs.toArray) (hI : IntsAre vs ns)
    {name : Str} {body : List Stmt} {scope : Scope} {L a : Addr} {cd : Value} {s : Shared} (hc : chkSs scope b_law body = true) (hk : scope.kind = .function) (hcell : scope.names.all (fun x => x.2 != .cell) = true) (hsl : scope.names.lookup (nm 36) = some .local)
    (F : Fr h₀ L s.heap m) (hLn : h₀.get? L = none) (hm : m (nm 36) = some (.ref l)) (law : fnW ⟨callW 9, globV⟩ a_law b_law [.scr ns] [] fun d _ => d = .bool true) {E : Value → Shared → Prop} {Q : Flow → Shared → Prop}
    (h : ∀ h' tk, (∀ b o, h₀.get? b = some o → h'.get? b = some o) → Q (.ret (.bool true)) { s with heap := h', toks := tk }) :
    wpAny (model prog w) (callerA.deeper (envOf name scope L a cd)) (execs body (envOf name scope L a cd)) Q E s := by
  have hA : OkN 9 (callerA.deeper (envOf name scope L a cd)) := ⟨rfl, (by show 4 + 3 + 80 + 3 * 9 < cLine; decide), (by show 1 + claimMargin + 1 + 9 + 1 < recursionLimit; decide)⟩
  have W : Wd prog w (callerA.deeper (envOf name scope L a cd)) (clsOf K) h₀ K (fnvOf K) ⟨callW 9, globV⟩ := ⟨hA.ok, B.kin, B.mg, B.mb, B.kf, B.glob, fun f ds st Q g ρ s vs h R hv => callSndW B 9 _ hA f ds st Q g ρ s vs h R hv⟩
  have R : Rel (clsOf K) h₀ (fun b => h₀.get? b) [] [] s.heap := ⟨fun _ _ e => e, F.keep, List.nodup_nil, fun a h => absurd h List.not_mem_nil, rfl, fun i l e => by simp at e⟩
  have hno : ∀ n, scope.names.lookup n ≠ some .cell := fun n hn => by
    have := List.all_eq_true.mp hcell _ (mem_of_lookup' hn)
    simp at this
  have F1 : FR (fun b => h₀.get? b) (envOf name scope L a cd) s.heap := ⟨hk, rfl, rfl, ⟨m, F.ns⟩, hLn, fun n hn => absurd hn (hno n), fun n c e => (by cases (show (none : Option Addr) = some c from e)), List.Pairwise.nil, fun n c c' h => absurd h List.not_mem_nil⟩
  obtain ⟨o, ho, hc1, n, hd⟩ := hL
  have V1 : Vars (clsOf K) (fun b => h₀.get? b) [] (envOf name scope L a cd) s.heap [(36, .scr ns)] := by
    intro x d hx
    rw [look_cons] at hx
    split at hx
    · rename_i e
      cases hx
      subst e
      exact ⟨by decide, .ref l, .inl ⟨hsl, m, F.ns, hm⟩, l, vs, rfl, ⟨o, ho, hc1, n, hd⟩, hI⟩
    · cases hx
  have hS : SEnv scope (envOf name scope L a cd) := fun n k _ hl => hl
  have law2 : execsW ⟨callW 9, globV⟩ b_law [(36, .scr ns)] [] fun r _ _ => r.getD .none = .bool true := law
  refine wp_false (wpAny_mono (execsS W b_law body scope _ hc hS [(36, .scr ns)] [] _ _ [] s F1 V1 R law2) (fun f s2 P => ?_) fun _ _ x => x)
  obtain ⟨h2, tk2, g2, ρ2, st2, loc2, rfl, S2, R2, F2, V2, hf⟩ := P
  have keep : ∀ b o, h₀.get? b = some o → h2.get? b = some o := fun b o e => R2.base b o (R2.base0 b o e)
  rcases hf with ⟨rfl, hq⟩ | ⟨v, d, rfl, hv, hq⟩
  · cases hq
  · have hq' : d = .bool true := hq
    subst hq'
    rw [show v = .bool true from hv]
    exact h h2 tk2 keep
end
end Mine
set_option maxRecDepth 100000
set_option maxHeartbeats 4000000
set_option linter.unusedSimpArgs false
set_option exponentiation.threshold 300
namespace Mine
open PySem PySem.W PyProof.Rows

theorem eqO_int (st : St) (i j : Int) : eqO st (.int i) (.int j) = some (decide (i = j)) := rfl
theorem cmp_eq_int (st : St) (i j : Int) : cmpO .Eq st (.int i) (.int j) = some (decide (i = j)) := rfl
theorem cmp_lt_int (st : St) (i j : Int) : cmpO .Lt st (.int i) (.int j) = some (decide (i < j)) := rfl
theorem cmp_le_int (st : St) (i j : Int) : cmpO .LtE st (.int i) (.int j) = some (decide (i ≤ j)) := rfl
theorem cmp_gt_int (st : St) (i j : Int) : cmpO .Gt st (.int i) (.int j) = some (decide (i > j)) := rfl
theorem cmp_ge_int (st : St) (i j : Int) : cmpO .GtE st (.int i) (.int j) = some (decide (i ≥ j)) := rfl
theorem cmp_is_nn (st : St) : cmpO .Is st .none .none = some true := rfl
theorem cmp_is_tn (st : St) (l : List AV) : cmpO .Is st (.tup l) .none = some false := rfl
theorem cmp_isnot_nn (st : St) : cmpO .IsNot st .none .none = some false := rfl
theorem cmp_isnot_tn (st : St) (l : List AV) : cmpO .IsNot st (.tup l) .none = some true := rfl

section
variable {st : St} {Q : AV → St → Prop} {k : Bool → Prop} {i j : Int}
theorem cw_eq : cmpW .Eq (.int i) (.int j) st k = k (decide (i = j)) := rfl
theorem cw_ne : cmpW .NotEq (.int i) (.int j) st k = k (!decide (i = j)) := rfl
theorem cw_lt : cmpW .Lt (.int i) (.int j) st k = k (decide (i < j)) := rfl
theorem cw_le : cmpW .LtE (.int i) (.int j) st k = k (decide (i ≤ j)) := rfl
theorem cw_gt : cmpW .Gt (.int i) (.int j) st k = k (decide (i > j)) := rfl
theorem cw_ge : cmpW .GtE (.int i) (.int j) st k = k (decide (i ≥ j)) := rfl
theorem cw_is_nn : cmpW .Is .none .none st k = k true := rfl
theorem cw_is_tn {l : List AV} : cmpW .Is (.tup l) .none st k = k false := rfl
theorem cw_isnot_nn : cmpW .IsNot .none .none st k = k false := rfl
theorem cw_isnot_tn {l : List AV} : cmpW .IsNot (.tup l) .none st k = k true := rfl
theorem bw_add : binW .Add (.int i) (.int j) st Q = Q (.int (i + j)) st := rfl
theorem bw_sub : binW .Sub (.int i) (.int j) st Q = Q (.int (i - j)) st := rfl
theorem bw_mul : binW .Mult (.int i) (.int j) st Q = (Small i ∧ Small j ∧ Q (.int (i * j)) st) := rfl
theorem bw_mod : binW .Mod (.int i) (.int j) st Q = (0 < j ∧ Q (.int (i % j)) st) := rfl
theorem bw_fdiv : binW .FloorDiv (.int i) (.int j) st Q = (0 < j ∧ j < 1000000 ∧ Q (.int (i / j)) st) := rfl
theorem bw_pow : binW .Pow (.int i) (.int j) st Q = (0 ≤ j ∧ j ≤ 1000000 ∧ i.natAbs < 2 ^ 64 ∧ Q (.int (i ^ j.toNat)) st) := rfl
theorem bw_lsh : binW .LShift (.int i) (.int j) st Q = (0 ≤ j ∧ j ≤ 1000000 ∧ i.natAbs < 2 ^ 64 ∧ Q (.int (i * 2 ^ j.toNat)) st) := rfl
theorem bw_rsh : binW .RShift (.int i) (.int j) st Q = (0 ≤ j ∧ Q (.int (i / 2 ^ j.toNat)) st) := rfl
theorem bw_and : binW .BitAnd (.int i) (.int j) st Q = Q (.int (Builtin.bitAnd i j)) st := rfl
theorem at_p {p b n : Int} {g : AV} : attrW 0 (.curve p b g n) st Q = Q (.int p) st := rfl
theorem at_b {p b n : Int} {g : AV} : attrW 1 (.curve p b g n) st Q = Q (.int b) st := rfl
theorem at_g {p b n : Int} {g : AV} : attrW 2 (.curve p b g n) st Q = Q g st := rfl
theorem at_n {p b n : Int} {g : AV} : attrW 3 (.curve p b g n) st Q = Q (.int n) st := rfl
theorem bt_name {x : Nat} {d : AV} {loc : Loc} : bindT false (.name x) d loc = some (upd loc x d) := rfl
theorem bt_names {xs : List Nat} {ds : List AV} {loc : Loc} : bindT false (.names xs) (.tup ds) loc = bindNames xs ds loc := rfl
theorem bt_swap {xs : List Nat} {ds : List AV} {loc : Loc} : bindT true (.names xs) (.tup ds) loc = bindNames xs.reverse ds.reverse loc := rfl
theorem bt_nest {xss : List (List Nat)} {ds : List AV} {loc : Loc} : bindT false (.nest xss) (.tup ds) loc = bindNest xss ds loc := rfl
end

theorem sub_tup (l : List AV) (k : Int) (st : St) (Q : AV → St → Prop) : subW (.tup l) (.int k) st Q = (match place k l.length with
    | some j => match l[j]? with
      | some d => Q d st
      | Option.none => False
    | Option.none => False) := rfl
theorem pl0_2 : place 0 2 = some 0 := rfl
theorem pl1_2 : place 1 2 = some 1 := rfl
theorem pl0_3 : place 0 3 = some 0 := rfl
theorem pl1_3 : place 1 3 = some 1 := rfl
theorem pl2_3 : place 2 3 = some 2 := rfl
/-! statement by statement: the rest of the text stays folded -/
noncomputable def ctd (T : Prims) (r : PSs) (Q : Ends) : Ends := fun f loc st => match f with
  | Option.none => execsW T r loc st Q
  | some d => Q (some d) loc st
section
variable {T : Prims} {s : PS} {r : PSs} {Q : Ends} {loc : Loc} {st : St} {d : AV}
theorem ex_cons (h : execW T s loc st (ctd T r Q)) : execsW T (.cons s r) loc st Q := h
theorem ct_none (h : execsW T r loc st Q) : ctd T r Q Option.none loc st := h
theorem ct_some (h : Q (some d) loc st) : ctd T r Q (some d) loc st := h
theorem ex_nil (h : Q Option.none loc st) : execsW T .nil loc st Q := h
end
theorem rev2 {α : Type} {a b : α} : [a, b].reverse = [b, a] := rfl
theorem rev3 {α : Type} {a b c : α} : [a, b, c].reverse = [c, b, a] := rfl
theorem lk_eq {l : Loc} {x : Nat} {d : AV} : look (upd l x d) x = some d := (look_upd l x).trans (if_pos rfl)
theorem lk_ne {l : Loc} {x y : Nat} {d e : AV} (h : look l y = some e) (n : Nat.beq x y = false) : look (upd l x d) y = some e :=
  (look_upd l y).trans ((if_neg (Nat.ne_of_beq_eq_false n)).trans h)
theorem lk_m {K : AV → Prop} {o : Option AV} {d : AV} (h : o = some d) (k : K d) : (match (generalizing := false) o with | some d => K d | Option.none => False) := by rw [h]; exact k
theorem lm_l {K : List AV → Prop} {o : Option (List AV)} {d : List AV} (h : o = some d) (k : K d) : (match (generalizing := false) o with | some d => K d | Option.none => False) := by rw [h]; exact k
theorem lc_m {K : Loc → Prop} {o : Option Loc} {d : Loc} (h : o = some d) (k : K d) : (match (generalizing := false) o with | some d => K d | Option.none => False) := by rw [h]; exact k
theorem cap_cons {loc l : Loc} {c : Nat} {r : List Nat} {d : AV} (h : look loc c = some d) (k : capture loc r = some l) : capture loc (c :: r) = some ((c, d) :: l) := by unfold capture; rw [h, k]
theorem not_t : (!true) = false := rfl
theorem not_f : (!false) = true := rfl
theorem gc0 {α : Type} {a : α} {l : List α} : (a :: l)[0]? = some a := rfl
theorem gc1 {α : Type} {a : α} {l : List α} {i : Nat} : (a :: l)[i + 1]? = l[i]? := rfl
theorem ln0 {α : Type} : ([] : List α).length = 0 := rfl
theorem ln1 {α : Type} {a : α} {l : List α} : (a :: l).length = l.length + 1 := rfl
theorem gd0 {α : Type} {a : α} : (Option.none : Option α).getD a = a := rfl
theorem gd1 {α : Type} {a b : α} : (some a).getD b = a := rfl
theorem ap0 {α : Type} {l : List α} : [] ++ l = l := rfl
theorem ap1 {α : Type} {a : α} {l m : List α} : (a :: l) ++ m = a :: (l ++ m) := rfl
theorem ite_tt {A B : Prop} : (if true = true then A else B) = A := rfl
theorem ite_ff {A B : Prop} : (if false = true then A else B) = B := rfl
theorem ite_dec {p : Prop} [Decidable p] {A B : Prop} (h : if p then A else B) : if decide p = true then A else B := by
  by_cases q : p
  · rw [if_pos (decide_eq_true q)]; rwa [if_pos q] at h
  · rw [if_neg (fun x => q (of_decide_eq_true x))]; rwa [if_neg q] at h
theorem ite_ndec {p : Prop} [Decidable p] {A B : Prop} (h : if p then B else A) : if (!decide p) = true then A else B := by
  by_cases q : p
  · rw [if_pos q] at h; rw [decide_eq_true q]; exact h
  · rw [if_neg q] at h; rw [decide_eq_false q]; exact h
theorem ite_neq {p : Prop} [Decidable p] {A B : Prop} (h : if p then B else A) : if ¬p then A else B := by
  by_cases q : p
  · rw [if_neg (fun x => x q)]; rwa [if_pos q] at h
  · rw [if_pos q]; rwa [if_neg q] at h
theorem br_t {c : Prop} [Decidable c] {A B : Prop} (h : c) (k : A) : if c then A else B := by rwa [if_pos h]
theorem br_f {c : Prop} [Decidable c] {A B : Prop} (h : ¬c) (k : B) : if c then A else B := by rwa [if_neg h]
theorem and_le {a b : Nat} {P : Prop} (h : Nat.ble a b = true) (k : P) : a ≤ b ∧ P := ⟨Nat.le_of_ble_eq_true h, k⟩
theorem and_tr {P : Prop} (k : P) : True ∧ P := ⟨trivial, k⟩

/-- a is below 2^(300 2^j) -/
noncomputable def Bn (j : Nat) (a : Int) : Prop := a.natAbs < 2 ^ (300 * 2 ^ j)
noncomputable def Bd (a : Int) : Prop := a.natAbs < 2 ^ 300
theorem pow_two_mono {i j : Nat} (h : i ≤ j) : 2 ^ i ≤ 2 ^ j := Nat.pow_le_pow_right (by decide) h
theorem Bn.base {j : Nat} {a : Int} (h : Bd a) : Bn j a := by
  unfold Bd at h; unfold Bn
  refine Nat.lt_of_lt_of_le h (pow_two_mono ?_)
  exact Nat.le_mul_of_pos_right _ (Nat.pow_pos (by decide))
theorem Bn.small {a : Int} (h : Bn 8 a) : Small a := by
  unfold Bn at h; unfold Small
  exact Nat.lt_of_lt_of_le h (pow_two_mono (by decide))
theorem Bn.mul {j : Nat} {a b : Int} (h : Bn j a) (k : Bn j b) : Bn (j + 1) (a * b) := by
  unfold Bn at *
  rw [Int.natAbs_mul, show 300 * 2 ^ (j + 1) = 300 * 2 ^ j + 300 * 2 ^ j by rw [Nat.pow_succ]; omega, Nat.pow_add]
  exact Nat.mul_lt_mul_of_lt_of_le h (Nat.le_of_lt k) (Nat.pow_pos (by decide))
theorem Bn.double (j : Nat) : 2 * 2 ^ (300 * 2 ^ j) ≤ 2 ^ (300 * 2 ^ (j + 1)) := by
  rw [← Nat.pow_succ']
  refine pow_two_mono ?_
  have : 0 < 2 ^ j := Nat.pow_pos (by decide)
  rw [Nat.pow_succ]; omega
theorem Bn.add {j : Nat} {a b : Int} (h : Bn j a) (k : Bn j b) : Bn (j + 1) (a + b) := by
  have := Bn.double j
  unfold Bn at *
  omega
theorem Bn.sub {j : Nat} {a b : Int} (h : Bn j a) (k : Bn j b) : Bn (j + 1) (a - b) := by
  have := Bn.double j
  unfold Bn at *
  omega
theorem Bn.neg {j : Nat} {a : Int} (h : Bn j a) : Bn j (-a) := by unfold Bn at *; rwa [Int.natAbs_neg]
theorem Bn.mod {j : Nat} {a p : Int} (hp : 0 < p) (h : Bd p) : Bn j (a % p) := by
  refine Bn.base ?_
  unfold Bd at *
  have h1 := Int.emod_nonneg a (Int.ne_of_gt hp)
  have h2 := Int.emod_lt_of_pos a hp
  omega
theorem Bn.lit {j : Nat} {a : Int} (h : decide (a.natAbs < 2 ^ 300) = true) : Bn j a := Bn.base (by unfold Bd; exact of_decide_eq_true h)

noncomputable def t3 (x y z : Int) : AV := .tup [.int x, .int y, .int z]
noncomputable def wdbl (p x y z : Int) : Int × Int × Int :=
  if y = 0 ∨ z = 0 then (1, 1, 0) else
  let square := y * y % p
  let middle := 4 * x * square % p
  let slope := 3 * x * x % p
  let far := (slope * slope - 2 * middle) % p
  (far, (slope * (middle - far) - 8 * square * square) % p, 2 * y * z % p)
noncomputable def t3' (t : Int × Int × Int) : AV := .tup [.int t.1, .int t.2.1, .int t.2.2]

theorem callW_fn {n f : Nat} {ps : List Nat} {b : PSs} {ds : List AV} {st : St} {Q : AV → St → Prop} (h0 : f ≠ 0) (h1 : f ≠ 27) (h2 : f ≠ 28) (hb : bodyOf f = some (ps, b)) (h : fnW ⟨callW n, globV⟩ ps b ds st Q) : callW (n + 1) f ds st Q := by
  rw [callW_eq]
  unfold callR
  rw [if_neg h0, if_neg h1, if_neg h2, hb, ← callW_eq]
  exact h

theorem c_wide_doubled (n : Nat) {x y z p : Int} {st : St} {Q : AV → St → Prop} (hp : 0 < p) (bp : Bd p) (bx : Bd x) (by' : Bd y) (bz : Bd z) (h : Q (t3' (wdbl p x y z)) st) : callW (n + 1) 6 [.tup [.int x, .int y, .int z], .int p] st Q := by
  refine callW_fn (by decide) (by decide) (by decide) rfl ?_
  delta a_wide_doubled b_wide_doubled
  (repeat (first | (with_reducible first | refine ct_none ?_ | refine ct_some ?_ | refine ex_cons ?_ | refine ex_nil ?_ | refine ite_dec ?_ | refine ite_ndec ?_ | refine and_le rfl ?_ | refine and_tr ?_) | dsimp only [fnW, bindNames, bindNest, upd, look, Nat.reduceBEq, cond_true, cond_false, execW, evalW, evalsW, orW, andW, chainW, bt_name, bt_names, bt_swap, bt_nest, cw_eq, cw_ne, cw_lt, cw_le, cw_gt, cw_ge, cw_is_nn, cw_is_tn, cw_isnot_nn, cw_isnot_tn, bw_add, bw_sub, bw_mul, bw_mod, bw_fdiv, bw_pow, bw_lsh, bw_rsh, bw_and, tob_bool, toi_int, ite_tt, ite_ff, ln1, ln0, gd1, gd0, rev2, rev3, ap0, ap1, not_t, not_f, at_p, at_b, at_g, at_n, isCurve_curve, Nat.reduceAdd, sub_tup, pl0_2, pl1_2, pl0_3, pl1_3, pl2_3, gc1, gc0]))
  unfold wdbl at h
  by_cases hy : y = 0
  · rw [if_pos (.inl hy)] at h; refine br_t (hy) ?_; (repeat (first | (with_reducible first | refine ct_none ?_ | refine ct_some ?_ | refine ex_cons ?_ | refine ex_nil ?_ | refine ite_dec ?_ | refine ite_ndec ?_ | refine and_le rfl ?_ | refine and_tr ?_) | dsimp only [fnW, bindNames, bindNest, upd, look, Nat.reduceBEq, cond_true, cond_false, execW, evalW, evalsW, orW, andW, chainW, bt_name, bt_names, bt_swap, bt_nest, cw_eq, cw_ne, cw_lt, cw_le, cw_gt, cw_ge, cw_is_nn, cw_is_tn, cw_isnot_nn, cw_isnot_tn, bw_add, bw_sub, bw_mul, bw_mod, bw_fdiv, bw_pow, bw_lsh, bw_rsh, bw_and, tob_bool, toi_int, ite_tt, ite_ff, ln1, ln0, gd1, gd0, rev2, rev3, ap0, ap1, not_t, not_f, at_p, at_b, at_g, at_n, isCurve_curve, Nat.reduceAdd, sub_tup, pl0_2, pl1_2, pl0_3, pl1_3, pl2_3, gc1, gc0])); exact h
  · refine br_f (hy) ?_; (repeat (first | (with_reducible first | refine ct_none ?_ | refine ct_some ?_ | refine ex_cons ?_ | refine ex_nil ?_ | refine ite_dec ?_ | refine ite_ndec ?_ | refine and_le rfl ?_ | refine and_tr ?_) | dsimp only [fnW, bindNames, bindNest, upd, look, Nat.reduceBEq, cond_true, cond_false, execW, evalW, evalsW, orW, andW, chainW, bt_name, bt_names, bt_swap, bt_nest, cw_eq, cw_ne, cw_lt, cw_le, cw_gt, cw_ge, cw_is_nn, cw_is_tn, cw_isnot_nn, cw_isnot_tn, bw_add, bw_sub, bw_mul, bw_mod, bw_fdiv, bw_pow, bw_lsh, bw_rsh, bw_and, tob_bool, toi_int, ite_tt, ite_ff, ln1, ln0, gd1, gd0, rev2, rev3, ap0, ap1, not_t, not_f, at_p, at_b, at_g, at_n, isCurve_curve, Nat.reduceAdd, sub_tup, pl0_2, pl1_2, pl0_3, pl1_3, pl2_3, gc1, gc0]))
    by_cases hz : z = 0
    · rw [if_pos (.inr hz)] at h; refine br_t (hz) ?_; (repeat (first | (with_reducible first | refine ct_none ?_ | refine ct_some ?_ | refine ex_cons ?_ | refine ex_nil ?_ | refine ite_dec ?_ | refine ite_ndec ?_ | refine and_le rfl ?_ | refine and_tr ?_) | dsimp only [fnW, bindNames, bindNest, upd, look, Nat.reduceBEq, cond_true, cond_false, execW, evalW, evalsW, orW, andW, chainW, bt_name, bt_names, bt_swap, bt_nest, cw_eq, cw_ne, cw_lt, cw_le, cw_gt, cw_ge, cw_is_nn, cw_is_tn, cw_isnot_nn, cw_isnot_tn, bw_add, bw_sub, bw_mul, bw_mod, bw_fdiv, bw_pow, bw_lsh, bw_rsh, bw_and, tob_bool, toi_int, ite_tt, ite_ff, ln1, ln0, gd1, gd0, rev2, rev3, ap0, ap1, not_t, not_f, at_p, at_b, at_g, at_n, isCurve_curve, Nat.reduceAdd, sub_tup, pl0_2, pl1_2, pl0_3, pl1_3, pl2_3, gc1, gc0])); exact h
    · rw [if_neg (fun q => q.elim hy hz)] at h
      refine br_f (hz) ?_; (repeat (first | (with_reducible first | refine ct_none ?_ | refine ct_some ?_ | refine ex_cons ?_ | refine ex_nil ?_ | refine ite_dec ?_ | refine ite_ndec ?_ | refine and_le rfl ?_ | refine and_tr ?_) | dsimp only [fnW, bindNames, bindNest, upd, look, Nat.reduceBEq, cond_true, cond_false, execW, evalW, evalsW, orW, andW, chainW, bt_name, bt_names, bt_swap, bt_nest, cw_eq, cw_ne, cw_lt, cw_le, cw_gt, cw_ge, cw_is_nn, cw_is_tn, cw_isnot_nn, cw_isnot_tn, bw_add, bw_sub, bw_mul, bw_mod, bw_fdiv, bw_pow, bw_lsh, bw_rsh, bw_and, tob_bool, toi_int, ite_tt, ite_ff, ln1, ln0, gd1, gd0, rev2, rev3, ap0, ap1, not_t, not_f, at_p, at_b, at_g, at_n, isCurve_curve, Nat.reduceAdd, sub_tup, pl0_2, pl1_2, pl0_3, pl1_3, pl2_3, gc1, gc0]))
      (repeat (first | (with_reducible refine And.intro (by first | with_reducible assumption | (refine Bn.small ?_; (repeat' first | (with_reducible refine Bn.base ?_; with_reducible assumption) | with_reducible refine Bn.mul ?_ ?_ | with_reducible refine Bn.add ?_ ?_ | with_reducible refine Bn.sub ?_ ?_ | with_reducible refine Bn.neg ?_ | (with_reducible refine Bn.mod ?_ (by with_reducible assumption); first | with_reducible assumption | omega) | exact Bn.lit (by decide)); done) | omega) ?_) | (with_reducible first | refine ct_none ?_ | refine ct_some ?_ | refine ex_cons ?_ | refine ex_nil ?_ | refine ite_dec ?_ | refine ite_ndec ?_ | refine and_le rfl ?_ | refine and_tr ?_) | dsimp only [fnW, bindNames, bindNest, upd, look, Nat.reduceBEq, cond_true, cond_false, execW, evalW, evalsW, orW, andW, chainW, bt_name, bt_names, bt_swap, bt_nest, cw_eq, cw_ne, cw_lt, cw_le, cw_gt, cw_ge, cw_is_nn, cw_is_tn, cw_isnot_nn, cw_isnot_tn, bw_add, bw_sub, bw_mul, bw_mod, bw_fdiv, bw_pow, bw_lsh, bw_rsh, bw_and, tob_bool, toi_int, ite_tt, ite_ff, ln1, ln0, gd1, gd0, rev2, rev3, ap0, ap1, not_t, not_f, at_p, at_b, at_g, at_n, isCurve_curve, Nat.reduceAdd, sub_tup, pl0_2, pl1_2, pl0_3, pl1_3, pl2_3, gc1, gc0]))
      exact h
end Mine
set_option maxRecDepth 100000
set_option maxHeartbeats 4000000
set_option linter.unusedSimpArgs false
set_option linter.unusedVariables false
set_option exponentiation.threshold 300
namespace Mine
open PySem PySem.W PyProof.Rows

noncomputable def pmod (a e m : Int) : Int := (Builtin.powMod (a % m).toNat e.natAbs m.natAbs : Nat)
theorem c_pow (n : Nat) {a e m : Int} {st : St} {Q : AV → St → Prop} (he : 0 ≤ e) (hm : 1 < m) (h : Q (.int (pmod a e m)) st) : callW (n + 1) 27 [.int a, .int e, .int m] st Q := by
  rw [callW_eq]; unfold callR
  rw [if_neg (by decide), if_pos rfl]
  exact ⟨he, hm, h⟩
theorem c_len (n : Nat) {i : Nat} {l : List AV} {st : St} {Q : AV → St → Prop} (hi : st[i]? = some l) (hl : l.length ≤ 1000) (h : Q (.int (l.length : Nat)) st) : callW (n + 1) 28 [.lst i] st Q := by
  rw [callW_eq]; unfold callR
  rw [if_neg (by decide), if_neg (by decide), if_pos rfl]
  unfold lenW
  simp only [hi]
  exact ⟨hl, h⟩
theorem c_curve (n : Nat) {p b m : Int} {g : AV} {st : St} {Q : AV → St → Prop} (h : Q (.curve p b g m) st) : callW (n + 1) 0 [.int p, .int b, g, .int m] st Q := by
  rw [callW_eq]; unfold callR
  rw [if_pos rfl]
  exact h
theorem foldl_lt (b e m : Nat) (hm : 0 < m) : ∀ (l : List Nat) (a : Nat), a < m → l.foldl (fun p i => if e.testBit i then p * p % m * b % m else p * p % m) a < m
  | [], a, h => h
  | i :: l, a, h => by
    rw [List.foldl_cons]
    refine foldl_lt b e m hm l _ ?_
    split <;> exact Nat.mod_lt _ hm
theorem pmod_lo (a e m : Int) : 0 ≤ pmod a e m := Int.natCast_nonneg _
theorem pmod_hi {a e m : Int} (hm : 1 < m) : pmod a e m < m := by
  unfold pmod Builtin.powMod
  have := foldl_lt (a % m).toNat e.natAbs m.natAbs (by omega) (List.range (Builtin.Int.intBits (e.natAbs : Int))).reverse (1 % m.natAbs) (Nat.mod_lt _ (by omega))
  omega
theorem bd_pmod {a e m : Int} (hm : 1 < m) (hb : Bd m) : Bd (pmod a e m) := by
  have h1 := pmod_lo a e m
  have h2 := pmod_hi (a := a) (e := e) hm
  unfold Bd at *
  omega
theorem bd_mod {a p : Int} (hp : 0 < p) (h : Bd p) : Bd (a % p) := by
  unfold Bd at *
  have h1 := Int.emod_nonneg a (Int.ne_of_gt hp)
  have h2 := Int.emod_lt_of_pos a hp
  omega

abbrev Pt := Option (Int × Int)
noncomputable def pt : Pt → AV
  | Option.none => .none
  | some (x, y) => .tup [.int x, .int y]
noncomputable def BdP : Pt → Prop
  | Option.none => True
  | some (x, y) => Bd x ∧ Bd y

noncomputable def narrow (p x y z : Int) : Pt :=
  if z = 0 then Option.none else
  let back := pmod z (p - 2) p
  let square := back * back % p
  some (x * square % p, y * square * back % p)
theorem c_narrowed (n : Nat) {x y z p : Int} {st : St} {Q : AV → St → Prop} (hp : 1 < p) (bp : Bd p) (bx : Bd x) (by' : Bd y) (bz : Bd z) (h : Q (pt (narrow p x y z)) st) : callW (n + 2) 8 [.tup [.int x, .int y, .int z], .int p] st Q := by
  refine callW_fn (by decide) (by decide) (by decide) rfl ?_
  delta a_narrowed b_narrowed
  (repeat (first | (with_reducible first | refine ct_none ?_ | refine ct_some ?_ | refine ex_cons ?_ | refine ex_nil ?_ | refine ite_dec ?_ | refine ite_ndec ?_ | refine and_le rfl ?_ | refine and_tr ?_) | dsimp only [fnW, bindNames, bindNest, upd, look, Nat.reduceBEq, cond_true, cond_false, execW, evalW, evalsW, orW, andW, chainW, bt_name, bt_names, bt_swap, bt_nest, cw_eq, cw_ne, cw_lt, cw_le, cw_gt, cw_ge, cw_is_nn, cw_is_tn, cw_isnot_nn, cw_isnot_tn, bw_add, bw_sub, bw_mul, bw_mod, bw_fdiv, bw_pow, bw_lsh, bw_rsh, bw_and, tob_bool, toi_int, ite_tt, ite_ff, ln1, ln0, gd1, gd0, rev2, rev3, ap0, ap1, not_t, not_f, at_p, at_b, at_g, at_n, isCurve_curve, Nat.reduceAdd, sub_tup, pl0_2, pl1_2, pl0_3, pl1_3, pl2_3, gc1, gc0]))
  have hp0 : 0 < p := by omega
  unfold narrow at h
  by_cases hz : z = 0
  · rw [if_pos hz] at h; refine br_t (hz) ?_; (repeat (first | (with_reducible first | refine ct_none ?_ | refine ct_some ?_ | refine ex_cons ?_ | refine ex_nil ?_ | refine ite_dec ?_ | refine ite_ndec ?_ | refine and_le rfl ?_ | refine and_tr ?_) | dsimp only [fnW, bindNames, bindNest, upd, look, Nat.reduceBEq, cond_true, cond_false, execW, evalW, evalsW, orW, andW, chainW, bt_name, bt_names, bt_swap, bt_nest, cw_eq, cw_ne, cw_lt, cw_le, cw_gt, cw_ge, cw_is_nn, cw_is_tn, cw_isnot_nn, cw_isnot_tn, bw_add, bw_sub, bw_mul, bw_mod, bw_fdiv, bw_pow, bw_lsh, bw_rsh, bw_and, tob_bool, toi_int, ite_tt, ite_ff, ln1, ln0, gd1, gd0, rev2, rev3, ap0, ap1, not_t, not_f, at_p, at_b, at_g, at_n, isCurve_curve, Nat.reduceAdd, sub_tup, pl0_2, pl1_2, pl0_3, pl1_3, pl2_3, gc1, gc0])); exact h
  · rw [if_neg hz] at h; refine br_f (hz) ?_; (repeat (first | (with_reducible first | refine ct_none ?_ | refine ct_some ?_ | refine ex_cons ?_ | refine ex_nil ?_ | refine ite_dec ?_ | refine ite_ndec ?_ | refine and_le rfl ?_ | refine and_tr ?_) | dsimp only [fnW, bindNames, bindNest, upd, look, Nat.reduceBEq, cond_true, cond_false, execW, evalW, evalsW, orW, andW, chainW, bt_name, bt_names, bt_swap, bt_nest, cw_eq, cw_ne, cw_lt, cw_le, cw_gt, cw_ge, cw_is_nn, cw_is_tn, cw_isnot_nn, cw_isnot_tn, bw_add, bw_sub, bw_mul, bw_mod, bw_fdiv, bw_pow, bw_lsh, bw_rsh, bw_and, tob_bool, toi_int, ite_tt, ite_ff, ln1, ln0, gd1, gd0, rev2, rev3, ap0, ap1, not_t, not_f, at_p, at_b, at_g, at_n, isCurve_curve, Nat.reduceAdd, sub_tup, pl0_2, pl1_2, pl0_3, pl1_3, pl2_3, gc1, gc0]))
    refine c_pow n (by omega) hp ?_
    (repeat (first | (with_reducible first | refine ct_none ?_ | refine ct_some ?_ | refine ex_cons ?_ | refine ex_nil ?_ | refine ite_dec ?_ | refine ite_ndec ?_ | refine and_le rfl ?_ | refine and_tr ?_) | dsimp only [fnW, bindNames, bindNest, upd, look, Nat.reduceBEq, cond_true, cond_false, execW, evalW, evalsW, orW, andW, chainW, bt_name, bt_names, bt_swap, bt_nest, cw_eq, cw_ne, cw_lt, cw_le, cw_gt, cw_ge, cw_is_nn, cw_is_tn, cw_isnot_nn, cw_isnot_tn, bw_add, bw_sub, bw_mul, bw_mod, bw_fdiv, bw_pow, bw_lsh, bw_rsh, bw_and, tob_bool, toi_int, ite_tt, ite_ff, ln1, ln0, gd1, gd0, rev2, rev3, ap0, ap1, not_t, not_f, at_p, at_b, at_g, at_n, isCurve_curve, Nat.reduceAdd, sub_tup, pl0_2, pl1_2, pl0_3, pl1_3, pl2_3, gc1, gc0]))
    have bb := bd_pmod (a := z) (e := p - 2) hp bp
    (repeat (first | (with_reducible refine And.intro (by first | with_reducible assumption | (refine Bn.small ?_; (repeat' first | (with_reducible refine Bn.base ?_; with_reducible assumption) | with_reducible refine Bn.mul ?_ ?_ | with_reducible refine Bn.add ?_ ?_ | with_reducible refine Bn.sub ?_ ?_ | with_reducible refine Bn.neg ?_ | (with_reducible refine Bn.mod ?_ (by with_reducible assumption); first | with_reducible assumption | omega) | exact Bn.lit (by decide)); done) | omega) ?_) | (with_reducible first | refine ct_none ?_ | refine ct_some ?_ | refine ex_cons ?_ | refine ex_nil ?_ | refine ite_dec ?_ | refine ite_ndec ?_ | refine and_le rfl ?_ | refine and_tr ?_) | dsimp only [fnW, bindNames, bindNest, upd, look, Nat.reduceBEq, cond_true, cond_false, execW, evalW, evalsW, orW, andW, chainW, bt_name, bt_names, bt_swap, bt_nest, cw_eq, cw_ne, cw_lt, cw_le, cw_gt, cw_ge, cw_is_nn, cw_is_tn, cw_isnot_nn, cw_isnot_tn, bw_add, bw_sub, bw_mul, bw_mod, bw_fdiv, bw_pow, bw_lsh, bw_rsh, bw_and, tob_bool, toi_int, ite_tt, ite_ff, ln1, ln0, gd1, gd0, rev2, rev3, ap0, ap1, not_t, not_f, at_p, at_b, at_g, at_n, isCurve_curve, Nat.reduceAdd, sub_tup, pl0_2, pl1_2, pl0_3, pl1_3, pl2_3, gc1, gc0]))
    exact h

noncomputable def wadd (p x y z u v w : Int) : Int × Int × Int :=
  if z = 0 ∨ w = 0 then (if z = 0 then (u, v, w) else (x, y, z)) else
  let left := x * w * w % p
  let right := u * z * z % p
  let low := y * w * w * w % p
  let high := v * z * z * z % p
  if left = right then (if low = high then wdbl p x y z else (1, 1, 0)) else
  let step := right - left
  let rise := high - low
  let square := step * step % p
  let cube := step * square % p
  let middle := left * square % p
  let far := (rise * rise - cube - 2 * middle) % p
  (far, (rise * (middle - far) - low * cube) % p, step * z * w % p)
theorem cmp_ne_int (st : St) (i j : Int) : cmpO .NotEq st (.int i) (.int j) = some (decide (i ≠ j)) := by
  unfold cmpO
  rw [eqO_int]
  simp
theorem bd_small {a p : Int} (h0 : 0 ≤ a) (h1 : a < p) (h : Bd p) : Bd a := by unfold Bd at *; omega
theorem bd_wdbl {p x y z : Int} (hp : 0 < p) (bp : Bd p) : Bd (wdbl p x y z).1 ∧ Bd (wdbl p x y z).2.1 ∧ Bd (wdbl p x y z).2.2 := by
  unfold wdbl
  split
  · refine ⟨?_, ?_, ?_⟩ <;> (unfold Bd; decide)
  · exact ⟨bd_mod hp bp, bd_mod hp bp, bd_mod hp bp⟩
theorem bd_wadd {p x y z u v w : Int} (hp : 0 < p) (bp : Bd p) (bx : Bd x) (by' : Bd y) (bz : Bd z) (bu : Bd u) (bv : Bd v) (bw : Bd w) : Bd (wadd p x y z u v w).1 ∧ Bd (wadd p x y z u v w).2.1 ∧ Bd (wadd p x y z u v w).2.2 := by
  unfold wadd
  split
  · split
    · exact ⟨bu, bv, bw⟩
    · exact ⟨bx, by', bz⟩
  · dsimp only
    split
    · split
      · exact bd_wdbl hp bp
      · refine ⟨?_, ?_, ?_⟩ <;> (unfold Bd; decide)
    · exact ⟨bd_mod hp bp, bd_mod hp bp, bd_mod hp bp⟩
theorem c_wide_added (n : Nat) {x y z u v w p : Int} {st : St} {Q : AV → St → Prop} (hp : 0 < p) (bp : Bd p) (bx : Bd x) (by' : Bd y) (bz : Bd z) (bu : Bd u) (bv : Bd v) (bw : Bd w) (h : Q (t3' (wadd p x y z u v w)) st) :
    callW (n + 2) 7 [.tup [.int x, .int y, .int z], .tup [.int u, .int v, .int w], .int p] st Q := by
  refine callW_fn (by decide) (by decide) (by decide) rfl ?_
  delta a_wide_added b_wide_added
  (repeat (first | (with_reducible first | refine ct_none ?_ | refine ct_some ?_ | refine ex_cons ?_ | refine ex_nil ?_ | refine ite_dec ?_ | refine ite_ndec ?_ | refine and_le rfl ?_ | refine and_tr ?_) | dsimp only [fnW, bindNames, bindNest, upd, look, Nat.reduceBEq, cond_true, cond_false, execW, evalW, evalsW, orW, andW, chainW, bt_name, bt_names, bt_swap, bt_nest, cw_eq, cw_ne, cw_lt, cw_le, cw_gt, cw_ge, cw_is_nn, cw_is_tn, cw_isnot_nn, cw_isnot_tn, bw_add, bw_sub, bw_mul, bw_mod, bw_fdiv, bw_pow, bw_lsh, bw_rsh, bw_and, tob_bool, toi_int, ite_tt, ite_ff, ln1, ln0, gd1, gd0, rev2, rev3, ap0, ap1, not_t, not_f, at_p, at_b, at_g, at_n, isCurve_curve, Nat.reduceAdd, sub_tup, pl0_2, pl1_2, pl0_3, pl1_3, pl2_3, gc1, gc0, sub_tup, pl2_3, List.getElem?_cons_succ, List.getElem?_cons_zero]))
  unfold wadd at h
  by_cases hz : z = 0
  · rw [if_pos (.inl hz), if_pos hz] at h
    refine br_t (hz) ?_; (repeat (first | (with_reducible first | refine ct_none ?_ | refine ct_some ?_ | refine ex_cons ?_ | refine ex_nil ?_ | refine ite_dec ?_ | refine ite_ndec ?_ | refine and_le rfl ?_ | refine and_tr ?_) | dsimp only [fnW, bindNames, bindNest, upd, look, Nat.reduceBEq, cond_true, cond_false, execW, evalW, evalsW, orW, andW, chainW, bt_name, bt_names, bt_swap, bt_nest, cw_eq, cw_ne, cw_lt, cw_le, cw_gt, cw_ge, cw_is_nn, cw_is_tn, cw_isnot_nn, cw_isnot_tn, bw_add, bw_sub, bw_mul, bw_mod, bw_fdiv, bw_pow, bw_lsh, bw_rsh, bw_and, tob_bool, toi_int, ite_tt, ite_ff, ln1, ln0, gd1, gd0, rev2, rev3, ap0, ap1, not_t, not_f, at_p, at_b, at_g, at_n, isCurve_curve, Nat.reduceAdd, sub_tup, pl0_2, pl1_2, pl0_3, pl1_3, pl2_3, gc1, gc0])); refine br_t (hz) ?_; (repeat (first | (with_reducible first | refine ct_none ?_ | refine ct_some ?_ | refine ex_cons ?_ | refine ex_nil ?_ | refine ite_dec ?_ | refine ite_ndec ?_ | refine and_le rfl ?_ | refine and_tr ?_) | dsimp only [fnW, bindNames, bindNest, upd, look, Nat.reduceBEq, cond_true, cond_false, execW, evalW, evalsW, orW, andW, chainW, bt_name, bt_names, bt_swap, bt_nest, cw_eq, cw_ne, cw_lt, cw_le, cw_gt, cw_ge, cw_is_nn, cw_is_tn, cw_isnot_nn, cw_isnot_tn, bw_add, bw_sub, bw_mul, bw_mod, bw_fdiv, bw_pow, bw_lsh, bw_rsh, bw_and, tob_bool, toi_int, ite_tt, ite_ff, ln1, ln0, gd1, gd0, rev2, rev3, ap0, ap1, not_t, not_f, at_p, at_b, at_g, at_n, isCurve_curve, Nat.reduceAdd, sub_tup, pl0_2, pl1_2, pl0_3, pl1_3, pl2_3, gc1, gc0]))
    exact h
  · refine br_f (hz) ?_; (repeat (first | (with_reducible first | refine ct_none ?_ | refine ct_some ?_ | refine ex_cons ?_ | refine ex_nil ?_ | refine ite_dec ?_ | refine ite_ndec ?_ | refine and_le rfl ?_ | refine and_tr ?_) | dsimp only [fnW, bindNames, bindNest, upd, look, Nat.reduceBEq, cond_true, cond_false, execW, evalW, evalsW, orW, andW, chainW, bt_name, bt_names, bt_swap, bt_nest, cw_eq, cw_ne, cw_lt, cw_le, cw_gt, cw_ge, cw_is_nn, cw_is_tn, cw_isnot_nn, cw_isnot_tn, bw_add, bw_sub, bw_mul, bw_mod, bw_fdiv, bw_pow, bw_lsh, bw_rsh, bw_and, tob_bool, toi_int, ite_tt, ite_ff, ln1, ln0, gd1, gd0, rev2, rev3, ap0, ap1, not_t, not_f, at_p, at_b, at_g, at_n, isCurve_curve, Nat.reduceAdd, sub_tup, pl0_2, pl1_2, pl0_3, pl1_3, pl2_3, gc1, gc0]))
    by_cases hw : w = 0
    · rw [if_pos (.inr hw), if_neg hz] at h
      refine br_t (hw) ?_; (repeat (first | (with_reducible first | refine ct_none ?_ | refine ct_some ?_ | refine ex_cons ?_ | refine ex_nil ?_ | refine ite_dec ?_ | refine ite_ndec ?_ | refine and_le rfl ?_ | refine and_tr ?_) | dsimp only [fnW, bindNames, bindNest, upd, look, Nat.reduceBEq, cond_true, cond_false, execW, evalW, evalsW, orW, andW, chainW, bt_name, bt_names, bt_swap, bt_nest, cw_eq, cw_ne, cw_lt, cw_le, cw_gt, cw_ge, cw_is_nn, cw_is_tn, cw_isnot_nn, cw_isnot_tn, bw_add, bw_sub, bw_mul, bw_mod, bw_fdiv, bw_pow, bw_lsh, bw_rsh, bw_and, tob_bool, toi_int, ite_tt, ite_ff, ln1, ln0, gd1, gd0, rev2, rev3, ap0, ap1, not_t, not_f, at_p, at_b, at_g, at_n, isCurve_curve, Nat.reduceAdd, sub_tup, pl0_2, pl1_2, pl0_3, pl1_3, pl2_3, gc1, gc0])); refine br_f (hz) ?_; (repeat (first | (with_reducible first | refine ct_none ?_ | refine ct_some ?_ | refine ex_cons ?_ | refine ex_nil ?_ | refine ite_dec ?_ | refine ite_ndec ?_ | refine and_le rfl ?_ | refine and_tr ?_) | dsimp only [fnW, bindNames, bindNest, upd, look, Nat.reduceBEq, cond_true, cond_false, execW, evalW, evalsW, orW, andW, chainW, bt_name, bt_names, bt_swap, bt_nest, cw_eq, cw_ne, cw_lt, cw_le, cw_gt, cw_ge, cw_is_nn, cw_is_tn, cw_isnot_nn, cw_isnot_tn, bw_add, bw_sub, bw_mul, bw_mod, bw_fdiv, bw_pow, bw_lsh, bw_rsh, bw_and, tob_bool, toi_int, ite_tt, ite_ff, ln1, ln0, gd1, gd0, rev2, rev3, ap0, ap1, not_t, not_f, at_p, at_b, at_g, at_n, isCurve_curve, Nat.reduceAdd, sub_tup, pl0_2, pl1_2, pl0_3, pl1_3, pl2_3, gc1, gc0]))
      exact h
    · rw [if_neg (fun q => q.elim hz hw)] at h
      refine br_f (hw) ?_; (repeat (first | (with_reducible first | refine ct_none ?_ | refine ct_some ?_ | refine ex_cons ?_ | refine ex_nil ?_ | refine ite_dec ?_ | refine ite_ndec ?_ | refine and_le rfl ?_ | refine and_tr ?_) | dsimp only [fnW, bindNames, bindNest, upd, look, Nat.reduceBEq, cond_true, cond_false, execW, evalW, evalsW, orW, andW, chainW, bt_name, bt_names, bt_swap, bt_nest, cw_eq, cw_ne, cw_lt, cw_le, cw_gt, cw_ge, cw_is_nn, cw_is_tn, cw_isnot_nn, cw_isnot_tn, bw_add, bw_sub, bw_mul, bw_mod, bw_fdiv, bw_pow, bw_lsh, bw_rsh, bw_and, tob_bool, toi_int, ite_tt, ite_ff, ln1, ln0, gd1, gd0, rev2, rev3, ap0, ap1, not_t, not_f, at_p, at_b, at_g, at_n, isCurve_curve, Nat.reduceAdd, sub_tup, pl0_2, pl1_2, pl0_3, pl1_3, pl2_3, gc1, gc0]))
      (repeat (first | (with_reducible refine And.intro (by first | with_reducible assumption | (refine Bn.small ?_; (repeat' first | (with_reducible refine Bn.base ?_; with_reducible assumption) | with_reducible refine Bn.mul ?_ ?_ | with_reducible refine Bn.add ?_ ?_ | with_reducible refine Bn.sub ?_ ?_ | with_reducible refine Bn.neg ?_ | (with_reducible refine Bn.mod ?_ (by with_reducible assumption); first | with_reducible assumption | omega) | exact Bn.lit (by decide)); done) | omega) ?_) | (with_reducible first | refine ct_none ?_ | refine ct_some ?_ | refine ex_cons ?_ | refine ex_nil ?_ | refine ite_dec ?_ | refine ite_ndec ?_ | refine and_le rfl ?_ | refine and_tr ?_) | dsimp only [fnW, bindNames, bindNest, upd, look, Nat.reduceBEq, cond_true, cond_false, execW, evalW, evalsW, orW, andW, chainW, bt_name, bt_names, bt_swap, bt_nest, cw_eq, cw_ne, cw_lt, cw_le, cw_gt, cw_ge, cw_is_nn, cw_is_tn, cw_isnot_nn, cw_isnot_tn, bw_add, bw_sub, bw_mul, bw_mod, bw_fdiv, bw_pow, bw_lsh, bw_rsh, bw_and, tob_bool, toi_int, ite_tt, ite_ff, ln1, ln0, gd1, gd0, rev2, rev3, ap0, ap1, not_t, not_f, at_p, at_b, at_g, at_n, isCurve_curve, Nat.reduceAdd, sub_tup, pl0_2, pl1_2, pl0_3, pl1_3, pl2_3, gc1, gc0]))
      by_cases hl : x * w * w % p = u * z * z % p
      · rw [if_pos hl] at h
        refine br_t (hl) ?_; (repeat (first | (with_reducible first | refine ct_none ?_ | refine ct_some ?_ | refine ex_cons ?_ | refine ex_nil ?_ | refine ite_dec ?_ | refine ite_ndec ?_ | refine and_le rfl ?_ | refine and_tr ?_) | dsimp only [fnW, bindNames, bindNest, upd, look, Nat.reduceBEq, cond_true, cond_false, execW, evalW, evalsW, orW, andW, chainW, bt_name, bt_names, bt_swap, bt_nest, cw_eq, cw_ne, cw_lt, cw_le, cw_gt, cw_ge, cw_is_nn, cw_is_tn, cw_isnot_nn, cw_isnot_tn, bw_add, bw_sub, bw_mul, bw_mod, bw_fdiv, bw_pow, bw_lsh, bw_rsh, bw_and, tob_bool, toi_int, ite_tt, ite_ff, ln1, ln0, gd1, gd0, rev2, rev3, ap0, ap1, not_t, not_f, at_p, at_b, at_g, at_n, isCurve_curve, Nat.reduceAdd, sub_tup, pl0_2, pl1_2, pl0_3, pl1_3, pl2_3, gc1, gc0])); (repeat (first | (with_reducible refine And.intro (by first | with_reducible assumption | (refine Bn.small ?_; (repeat' first | (with_reducible refine Bn.base ?_; with_reducible assumption) | with_reducible refine Bn.mul ?_ ?_ | with_reducible refine Bn.add ?_ ?_ | with_reducible refine Bn.sub ?_ ?_ | with_reducible refine Bn.neg ?_ | (with_reducible refine Bn.mod ?_ (by with_reducible assumption); first | with_reducible assumption | omega) | exact Bn.lit (by decide)); done) | omega) ?_) | (with_reducible first | refine ct_none ?_ | refine ct_some ?_ | refine ex_cons ?_ | refine ex_nil ?_ | refine ite_dec ?_ | refine ite_ndec ?_ | refine and_le rfl ?_ | refine and_tr ?_) | dsimp only [fnW, bindNames, bindNest, upd, look, Nat.reduceBEq, cond_true, cond_false, execW, evalW, evalsW, orW, andW, chainW, bt_name, bt_names, bt_swap, bt_nest, cw_eq, cw_ne, cw_lt, cw_le, cw_gt, cw_ge, cw_is_nn, cw_is_tn, cw_isnot_nn, cw_isnot_tn, bw_add, bw_sub, bw_mul, bw_mod, bw_fdiv, bw_pow, bw_lsh, bw_rsh, bw_and, tob_bool, toi_int, ite_tt, ite_ff, ln1, ln0, gd1, gd0, rev2, rev3, ap0, ap1, not_t, not_f, at_p, at_b, at_g, at_n, isCurve_curve, Nat.reduceAdd, sub_tup, pl0_2, pl1_2, pl0_3, pl1_3, pl2_3, gc1, gc0]))
        by_cases hh : y * w * w * w % p = v * z * z * z % p
        · rw [if_pos hh] at h
          refine br_t (hh) ?_; (repeat (first | (with_reducible first | refine ct_none ?_ | refine ct_some ?_ | refine ex_cons ?_ | refine ex_nil ?_ | refine ite_dec ?_ | refine ite_ndec ?_ | refine and_le rfl ?_ | refine and_tr ?_) | dsimp only [fnW, bindNames, bindNest, upd, look, Nat.reduceBEq, cond_true, cond_false, execW, evalW, evalsW, orW, andW, chainW, bt_name, bt_names, bt_swap, bt_nest, cw_eq, cw_ne, cw_lt, cw_le, cw_gt, cw_ge, cw_is_nn, cw_is_tn, cw_isnot_nn, cw_isnot_tn, bw_add, bw_sub, bw_mul, bw_mod, bw_fdiv, bw_pow, bw_lsh, bw_rsh, bw_and, tob_bool, toi_int, ite_tt, ite_ff, ln1, ln0, gd1, gd0, rev2, rev3, ap0, ap1, not_t, not_f, at_p, at_b, at_g, at_n, isCurve_curve, Nat.reduceAdd, sub_tup, pl0_2, pl1_2, pl0_3, pl1_3, pl2_3, gc1, gc0]))
          exact c_wide_doubled n hp bp bx by' bz h
        · rw [if_neg hh] at h
          refine br_f (hh) ?_; (repeat (first | (with_reducible first | refine ct_none ?_ | refine ct_some ?_ | refine ex_cons ?_ | refine ex_nil ?_ | refine ite_dec ?_ | refine ite_ndec ?_ | refine and_le rfl ?_ | refine and_tr ?_) | dsimp only [fnW, bindNames, bindNest, upd, look, Nat.reduceBEq, cond_true, cond_false, execW, evalW, evalsW, orW, andW, chainW, bt_name, bt_names, bt_swap, bt_nest, cw_eq, cw_ne, cw_lt, cw_le, cw_gt, cw_ge, cw_is_nn, cw_is_tn, cw_isnot_nn, cw_isnot_tn, bw_add, bw_sub, bw_mul, bw_mod, bw_fdiv, bw_pow, bw_lsh, bw_rsh, bw_and, tob_bool, toi_int, ite_tt, ite_ff, ln1, ln0, gd1, gd0, rev2, rev3, ap0, ap1, not_t, not_f, at_p, at_b, at_g, at_n, isCurve_curve, Nat.reduceAdd, sub_tup, pl0_2, pl1_2, pl0_3, pl1_3, pl2_3, gc1, gc0]))
          exact h
      · rw [if_neg hl] at h
        refine br_f (hl) ?_; (repeat (first | (with_reducible first | refine ct_none ?_ | refine ct_some ?_ | refine ex_cons ?_ | refine ex_nil ?_ | refine ite_dec ?_ | refine ite_ndec ?_ | refine and_le rfl ?_ | refine and_tr ?_) | dsimp only [fnW, bindNames, bindNest, upd, look, Nat.reduceBEq, cond_true, cond_false, execW, evalW, evalsW, orW, andW, chainW, bt_name, bt_names, bt_swap, bt_nest, cw_eq, cw_ne, cw_lt, cw_le, cw_gt, cw_ge, cw_is_nn, cw_is_tn, cw_isnot_nn, cw_isnot_tn, bw_add, bw_sub, bw_mul, bw_mod, bw_fdiv, bw_pow, bw_lsh, bw_rsh, bw_and, tob_bool, toi_int, ite_tt, ite_ff, ln1, ln0, gd1, gd0, rev2, rev3, ap0, ap1, not_t, not_f, at_p, at_b, at_g, at_n, isCurve_curve, Nat.reduceAdd, sub_tup, pl0_2, pl1_2, pl0_3, pl1_3, pl2_3, gc1, gc0]))
        (repeat (first | (with_reducible refine And.intro (by first | with_reducible assumption | (refine Bn.small ?_; (repeat' first | (with_reducible refine Bn.base ?_; with_reducible assumption) | with_reducible refine Bn.mul ?_ ?_ | with_reducible refine Bn.add ?_ ?_ | with_reducible refine Bn.sub ?_ ?_ | with_reducible refine Bn.neg ?_ | (with_reducible refine Bn.mod ?_ (by with_reducible assumption); first | with_reducible assumption | omega) | exact Bn.lit (by decide)); done) | omega) ?_) | (with_reducible first | refine ct_none ?_ | refine ct_some ?_ | refine ex_cons ?_ | refine ex_nil ?_ | refine ite_dec ?_ | refine ite_ndec ?_ | refine and_le rfl ?_ | refine and_tr ?_) | dsimp only [fnW, bindNames, bindNest, upd, look, Nat.reduceBEq, cond_true, cond_false, execW, evalW, evalsW, orW, andW, chainW, bt_name, bt_names, bt_swap, bt_nest, cw_eq, cw_ne, cw_lt, cw_le, cw_gt, cw_ge, cw_is_nn, cw_is_tn, cw_isnot_nn, cw_isnot_tn, bw_add, bw_sub, bw_mul, bw_mod, bw_fdiv, bw_pow, bw_lsh, bw_rsh, bw_and, tob_bool, toi_int, ite_tt, ite_ff, ln1, ln0, gd1, gd0, rev2, rev3, ap0, ap1, not_t, not_f, at_p, at_b, at_g, at_n, isCurve_curve, Nat.reduceAdd, sub_tup, pl0_2, pl1_2, pl0_3, pl1_3, pl2_3, gc1, gc0]))
        exact h
end Mine
set_option maxRecDepth 100000
set_option maxHeartbeats 4000000
set_option linter.unusedSimpArgs false
set_option linter.unusedVariables false
set_option exponentiation.threshold 300
namespace Mine
open PySem PySem.W PyProof.Rows

noncomputable def dblF (p : Int) : Pt → Pt
  | Option.none => Option.none
  | some (x, y) => if y = 0 then Option.none else
    let slope := 3 * x * x * pmod (2 * y) (p - 2) p
    let far := (slope * slope - 2 * x) % p
    some (far, (slope * (x - far) - y) % p)
noncomputable def addF (p : Int) : Pt → Pt → Pt
  | Option.none, q => q
  | some a, Option.none => some a
  | some (x, y), some (u, v) => if x = u then (if y = v then dblF p (some (x, y)) else Option.none) else
    let slope := (v - y) * pmod (u - x) (p - 2) p
    let far := (slope * slope - x - u) % p
    some (far, (slope * (x - far) - y) % p)
theorem pt_none : pt Option.none = .none := rfl
theorem pt_some (x y : Int) : pt (some (x, y)) = .tup [.int x, .int y] := rfl
theorem c_doubled (n : Nat) {p b m : Int} {g : AV} {P : Pt} {st : St} {Q : AV → St → Prop} (hp : 1 < p) (bp : Bd p) (bP : BdP P) (h : Q (pt (dblF p P)) st) : callW (n + 2) 2 [.curve p b g m, pt P] st Q := by
  refine callW_fn (by decide) (by decide) (by decide) rfl ?_
  delta a_doubled b_doubled
  match P, bP, h with
  | Option.none, _, h =>
    (repeat (first | (with_reducible first | refine ct_none ?_ | refine ct_some ?_ | refine ex_cons ?_ | refine ex_nil ?_ | refine ite_dec ?_ | refine ite_ndec ?_ | refine and_le rfl ?_ | refine and_tr ?_) | dsimp only [fnW, bindNames, bindNest, upd, look, Nat.reduceBEq, cond_true, cond_false, execW, evalW, evalsW, orW, andW, chainW, bt_name, bt_names, bt_swap, bt_nest, cw_eq, cw_ne, cw_lt, cw_le, cw_gt, cw_ge, cw_is_nn, cw_is_tn, cw_isnot_nn, cw_isnot_tn, bw_add, bw_sub, bw_mul, bw_mod, bw_fdiv, bw_pow, bw_lsh, bw_rsh, bw_and, tob_bool, toi_int, ite_tt, ite_ff, ln1, ln0, gd1, gd0, rev2, rev3, ap0, ap1, not_t, not_f, at_p, at_b, at_g, at_n, isCurve_curve, Nat.reduceAdd, sub_tup, pl0_2, pl1_2, pl0_3, pl1_3, pl2_3, gc1, gc0, pt_none]))
    exact h
  | some (x, y), bP, h =>
    obtain ⟨bx, by'⟩ := bP
    (repeat (first | (with_reducible first | refine ct_none ?_ | refine ct_some ?_ | refine ex_cons ?_ | refine ex_nil ?_ | refine ite_dec ?_ | refine ite_ndec ?_ | refine and_le rfl ?_ | refine and_tr ?_) | dsimp only [fnW, bindNames, bindNest, upd, look, Nat.reduceBEq, cond_true, cond_false, execW, evalW, evalsW, orW, andW, chainW, bt_name, bt_names, bt_swap, bt_nest, cw_eq, cw_ne, cw_lt, cw_le, cw_gt, cw_ge, cw_is_nn, cw_is_tn, cw_isnot_nn, cw_isnot_tn, bw_add, bw_sub, bw_mul, bw_mod, bw_fdiv, bw_pow, bw_lsh, bw_rsh, bw_and, tob_bool, toi_int, ite_tt, ite_ff, ln1, ln0, gd1, gd0, rev2, rev3, ap0, ap1, not_t, not_f, at_p, at_b, at_g, at_n, isCurve_curve, Nat.reduceAdd, sub_tup, pl0_2, pl1_2, pl0_3, pl1_3, pl2_3, gc1, gc0, pt_some]))
    unfold dblF at h
    dsimp only at h
    by_cases hy : y = 0
    · rw [if_pos hy] at h; refine br_t (hy) ?_; (repeat (first | (with_reducible first | refine ct_none ?_ | refine ct_some ?_ | refine ex_cons ?_ | refine ex_nil ?_ | refine ite_dec ?_ | refine ite_ndec ?_ | refine and_le rfl ?_ | refine and_tr ?_) | dsimp only [fnW, bindNames, bindNest, upd, look, Nat.reduceBEq, cond_true, cond_false, execW, evalW, evalsW, orW, andW, chainW, bt_name, bt_names, bt_swap, bt_nest, cw_eq, cw_ne, cw_lt, cw_le, cw_gt, cw_ge, cw_is_nn, cw_is_tn, cw_isnot_nn, cw_isnot_tn, bw_add, bw_sub, bw_mul, bw_mod, bw_fdiv, bw_pow, bw_lsh, bw_rsh, bw_and, tob_bool, toi_int, ite_tt, ite_ff, ln1, ln0, gd1, gd0, rev2, rev3, ap0, ap1, not_t, not_f, at_p, at_b, at_g, at_n, isCurve_curve, Nat.reduceAdd, sub_tup, pl0_2, pl1_2, pl0_3, pl1_3, pl2_3, gc1, gc0]))
      exact h
    · rw [if_neg hy] at h; refine br_f (hy) ?_; (repeat (first | (with_reducible first | refine ct_none ?_ | refine ct_some ?_ | refine ex_cons ?_ | refine ex_nil ?_ | refine ite_dec ?_ | refine ite_ndec ?_ | refine and_le rfl ?_ | refine and_tr ?_) | dsimp only [fnW, bindNames, bindNest, upd, look, Nat.reduceBEq, cond_true, cond_false, execW, evalW, evalsW, orW, andW, chainW, bt_name, bt_names, bt_swap, bt_nest, cw_eq, cw_ne, cw_lt, cw_le, cw_gt, cw_ge, cw_is_nn, cw_is_tn, cw_isnot_nn, cw_isnot_tn, bw_add, bw_sub, bw_mul, bw_mod, bw_fdiv, bw_pow, bw_lsh, bw_rsh, bw_and, tob_bool, toi_int, ite_tt, ite_ff, ln1, ln0, gd1, gd0, rev2, rev3, ap0, ap1, not_t, not_f, at_p, at_b, at_g, at_n, isCurve_curve, Nat.reduceAdd, sub_tup, pl0_2, pl1_2, pl0_3, pl1_3, pl2_3, gc1, gc0]))
      (repeat (first | (with_reducible refine And.intro (by first | with_reducible assumption | (refine Bn.small ?_; (repeat' first | (with_reducible refine Bn.base ?_; with_reducible assumption) | with_reducible refine Bn.mul ?_ ?_ | with_reducible refine Bn.add ?_ ?_ | with_reducible refine Bn.sub ?_ ?_ | with_reducible refine Bn.neg ?_ | (with_reducible refine Bn.mod ?_ (by with_reducible assumption); first | with_reducible assumption | omega) | exact Bn.lit (by decide)); done) | omega) ?_) | (with_reducible first | refine ct_none ?_ | refine ct_some ?_ | refine ex_cons ?_ | refine ex_nil ?_ | refine ite_dec ?_ | refine ite_ndec ?_ | refine and_le rfl ?_ | refine and_tr ?_) | dsimp only [fnW, bindNames, bindNest, upd, look, Nat.reduceBEq, cond_true, cond_false, execW, evalW, evalsW, orW, andW, chainW, bt_name, bt_names, bt_swap, bt_nest, cw_eq, cw_ne, cw_lt, cw_le, cw_gt, cw_ge, cw_is_nn, cw_is_tn, cw_isnot_nn, cw_isnot_tn, bw_add, bw_sub, bw_mul, bw_mod, bw_fdiv, bw_pow, bw_lsh, bw_rsh, bw_and, tob_bool, toi_int, ite_tt, ite_ff, ln1, ln0, gd1, gd0, rev2, rev3, ap0, ap1, not_t, not_f, at_p, at_b, at_g, at_n, isCurve_curve, Nat.reduceAdd, sub_tup, pl0_2, pl1_2, pl0_3, pl1_3, pl2_3, gc1, gc0]))
      refine c_pow n (by omega) hp ?_
      (repeat (first | (with_reducible first | refine ct_none ?_ | refine ct_some ?_ | refine ex_cons ?_ | refine ex_nil ?_ | refine ite_dec ?_ | refine ite_ndec ?_ | refine and_le rfl ?_ | refine and_tr ?_) | dsimp only [fnW, bindNames, bindNest, upd, look, Nat.reduceBEq, cond_true, cond_false, execW, evalW, evalsW, orW, andW, chainW, bt_name, bt_names, bt_swap, bt_nest, cw_eq, cw_ne, cw_lt, cw_le, cw_gt, cw_ge, cw_is_nn, cw_is_tn, cw_isnot_nn, cw_isnot_tn, bw_add, bw_sub, bw_mul, bw_mod, bw_fdiv, bw_pow, bw_lsh, bw_rsh, bw_and, tob_bool, toi_int, ite_tt, ite_ff, ln1, ln0, gd1, gd0, rev2, rev3, ap0, ap1, not_t, not_f, at_p, at_b, at_g, at_n, isCurve_curve, Nat.reduceAdd, sub_tup, pl0_2, pl1_2, pl0_3, pl1_3, pl2_3, gc1, gc0]))
      have bb := bd_pmod (a := 2 * y) (e := p - 2) hp bp
      have hp0 : 0 < p := by omega
      (repeat (first | (with_reducible refine And.intro (by first | with_reducible assumption | (refine Bn.small ?_; (repeat' first | (with_reducible refine Bn.base ?_; with_reducible assumption) | with_reducible refine Bn.mul ?_ ?_ | with_reducible refine Bn.add ?_ ?_ | with_reducible refine Bn.sub ?_ ?_ | with_reducible refine Bn.neg ?_ | (with_reducible refine Bn.mod ?_ (by with_reducible assumption); first | with_reducible assumption | omega) | exact Bn.lit (by decide)); done) | omega) ?_) | (with_reducible first | refine ct_none ?_ | refine ct_some ?_ | refine ex_cons ?_ | refine ex_nil ?_ | refine ite_dec ?_ | refine ite_ndec ?_ | refine and_le rfl ?_ | refine and_tr ?_) | dsimp only [fnW, bindNames, bindNest, upd, look, Nat.reduceBEq, cond_true, cond_false, execW, evalW, evalsW, orW, andW, chainW, bt_name, bt_names, bt_swap, bt_nest, cw_eq, cw_ne, cw_lt, cw_le, cw_gt, cw_ge, cw_is_nn, cw_is_tn, cw_isnot_nn, cw_isnot_tn, bw_add, bw_sub, bw_mul, bw_mod, bw_fdiv, bw_pow, bw_lsh, bw_rsh, bw_and, tob_bool, toi_int, ite_tt, ite_ff, ln1, ln0, gd1, gd0, rev2, rev3, ap0, ap1, not_t, not_f, at_p, at_b, at_g, at_n, isCurve_curve, Nat.reduceAdd, sub_tup, pl0_2, pl1_2, pl0_3, pl1_3, pl2_3, gc1, gc0]))
      exact h
theorem c_added (n : Nat) {p b m : Int} {g : AV} {P R : Pt} {st : St} {Q : AV → St → Prop} (hp : 1 < p) (bp : Bd p) (bP : BdP P) (bR : BdP R) (h : Q (pt (addF p P R)) st) : callW (n + 3) 3 [.curve p b g m, pt P, pt R] st Q := by
  refine callW_fn (by decide) (by decide) (by decide) rfl ?_
  delta a_added b_added
  match P, R, bP, bR, h with
  | Option.none, Option.none, _, _, h =>
    (repeat (first | (with_reducible first | refine ct_none ?_ | refine ct_some ?_ | refine ex_cons ?_ | refine ex_nil ?_ | refine ite_dec ?_ | refine ite_ndec ?_ | refine and_le rfl ?_ | refine and_tr ?_) | dsimp only [fnW, bindNames, bindNest, upd, look, Nat.reduceBEq, cond_true, cond_false, execW, evalW, evalsW, orW, andW, chainW, bt_name, bt_names, bt_swap, bt_nest, cw_eq, cw_ne, cw_lt, cw_le, cw_gt, cw_ge, cw_is_nn, cw_is_tn, cw_isnot_nn, cw_isnot_tn, bw_add, bw_sub, bw_mul, bw_mod, bw_fdiv, bw_pow, bw_lsh, bw_rsh, bw_and, tob_bool, toi_int, ite_tt, ite_ff, ln1, ln0, gd1, gd0, rev2, rev3, ap0, ap1, not_t, not_f, at_p, at_b, at_g, at_n, isCurve_curve, Nat.reduceAdd, sub_tup, pl0_2, pl1_2, pl0_3, pl1_3, pl2_3, gc1, gc0, pt_none]))
    exact h
  | Option.none, some (u, v), _, _, h =>
    (repeat (first | (with_reducible first | refine ct_none ?_ | refine ct_some ?_ | refine ex_cons ?_ | refine ex_nil ?_ | refine ite_dec ?_ | refine ite_ndec ?_ | refine and_le rfl ?_ | refine and_tr ?_) | dsimp only [fnW, bindNames, bindNest, upd, look, Nat.reduceBEq, cond_true, cond_false, execW, evalW, evalsW, orW, andW, chainW, bt_name, bt_names, bt_swap, bt_nest, cw_eq, cw_ne, cw_lt, cw_le, cw_gt, cw_ge, cw_is_nn, cw_is_tn, cw_isnot_nn, cw_isnot_tn, bw_add, bw_sub, bw_mul, bw_mod, bw_fdiv, bw_pow, bw_lsh, bw_rsh, bw_and, tob_bool, toi_int, ite_tt, ite_ff, ln1, ln0, gd1, gd0, rev2, rev3, ap0, ap1, not_t, not_f, at_p, at_b, at_g, at_n, isCurve_curve, Nat.reduceAdd, sub_tup, pl0_2, pl1_2, pl0_3, pl1_3, pl2_3, gc1, gc0, pt_none, pt_some]))
    exact h
  | some (x, y), Option.none, _, _, h =>
    (repeat (first | (with_reducible first | refine ct_none ?_ | refine ct_some ?_ | refine ex_cons ?_ | refine ex_nil ?_ | refine ite_dec ?_ | refine ite_ndec ?_ | refine and_le rfl ?_ | refine and_tr ?_) | dsimp only [fnW, bindNames, bindNest, upd, look, Nat.reduceBEq, cond_true, cond_false, execW, evalW, evalsW, orW, andW, chainW, bt_name, bt_names, bt_swap, bt_nest, cw_eq, cw_ne, cw_lt, cw_le, cw_gt, cw_ge, cw_is_nn, cw_is_tn, cw_isnot_nn, cw_isnot_tn, bw_add, bw_sub, bw_mul, bw_mod, bw_fdiv, bw_pow, bw_lsh, bw_rsh, bw_and, tob_bool, toi_int, ite_tt, ite_ff, ln1, ln0, gd1, gd0, rev2, rev3, ap0, ap1, not_t, not_f, at_p, at_b, at_g, at_n, isCurve_curve, Nat.reduceAdd, sub_tup, pl0_2, pl1_2, pl0_3, pl1_3, pl2_3, gc1, gc0, pt_none, pt_some]))
    exact h
  | some (x, y), some (u, v), bP, bR, h =>
    obtain ⟨bx, by'⟩ := bP
    obtain ⟨bu, bv⟩ := bR
    (repeat (first | (with_reducible first | refine ct_none ?_ | refine ct_some ?_ | refine ex_cons ?_ | refine ex_nil ?_ | refine ite_dec ?_ | refine ite_ndec ?_ | refine and_le rfl ?_ | refine and_tr ?_) | dsimp only [fnW, bindNames, bindNest, upd, look, Nat.reduceBEq, cond_true, cond_false, execW, evalW, evalsW, orW, andW, chainW, bt_name, bt_names, bt_swap, bt_nest, cw_eq, cw_ne, cw_lt, cw_le, cw_gt, cw_ge, cw_is_nn, cw_is_tn, cw_isnot_nn, cw_isnot_tn, bw_add, bw_sub, bw_mul, bw_mod, bw_fdiv, bw_pow, bw_lsh, bw_rsh, bw_and, tob_bool, toi_int, ite_tt, ite_ff, ln1, ln0, gd1, gd0, rev2, rev3, ap0, ap1, not_t, not_f, at_p, at_b, at_g, at_n, isCurve_curve, Nat.reduceAdd, sub_tup, pl0_2, pl1_2, pl0_3, pl1_3, pl2_3, gc1, gc0, pt_some]))
    unfold addF at h
    dsimp only at h
    by_cases hx : x = u
    · rw [if_pos hx] at h; refine br_t (hx) ?_; (repeat (first | (with_reducible first | refine ct_none ?_ | refine ct_some ?_ | refine ex_cons ?_ | refine ex_nil ?_ | refine ite_dec ?_ | refine ite_ndec ?_ | refine and_le rfl ?_ | refine and_tr ?_) | dsimp only [fnW, bindNames, bindNest, upd, look, Nat.reduceBEq, cond_true, cond_false, execW, evalW, evalsW, orW, andW, chainW, bt_name, bt_names, bt_swap, bt_nest, cw_eq, cw_ne, cw_lt, cw_le, cw_gt, cw_ge, cw_is_nn, cw_is_tn, cw_isnot_nn, cw_isnot_tn, bw_add, bw_sub, bw_mul, bw_mod, bw_fdiv, bw_pow, bw_lsh, bw_rsh, bw_and, tob_bool, toi_int, ite_tt, ite_ff, ln1, ln0, gd1, gd0, rev2, rev3, ap0, ap1, not_t, not_f, at_p, at_b, at_g, at_n, isCurve_curve, Nat.reduceAdd, sub_tup, pl0_2, pl1_2, pl0_3, pl1_3, pl2_3, gc1, gc0]))
      by_cases hy : y = v
      · rw [if_pos hy] at h; refine br_t (hy) ?_; (repeat (first | (with_reducible first | refine ct_none ?_ | refine ct_some ?_ | refine ex_cons ?_ | refine ex_nil ?_ | refine ite_dec ?_ | refine ite_ndec ?_ | refine and_le rfl ?_ | refine and_tr ?_) | dsimp only [fnW, bindNames, bindNest, upd, look, Nat.reduceBEq, cond_true, cond_false, execW, evalW, evalsW, orW, andW, chainW, bt_name, bt_names, bt_swap, bt_nest, cw_eq, cw_ne, cw_lt, cw_le, cw_gt, cw_ge, cw_is_nn, cw_is_tn, cw_isnot_nn, cw_isnot_tn, bw_add, bw_sub, bw_mul, bw_mod, bw_fdiv, bw_pow, bw_lsh, bw_rsh, bw_and, tob_bool, toi_int, ite_tt, ite_ff, ln1, ln0, gd1, gd0, rev2, rev3, ap0, ap1, not_t, not_f, at_p, at_b, at_g, at_n, isCurve_curve, Nat.reduceAdd, sub_tup, pl0_2, pl1_2, pl0_3, pl1_3, pl2_3, gc1, gc0]))
        exact c_doubled n (P := some (x, y)) hp bp ⟨bx, by'⟩ h
      · rw [if_neg hy] at h; refine br_f (hy) ?_; (repeat (first | (with_reducible first | refine ct_none ?_ | refine ct_some ?_ | refine ex_cons ?_ | refine ex_nil ?_ | refine ite_dec ?_ | refine ite_ndec ?_ | refine and_le rfl ?_ | refine and_tr ?_) | dsimp only [fnW, bindNames, bindNest, upd, look, Nat.reduceBEq, cond_true, cond_false, execW, evalW, evalsW, orW, andW, chainW, bt_name, bt_names, bt_swap, bt_nest, cw_eq, cw_ne, cw_lt, cw_le, cw_gt, cw_ge, cw_is_nn, cw_is_tn, cw_isnot_nn, cw_isnot_tn, bw_add, bw_sub, bw_mul, bw_mod, bw_fdiv, bw_pow, bw_lsh, bw_rsh, bw_and, tob_bool, toi_int, ite_tt, ite_ff, ln1, ln0, gd1, gd0, rev2, rev3, ap0, ap1, not_t, not_f, at_p, at_b, at_g, at_n, isCurve_curve, Nat.reduceAdd, sub_tup, pl0_2, pl1_2, pl0_3, pl1_3, pl2_3, gc1, gc0]))
        exact h
    · rw [if_neg hx] at h; refine br_f (hx) ?_; (repeat (first | (with_reducible first | refine ct_none ?_ | refine ct_some ?_ | refine ex_cons ?_ | refine ex_nil ?_ | refine ite_dec ?_ | refine ite_ndec ?_ | refine and_le rfl ?_ | refine and_tr ?_) | dsimp only [fnW, bindNames, bindNest, upd, look, Nat.reduceBEq, cond_true, cond_false, execW, evalW, evalsW, orW, andW, chainW, bt_name, bt_names, bt_swap, bt_nest, cw_eq, cw_ne, cw_lt, cw_le, cw_gt, cw_ge, cw_is_nn, cw_is_tn, cw_isnot_nn, cw_isnot_tn, bw_add, bw_sub, bw_mul, bw_mod, bw_fdiv, bw_pow, bw_lsh, bw_rsh, bw_and, tob_bool, toi_int, ite_tt, ite_ff, ln1, ln0, gd1, gd0, rev2, rev3, ap0, ap1, not_t, not_f, at_p, at_b, at_g, at_n, isCurve_curve, Nat.reduceAdd, sub_tup, pl0_2, pl1_2, pl0_3, pl1_3, pl2_3, gc1, gc0]))
      refine c_pow (n + 1) (by omega) hp ?_
      (repeat (first | (with_reducible first | refine ct_none ?_ | refine ct_some ?_ | refine ex_cons ?_ | refine ex_nil ?_ | refine ite_dec ?_ | refine ite_ndec ?_ | refine and_le rfl ?_ | refine and_tr ?_) | dsimp only [fnW, bindNames, bindNest, upd, look, Nat.reduceBEq, cond_true, cond_false, execW, evalW, evalsW, orW, andW, chainW, bt_name, bt_names, bt_swap, bt_nest, cw_eq, cw_ne, cw_lt, cw_le, cw_gt, cw_ge, cw_is_nn, cw_is_tn, cw_isnot_nn, cw_isnot_tn, bw_add, bw_sub, bw_mul, bw_mod, bw_fdiv, bw_pow, bw_lsh, bw_rsh, bw_and, tob_bool, toi_int, ite_tt, ite_ff, ln1, ln0, gd1, gd0, rev2, rev3, ap0, ap1, not_t, not_f, at_p, at_b, at_g, at_n, isCurve_curve, Nat.reduceAdd, sub_tup, pl0_2, pl1_2, pl0_3, pl1_3, pl2_3, gc1, gc0]))
      have bb := bd_pmod (a := u - x) (e := p - 2) hp bp
      have hp0 : 0 < p := by omega
      (repeat (first | (with_reducible refine And.intro (by first | with_reducible assumption | (refine Bn.small ?_; (repeat' first | (with_reducible refine Bn.base ?_; with_reducible assumption) | with_reducible refine Bn.mul ?_ ?_ | with_reducible refine Bn.add ?_ ?_ | with_reducible refine Bn.sub ?_ ?_ | with_reducible refine Bn.neg ?_ | (with_reducible refine Bn.mod ?_ (by with_reducible assumption); first | with_reducible assumption | omega) | exact Bn.lit (by decide)); done) | omega) ?_) | (with_reducible first | refine ct_none ?_ | refine ct_some ?_ | refine ex_cons ?_ | refine ex_nil ?_ | refine ite_dec ?_ | refine ite_ndec ?_ | refine and_le rfl ?_ | refine and_tr ?_) | dsimp only [fnW, bindNames, bindNest, upd, look, Nat.reduceBEq, cond_true, cond_false, execW, evalW, evalsW, orW, andW, chainW, bt_name, bt_names, bt_swap, bt_nest, cw_eq, cw_ne, cw_lt, cw_le, cw_gt, cw_ge, cw_is_nn, cw_is_tn, cw_isnot_nn, cw_isnot_tn, bw_add, bw_sub, bw_mul, bw_mod, bw_fdiv, bw_pow, bw_lsh, bw_rsh, bw_and, tob_bool, toi_int, ite_tt, ite_ff, ln1, ln0, gd1, gd0, rev2, rev3, ap0, ap1, not_t, not_f, at_p, at_b, at_g, at_n, isCurve_curve, Nat.reduceAdd, sub_tup, pl0_2, pl1_2, pl0_3, pl1_3, pl2_3, gc1, gc0]))
      exact h
noncomputable def onF (p b : Int) : Pt → Bool
  | Option.none => true
  | some (x, y) => decide (0 ≤ x) && decide (x < p) && (decide (0 ≤ y) && decide (y < p)) && decide ((y * y - x * x * x - b) % p = 0)
theorem c_is_on (n : Nat) {p b m : Int} {g : AV} {P : Pt} {st : St} {Q : AV → St → Prop} (hp : 0 < p) (bP : BdP P) (h : Q (.bool (onF p b P)) st) : callW (n + 1) 1 [.curve p b g m, pt P] st Q := by
  refine callW_fn (by decide) (by decide) (by decide) rfl ?_
  delta a_is_on b_is_on
  match P, bP, h with
  | Option.none, _, h =>
    (repeat (first | (with_reducible first | refine ct_none ?_ | refine ct_some ?_ | refine ex_cons ?_ | refine ex_nil ?_ | refine ite_dec ?_ | refine ite_ndec ?_ | refine and_le rfl ?_ | refine and_tr ?_) | dsimp only [fnW, bindNames, bindNest, upd, look, Nat.reduceBEq, cond_true, cond_false, execW, evalW, evalsW, orW, andW, chainW, bt_name, bt_names, bt_swap, bt_nest, cw_eq, cw_ne, cw_lt, cw_le, cw_gt, cw_ge, cw_is_nn, cw_is_tn, cw_isnot_nn, cw_isnot_tn, bw_add, bw_sub, bw_mul, bw_mod, bw_fdiv, bw_pow, bw_lsh, bw_rsh, bw_and, tob_bool, toi_int, ite_tt, ite_ff, ln1, ln0, gd1, gd0, rev2, rev3, ap0, ap1, not_t, not_f, at_p, at_b, at_g, at_n, isCurve_curve, Nat.reduceAdd, sub_tup, pl0_2, pl1_2, pl0_3, pl1_3, pl2_3, gc1, gc0, pt_none]))
    exact h
  | some (x, y), bP, h =>
    obtain ⟨bx, by'⟩ := bP
    (repeat (first | (with_reducible first | refine ct_none ?_ | refine ct_some ?_ | refine ex_cons ?_ | refine ex_nil ?_ | refine ite_dec ?_ | refine ite_ndec ?_ | refine and_le rfl ?_ | refine and_tr ?_) | dsimp only [fnW, bindNames, bindNest, upd, look, Nat.reduceBEq, cond_true, cond_false, execW, evalW, evalsW, orW, andW, chainW, bt_name, bt_names, bt_swap, bt_nest, cw_eq, cw_ne, cw_lt, cw_le, cw_gt, cw_ge, cw_is_nn, cw_is_tn, cw_isnot_nn, cw_isnot_tn, bw_add, bw_sub, bw_mul, bw_mod, bw_fdiv, bw_pow, bw_lsh, bw_rsh, bw_and, tob_bool, toi_int, ite_tt, ite_ff, ln1, ln0, gd1, gd0, rev2, rev3, ap0, ap1, not_t, not_f, at_p, at_b, at_g, at_n, isCurve_curve, Nat.reduceAdd, sub_tup, pl0_2, pl1_2, pl0_3, pl1_3, pl2_3, gc1, gc0, pt_some]))
    unfold onF at h
    dsimp only at h
    by_cases h1 : 0 ≤ x
    · rw [decide_eq_true h1] at h; refine br_t (h1) ?_; (repeat (first | (with_reducible first | refine ct_none ?_ | refine ct_some ?_ | refine ex_cons ?_ | refine ex_nil ?_ | refine ite_dec ?_ | refine ite_ndec ?_ | refine and_le rfl ?_ | refine and_tr ?_) | dsimp only [fnW, bindNames, bindNest, upd, look, Nat.reduceBEq, cond_true, cond_false, execW, evalW, evalsW, orW, andW, chainW, bt_name, bt_names, bt_swap, bt_nest, cw_eq, cw_ne, cw_lt, cw_le, cw_gt, cw_ge, cw_is_nn, cw_is_tn, cw_isnot_nn, cw_isnot_tn, bw_add, bw_sub, bw_mul, bw_mod, bw_fdiv, bw_pow, bw_lsh, bw_rsh, bw_and, tob_bool, toi_int, ite_tt, ite_ff, ln1, ln0, gd1, gd0, rev2, rev3, ap0, ap1, not_t, not_f, at_p, at_b, at_g, at_n, isCurve_curve, Nat.reduceAdd, sub_tup, pl0_2, pl1_2, pl0_3, pl1_3, pl2_3, gc1, gc0]))
      by_cases h2 : x < p
      · rw [decide_eq_true h2] at h; refine br_t (h2) ?_; (repeat (first | (with_reducible first | refine ct_none ?_ | refine ct_some ?_ | refine ex_cons ?_ | refine ex_nil ?_ | refine ite_dec ?_ | refine ite_ndec ?_ | refine and_le rfl ?_ | refine and_tr ?_) | dsimp only [fnW, bindNames, bindNest, upd, look, Nat.reduceBEq, cond_true, cond_false, execW, evalW, evalsW, orW, andW, chainW, bt_name, bt_names, bt_swap, bt_nest, cw_eq, cw_ne, cw_lt, cw_le, cw_gt, cw_ge, cw_is_nn, cw_is_tn, cw_isnot_nn, cw_isnot_tn, bw_add, bw_sub, bw_mul, bw_mod, bw_fdiv, bw_pow, bw_lsh, bw_rsh, bw_and, tob_bool, toi_int, ite_tt, ite_ff, ln1, ln0, gd1, gd0, rev2, rev3, ap0, ap1, not_t, not_f, at_p, at_b, at_g, at_n, isCurve_curve, Nat.reduceAdd, sub_tup, pl0_2, pl1_2, pl0_3, pl1_3, pl2_3, gc1, gc0]))
        by_cases h3 : 0 ≤ y
        · rw [decide_eq_true h3] at h; refine br_t (h3) ?_; (repeat (first | (with_reducible first | refine ct_none ?_ | refine ct_some ?_ | refine ex_cons ?_ | refine ex_nil ?_ | refine ite_dec ?_ | refine ite_ndec ?_ | refine and_le rfl ?_ | refine and_tr ?_) | dsimp only [fnW, bindNames, bindNest, upd, look, Nat.reduceBEq, cond_true, cond_false, execW, evalW, evalsW, orW, andW, chainW, bt_name, bt_names, bt_swap, bt_nest, cw_eq, cw_ne, cw_lt, cw_le, cw_gt, cw_ge, cw_is_nn, cw_is_tn, cw_isnot_nn, cw_isnot_tn, bw_add, bw_sub, bw_mul, bw_mod, bw_fdiv, bw_pow, bw_lsh, bw_rsh, bw_and, tob_bool, toi_int, ite_tt, ite_ff, ln1, ln0, gd1, gd0, rev2, rev3, ap0, ap1, not_t, not_f, at_p, at_b, at_g, at_n, isCurve_curve, Nat.reduceAdd, sub_tup, pl0_2, pl1_2, pl0_3, pl1_3, pl2_3, gc1, gc0]))
          by_cases h4 : y < p
          · rw [decide_eq_true h4] at h; refine br_t (h4) ?_; (repeat (first | (with_reducible first | refine ct_none ?_ | refine ct_some ?_ | refine ex_cons ?_ | refine ex_nil ?_ | refine ite_dec ?_ | refine ite_ndec ?_ | refine and_le rfl ?_ | refine and_tr ?_) | dsimp only [fnW, bindNames, bindNest, upd, look, Nat.reduceBEq, cond_true, cond_false, execW, evalW, evalsW, orW, andW, chainW, bt_name, bt_names, bt_swap, bt_nest, cw_eq, cw_ne, cw_lt, cw_le, cw_gt, cw_ge, cw_is_nn, cw_is_tn, cw_isnot_nn, cw_isnot_tn, bw_add, bw_sub, bw_mul, bw_mod, bw_fdiv, bw_pow, bw_lsh, bw_rsh, bw_and, tob_bool, toi_int, ite_tt, ite_ff, ln1, ln0, gd1, gd0, rev2, rev3, ap0, ap1, not_t, not_f, at_p, at_b, at_g, at_n, isCurve_curve, Nat.reduceAdd, sub_tup, pl0_2, pl1_2, pl0_3, pl1_3, pl2_3, gc1, gc0]))
            (repeat (first | (with_reducible refine And.intro (by first | with_reducible assumption | (refine Bn.small ?_; (repeat' first | (with_reducible refine Bn.base ?_; with_reducible assumption) | with_reducible refine Bn.mul ?_ ?_ | with_reducible refine Bn.add ?_ ?_ | with_reducible refine Bn.sub ?_ ?_ | with_reducible refine Bn.neg ?_ | (with_reducible refine Bn.mod ?_ (by with_reducible assumption); first | with_reducible assumption | omega) | exact Bn.lit (by decide)); done) | omega) ?_) | (with_reducible first | refine ct_none ?_ | refine ct_some ?_ | refine ex_cons ?_ | refine ex_nil ?_ | refine ite_dec ?_ | refine ite_ndec ?_ | refine and_le rfl ?_ | refine and_tr ?_) | dsimp only [fnW, bindNames, bindNest, upd, look, Nat.reduceBEq, cond_true, cond_false, execW, evalW, evalsW, orW, andW, chainW, bt_name, bt_names, bt_swap, bt_nest, cw_eq, cw_ne, cw_lt, cw_le, cw_gt, cw_ge, cw_is_nn, cw_is_tn, cw_isnot_nn, cw_isnot_tn, bw_add, bw_sub, bw_mul, bw_mod, bw_fdiv, bw_pow, bw_lsh, bw_rsh, bw_and, tob_bool, toi_int, ite_tt, ite_ff, ln1, ln0, gd1, gd0, rev2, rev3, ap0, ap1, not_t, not_f, at_p, at_b, at_g, at_n, isCurve_curve, Nat.reduceAdd, sub_tup, pl0_2, pl1_2, pl0_3, pl1_3, pl2_3, gc1, gc0]))
            exact h
          · rw [decide_eq_false h4] at h; refine br_f (h4) ?_; (repeat (first | (with_reducible first | refine ct_none ?_ | refine ct_some ?_ | refine ex_cons ?_ | refine ex_nil ?_ | refine ite_dec ?_ | refine ite_ndec ?_ | refine and_le rfl ?_ | refine and_tr ?_) | dsimp only [fnW, bindNames, bindNest, upd, look, Nat.reduceBEq, cond_true, cond_false, execW, evalW, evalsW, orW, andW, chainW, bt_name, bt_names, bt_swap, bt_nest, cw_eq, cw_ne, cw_lt, cw_le, cw_gt, cw_ge, cw_is_nn, cw_is_tn, cw_isnot_nn, cw_isnot_tn, bw_add, bw_sub, bw_mul, bw_mod, bw_fdiv, bw_pow, bw_lsh, bw_rsh, bw_and, tob_bool, toi_int, ite_tt, ite_ff, ln1, ln0, gd1, gd0, rev2, rev3, ap0, ap1, not_t, not_f, at_p, at_b, at_g, at_n, isCurve_curve, Nat.reduceAdd, sub_tup, pl0_2, pl1_2, pl0_3, pl1_3, pl2_3, gc1, gc0]))
            exact h
        · rw [decide_eq_false h3] at h; refine br_f (h3) ?_; (repeat (first | (with_reducible first | refine ct_none ?_ | refine ct_some ?_ | refine ex_cons ?_ | refine ex_nil ?_ | refine ite_dec ?_ | refine ite_ndec ?_ | refine and_le rfl ?_ | refine and_tr ?_) | dsimp only [fnW, bindNames, bindNest, upd, look, Nat.reduceBEq, cond_true, cond_false, execW, evalW, evalsW, orW, andW, chainW, bt_name, bt_names, bt_swap, bt_nest, cw_eq, cw_ne, cw_lt, cw_le, cw_gt, cw_ge, cw_is_nn, cw_is_tn, cw_isnot_nn, cw_isnot_tn, bw_add, bw_sub, bw_mul, bw_mod, bw_fdiv, bw_pow, bw_lsh, bw_rsh, bw_and, tob_bool, toi_int, ite_tt, ite_ff, ln1, ln0, gd1, gd0, rev2, rev3, ap0, ap1, not_t, not_f, at_p, at_b, at_g, at_n, isCurve_curve, Nat.reduceAdd, sub_tup, pl0_2, pl1_2, pl0_3, pl1_3, pl2_3, gc1, gc0]))
          exact h
      · rw [decide_eq_false h2] at h; refine br_f (h2) ?_; (repeat (first | (with_reducible first | refine ct_none ?_ | refine ct_some ?_ | refine ex_cons ?_ | refine ex_nil ?_ | refine ite_dec ?_ | refine ite_ndec ?_ | refine and_le rfl ?_ | refine and_tr ?_) | dsimp only [fnW, bindNames, bindNest, upd, look, Nat.reduceBEq, cond_true, cond_false, execW, evalW, evalsW, orW, andW, chainW, bt_name, bt_names, bt_swap, bt_nest, cw_eq, cw_ne, cw_lt, cw_le, cw_gt, cw_ge, cw_is_nn, cw_is_tn, cw_isnot_nn, cw_isnot_tn, bw_add, bw_sub, bw_mul, bw_mod, bw_fdiv, bw_pow, bw_lsh, bw_rsh, bw_and, tob_bool, toi_int, ite_tt, ite_ff, ln1, ln0, gd1, gd0, rev2, rev3, ap0, ap1, not_t, not_f, at_p, at_b, at_g, at_n, isCurve_curve, Nat.reduceAdd, sub_tup, pl0_2, pl1_2, pl0_3, pl1_3, pl2_3, gc1, gc0]))
        exact h
    · rw [decide_eq_false h1] at h; refine br_f (h1) ?_; (repeat (first | (with_reducible first | refine ct_none ?_ | refine ct_some ?_ | refine ex_cons ?_ | refine ex_nil ?_ | refine ite_dec ?_ | refine ite_ndec ?_ | refine and_le rfl ?_ | refine and_tr ?_) | dsimp only [fnW, bindNames, bindNest, upd, look, Nat.reduceBEq, cond_true, cond_false, execW, evalW, evalsW, orW, andW, chainW, bt_name, bt_names, bt_swap, bt_nest, cw_eq, cw_ne, cw_lt, cw_le, cw_gt, cw_ge, cw_is_nn, cw_is_tn, cw_isnot_nn, cw_isnot_tn, bw_add, bw_sub, bw_mul, bw_mod, bw_fdiv, bw_pow, bw_lsh, bw_rsh, bw_and, tob_bool, toi_int, ite_tt, ite_ff, ln1, ln0, gd1, gd0, rev2, rev3, ap0, ap1, not_t, not_f, at_p, at_b, at_g, at_n, isCurve_curve, Nat.reduceAdd, sub_tup, pl0_2, pl1_2, pl0_3, pl1_3, pl2_3, gc1, gc0]))
      exact h
noncomputable def liftF (p b x parity : Int) : Pt :=
  if ¬ (0 ≤ x ∧ x < p) then Option.none else
  let square := (x * x * x + b) % p
  let y := pmod square ((p + 1) / 4) p
  if y * y % p ≠ square then Option.none else
  let y := if y % 2 ≠ parity then p - y else y
  if y < p then some (x, y) else Option.none
theorem c_lifted (n : Nat) {p b m x parity : Int} {g : AV} {st : St} {Q : AV → St → Prop} (hp : 1 < p) (bp : Bd p) (bx : Bd x) (h : Q (pt (liftF p b x parity)) st) : callW (n + 2) 5 [.curve p b g m, .int x, .int parity] st Q := by
  refine callW_fn (by decide) (by decide) (by decide) rfl ?_
  delta a_lifted b_lifted
  (repeat (first | (with_reducible first | refine ct_none ?_ | refine ct_some ?_ | refine ex_cons ?_ | refine ex_nil ?_ | refine ite_dec ?_ | refine ite_ndec ?_ | refine and_le rfl ?_ | refine and_tr ?_) | dsimp only [fnW, bindNames, bindNest, upd, look, Nat.reduceBEq, cond_true, cond_false, execW, evalW, evalsW, orW, andW, chainW, bt_name, bt_names, bt_swap, bt_nest, cw_eq, cw_ne, cw_lt, cw_le, cw_gt, cw_ge, cw_is_nn, cw_is_tn, cw_isnot_nn, cw_isnot_tn, bw_add, bw_sub, bw_mul, bw_mod, bw_fdiv, bw_pow, bw_lsh, bw_rsh, bw_and, tob_bool, toi_int, ite_tt, ite_ff, ln1, ln0, gd1, gd0, rev2, rev3, ap0, ap1, not_t, not_f, at_p, at_b, at_g, at_n, isCurve_curve, Nat.reduceAdd, sub_tup, pl0_2, pl1_2, pl0_3, pl1_3, pl2_3, gc1, gc0, cmp_ne_int]))
  have hp0 : 0 < p := by omega
  unfold liftF at h
  by_cases h1 : 0 ≤ x
  · refine br_t (h1) ?_; (repeat (first | (with_reducible first | refine ct_none ?_ | refine ct_some ?_ | refine ex_cons ?_ | refine ex_nil ?_ | refine ite_dec ?_ | refine ite_ndec ?_ | refine and_le rfl ?_ | refine and_tr ?_) | dsimp only [fnW, bindNames, bindNest, upd, look, Nat.reduceBEq, cond_true, cond_false, execW, evalW, evalsW, orW, andW, chainW, bt_name, bt_names, bt_swap, bt_nest, cw_eq, cw_ne, cw_lt, cw_le, cw_gt, cw_ge, cw_is_nn, cw_is_tn, cw_isnot_nn, cw_isnot_tn, bw_add, bw_sub, bw_mul, bw_mod, bw_fdiv, bw_pow, bw_lsh, bw_rsh, bw_and, tob_bool, toi_int, ite_tt, ite_ff, ln1, ln0, gd1, gd0, rev2, rev3, ap0, ap1, not_t, not_f, at_p, at_b, at_g, at_n, isCurve_curve, Nat.reduceAdd, sub_tup, pl0_2, pl1_2, pl0_3, pl1_3, pl2_3, gc1, gc0]))
    by_cases h2 : x < p
    · rw [if_neg (fun q => q ⟨h1, h2⟩)] at h; refine br_t (h2) ?_; (repeat (first | (with_reducible first | refine ct_none ?_ | refine ct_some ?_ | refine ex_cons ?_ | refine ex_nil ?_ | refine ite_dec ?_ | refine ite_ndec ?_ | refine and_le rfl ?_ | refine and_tr ?_) | dsimp only [fnW, bindNames, bindNest, upd, look, Nat.reduceBEq, cond_true, cond_false, execW, evalW, evalsW, orW, andW, chainW, bt_name, bt_names, bt_swap, bt_nest, cw_eq, cw_ne, cw_lt, cw_le, cw_gt, cw_ge, cw_is_nn, cw_is_tn, cw_isnot_nn, cw_isnot_tn, bw_add, bw_sub, bw_mul, bw_mod, bw_fdiv, bw_pow, bw_lsh, bw_rsh, bw_and, tob_bool, toi_int, ite_tt, ite_ff, ln1, ln0, gd1, gd0, rev2, rev3, ap0, ap1, not_t, not_f, at_p, at_b, at_g, at_n, isCurve_curve, Nat.reduceAdd, sub_tup, pl0_2, pl1_2, pl0_3, pl1_3, pl2_3, gc1, gc0]))
      (repeat (first | (with_reducible refine And.intro (by first | with_reducible assumption | (refine Bn.small ?_; (repeat' first | (with_reducible refine Bn.base ?_; with_reducible assumption) | with_reducible refine Bn.mul ?_ ?_ | with_reducible refine Bn.add ?_ ?_ | with_reducible refine Bn.sub ?_ ?_ | with_reducible refine Bn.neg ?_ | (with_reducible refine Bn.mod ?_ (by with_reducible assumption); first | with_reducible assumption | omega) | exact Bn.lit (by decide)); done) | omega) ?_) | (with_reducible first | refine ct_none ?_ | refine ct_some ?_ | refine ex_cons ?_ | refine ex_nil ?_ | refine ite_dec ?_ | refine ite_ndec ?_ | refine and_le rfl ?_ | refine and_tr ?_) | dsimp only [fnW, bindNames, bindNest, upd, look, Nat.reduceBEq, cond_true, cond_false, execW, evalW, evalsW, orW, andW, chainW, bt_name, bt_names, bt_swap, bt_nest, cw_eq, cw_ne, cw_lt, cw_le, cw_gt, cw_ge, cw_is_nn, cw_is_tn, cw_isnot_nn, cw_isnot_tn, bw_add, bw_sub, bw_mul, bw_mod, bw_fdiv, bw_pow, bw_lsh, bw_rsh, bw_and, tob_bool, toi_int, ite_tt, ite_ff, ln1, ln0, gd1, gd0, rev2, rev3, ap0, ap1, not_t, not_f, at_p, at_b, at_g, at_n, isCurve_curve, Nat.reduceAdd, sub_tup, pl0_2, pl1_2, pl0_3, pl1_3, pl2_3, gc1, gc0]))
      refine c_pow n (by omega) hp ?_
      (repeat (first | (with_reducible first | refine ct_none ?_ | refine ct_some ?_ | refine ex_cons ?_ | refine ex_nil ?_ | refine ite_dec ?_ | refine ite_ndec ?_ | refine and_le rfl ?_ | refine and_tr ?_) | dsimp only [fnW, bindNames, bindNest, upd, look, Nat.reduceBEq, cond_true, cond_false, execW, evalW, evalsW, orW, andW, chainW, bt_name, bt_names, bt_swap, bt_nest, cw_eq, cw_ne, cw_lt, cw_le, cw_gt, cw_ge, cw_is_nn, cw_is_tn, cw_isnot_nn, cw_isnot_tn, bw_add, bw_sub, bw_mul, bw_mod, bw_fdiv, bw_pow, bw_lsh, bw_rsh, bw_and, tob_bool, toi_int, ite_tt, ite_ff, ln1, ln0, gd1, gd0, rev2, rev3, ap0, ap1, not_t, not_f, at_p, at_b, at_g, at_n, isCurve_curve, Nat.reduceAdd, sub_tup, pl0_2, pl1_2, pl0_3, pl1_3, pl2_3, gc1, gc0]))
      have bb := bd_pmod (a := (x * x * x + b) % p) (e := (p + 1) / 4) hp bp
      (repeat (first | (with_reducible refine And.intro (by first | with_reducible assumption | (refine Bn.small ?_; (repeat' first | (with_reducible refine Bn.base ?_; with_reducible assumption) | with_reducible refine Bn.mul ?_ ?_ | with_reducible refine Bn.add ?_ ?_ | with_reducible refine Bn.sub ?_ ?_ | with_reducible refine Bn.neg ?_ | (with_reducible refine Bn.mod ?_ (by with_reducible assumption); first | with_reducible assumption | omega) | exact Bn.lit (by decide)); done) | omega) ?_) | (with_reducible first | refine ct_none ?_ | refine ct_some ?_ | refine ex_cons ?_ | refine ex_nil ?_ | refine ite_dec ?_ | refine ite_ndec ?_ | refine and_le rfl ?_ | refine and_tr ?_) | dsimp only [fnW, bindNames, bindNest, upd, look, Nat.reduceBEq, cond_true, cond_false, execW, evalW, evalsW, orW, andW, chainW, bt_name, bt_names, bt_swap, bt_nest, cw_eq, cw_ne, cw_lt, cw_le, cw_gt, cw_ge, cw_is_nn, cw_is_tn, cw_isnot_nn, cw_isnot_tn, bw_add, bw_sub, bw_mul, bw_mod, bw_fdiv, bw_pow, bw_lsh, bw_rsh, bw_and, tob_bool, toi_int, ite_tt, ite_ff, ln1, ln0, gd1, gd0, rev2, rev3, ap0, ap1, not_t, not_f, at_p, at_b, at_g, at_n, isCurve_curve, Nat.reduceAdd, sub_tup, pl0_2, pl1_2, pl0_3, pl1_3, pl2_3, gc1, gc0]))
      dsimp only at h
      generalize pmod ((x * x * x + b) % p) ((p + 1) / 4) p = y at *
      by_cases h3 : y * y % p = (x * x * x + b) % p
      · rw [if_neg (fun q => q h3)] at h; refine br_t (h3) ?_; (repeat (first | (with_reducible first | refine ct_none ?_ | refine ct_some ?_ | refine ex_cons ?_ | refine ex_nil ?_ | refine ite_dec ?_ | refine ite_ndec ?_ | refine and_le rfl ?_ | refine and_tr ?_) | dsimp only [fnW, bindNames, bindNest, upd, look, Nat.reduceBEq, cond_true, cond_false, execW, evalW, evalsW, orW, andW, chainW, bt_name, bt_names, bt_swap, bt_nest, cw_eq, cw_ne, cw_lt, cw_le, cw_gt, cw_ge, cw_is_nn, cw_is_tn, cw_isnot_nn, cw_isnot_tn, bw_add, bw_sub, bw_mul, bw_mod, bw_fdiv, bw_pow, bw_lsh, bw_rsh, bw_and, tob_bool, toi_int, ite_tt, ite_ff, ln1, ln0, gd1, gd0, rev2, rev3, ap0, ap1, not_t, not_f, at_p, at_b, at_g, at_n, isCurve_curve, Nat.reduceAdd, sub_tup, pl0_2, pl1_2, pl0_3, pl1_3, pl2_3, gc1, gc0]))
        (repeat (first | (with_reducible refine And.intro (by first | with_reducible assumption | (refine Bn.small ?_; (repeat' first | (with_reducible refine Bn.base ?_; with_reducible assumption) | with_reducible refine Bn.mul ?_ ?_ | with_reducible refine Bn.add ?_ ?_ | with_reducible refine Bn.sub ?_ ?_ | with_reducible refine Bn.neg ?_ | (with_reducible refine Bn.mod ?_ (by with_reducible assumption); first | with_reducible assumption | omega) | exact Bn.lit (by decide)); done) | omega) ?_) | (with_reducible first | refine ct_none ?_ | refine ct_some ?_ | refine ex_cons ?_ | refine ex_nil ?_ | refine ite_dec ?_ | refine ite_ndec ?_ | refine and_le rfl ?_ | refine and_tr ?_) | dsimp only [fnW, bindNames, bindNest, upd, look, Nat.reduceBEq, cond_true, cond_false, execW, evalW, evalsW, orW, andW, chainW, bt_name, bt_names, bt_swap, bt_nest, cw_eq, cw_ne, cw_lt, cw_le, cw_gt, cw_ge, cw_is_nn, cw_is_tn, cw_isnot_nn, cw_isnot_tn, bw_add, bw_sub, bw_mul, bw_mod, bw_fdiv, bw_pow, bw_lsh, bw_rsh, bw_and, tob_bool, toi_int, ite_tt, ite_ff, ln1, ln0, gd1, gd0, rev2, rev3, ap0, ap1, not_t, not_f, at_p, at_b, at_g, at_n, isCurve_curve, Nat.reduceAdd, sub_tup, pl0_2, pl1_2, pl0_3, pl1_3, pl2_3, gc1, gc0]))
        by_cases h4 : y % 2 = parity
        · rw [show (if y % 2 ≠ parity then p - y else y) = y from if_neg (fun q => q h4)] at h; refine br_t (h4) ?_; (repeat (first | (with_reducible first | refine ct_none ?_ | refine ct_some ?_ | refine ex_cons ?_ | refine ex_nil ?_ | refine ite_dec ?_ | refine ite_ndec ?_ | refine and_le rfl ?_ | refine and_tr ?_) | dsimp only [fnW, bindNames, bindNest, upd, look, Nat.reduceBEq, cond_true, cond_false, execW, evalW, evalsW, orW, andW, chainW, bt_name, bt_names, bt_swap, bt_nest, cw_eq, cw_ne, cw_lt, cw_le, cw_gt, cw_ge, cw_is_nn, cw_is_tn, cw_isnot_nn, cw_isnot_tn, bw_add, bw_sub, bw_mul, bw_mod, bw_fdiv, bw_pow, bw_lsh, bw_rsh, bw_and, tob_bool, toi_int, ite_tt, ite_ff, ln1, ln0, gd1, gd0, rev2, rev3, ap0, ap1, not_t, not_f, at_p, at_b, at_g, at_n, isCurve_curve, Nat.reduceAdd, sub_tup, pl0_2, pl1_2, pl0_3, pl1_3, pl2_3, gc1, gc0]))
          by_cases h5 : y < p
          · rw [if_pos h5] at h; refine br_t (h5) ?_; (repeat (first | (with_reducible first | refine ct_none ?_ | refine ct_some ?_ | refine ex_cons ?_ | refine ex_nil ?_ | refine ite_dec ?_ | refine ite_ndec ?_ | refine and_le rfl ?_ | refine and_tr ?_) | dsimp only [fnW, bindNames, bindNest, upd, look, Nat.reduceBEq, cond_true, cond_false, execW, evalW, evalsW, orW, andW, chainW, bt_name, bt_names, bt_swap, bt_nest, cw_eq, cw_ne, cw_lt, cw_le, cw_gt, cw_ge, cw_is_nn, cw_is_tn, cw_isnot_nn, cw_isnot_tn, bw_add, bw_sub, bw_mul, bw_mod, bw_fdiv, bw_pow, bw_lsh, bw_rsh, bw_and, tob_bool, toi_int, ite_tt, ite_ff, ln1, ln0, gd1, gd0, rev2, rev3, ap0, ap1, not_t, not_f, at_p, at_b, at_g, at_n, isCurve_curve, Nat.reduceAdd, sub_tup, pl0_2, pl1_2, pl0_3, pl1_3, pl2_3, gc1, gc0])); exact h
          · rw [if_neg h5] at h; refine br_f (h5) ?_; (repeat (first | (with_reducible first | refine ct_none ?_ | refine ct_some ?_ | refine ex_cons ?_ | refine ex_nil ?_ | refine ite_dec ?_ | refine ite_ndec ?_ | refine and_le rfl ?_ | refine and_tr ?_) | dsimp only [fnW, bindNames, bindNest, upd, look, Nat.reduceBEq, cond_true, cond_false, execW, evalW, evalsW, orW, andW, chainW, bt_name, bt_names, bt_swap, bt_nest, cw_eq, cw_ne, cw_lt, cw_le, cw_gt, cw_ge, cw_is_nn, cw_is_tn, cw_isnot_nn, cw_isnot_tn, bw_add, bw_sub, bw_mul, bw_mod, bw_fdiv, bw_pow, bw_lsh, bw_rsh, bw_and, tob_bool, toi_int, ite_tt, ite_ff, ln1, ln0, gd1, gd0, rev2, rev3, ap0, ap1, not_t, not_f, at_p, at_b, at_g, at_n, isCurve_curve, Nat.reduceAdd, sub_tup, pl0_2, pl1_2, pl0_3, pl1_3, pl2_3, gc1, gc0])); exact h
        · rw [show (if y % 2 ≠ parity then p - y else y) = p - y from if_pos h4] at h; refine br_f (h4) ?_; (repeat (first | (with_reducible first | refine ct_none ?_ | refine ct_some ?_ | refine ex_cons ?_ | refine ex_nil ?_ | refine ite_dec ?_ | refine ite_ndec ?_ | refine and_le rfl ?_ | refine and_tr ?_) | dsimp only [fnW, bindNames, bindNest, upd, look, Nat.reduceBEq, cond_true, cond_false, execW, evalW, evalsW, orW, andW, chainW, bt_name, bt_names, bt_swap, bt_nest, cw_eq, cw_ne, cw_lt, cw_le, cw_gt, cw_ge, cw_is_nn, cw_is_tn, cw_isnot_nn, cw_isnot_tn, bw_add, bw_sub, bw_mul, bw_mod, bw_fdiv, bw_pow, bw_lsh, bw_rsh, bw_and, tob_bool, toi_int, ite_tt, ite_ff, ln1, ln0, gd1, gd0, rev2, rev3, ap0, ap1, not_t, not_f, at_p, at_b, at_g, at_n, isCurve_curve, Nat.reduceAdd, sub_tup, pl0_2, pl1_2, pl0_3, pl1_3, pl2_3, gc1, gc0]))
          by_cases h5 : p - y < p
          · rw [if_pos h5] at h; refine br_t (h5) ?_; (repeat (first | (with_reducible first | refine ct_none ?_ | refine ct_some ?_ | refine ex_cons ?_ | refine ex_nil ?_ | refine ite_dec ?_ | refine ite_ndec ?_ | refine and_le rfl ?_ | refine and_tr ?_) | dsimp only [fnW, bindNames, bindNest, upd, look, Nat.reduceBEq, cond_true, cond_false, execW, evalW, evalsW, orW, andW, chainW, bt_name, bt_names, bt_swap, bt_nest, cw_eq, cw_ne, cw_lt, cw_le, cw_gt, cw_ge, cw_is_nn, cw_is_tn, cw_isnot_nn, cw_isnot_tn, bw_add, bw_sub, bw_mul, bw_mod, bw_fdiv, bw_pow, bw_lsh, bw_rsh, bw_and, tob_bool, toi_int, ite_tt, ite_ff, ln1, ln0, gd1, gd0, rev2, rev3, ap0, ap1, not_t, not_f, at_p, at_b, at_g, at_n, isCurve_curve, Nat.reduceAdd, sub_tup, pl0_2, pl1_2, pl0_3, pl1_3, pl2_3, gc1, gc0])); exact h
          · rw [if_neg h5] at h; refine br_f (h5) ?_; (repeat (first | (with_reducible first | refine ct_none ?_ | refine ct_some ?_ | refine ex_cons ?_ | refine ex_nil ?_ | refine ite_dec ?_ | refine ite_ndec ?_ | refine and_le rfl ?_ | refine and_tr ?_) | dsimp only [fnW, bindNames, bindNest, upd, look, Nat.reduceBEq, cond_true, cond_false, execW, evalW, evalsW, orW, andW, chainW, bt_name, bt_names, bt_swap, bt_nest, cw_eq, cw_ne, cw_lt, cw_le, cw_gt, cw_ge, cw_is_nn, cw_is_tn, cw_isnot_nn, cw_isnot_tn, bw_add, bw_sub, bw_mul, bw_mod, bw_fdiv, bw_pow, bw_lsh, bw_rsh, bw_and, tob_bool, toi_int, ite_tt, ite_ff, ln1, ln0, gd1, gd0, rev2, rev3, ap0, ap1, not_t, not_f, at_p, at_b, at_g, at_n, isCurve_curve, Nat.reduceAdd, sub_tup, pl0_2, pl1_2, pl0_3, pl1_3, pl2_3, gc1, gc0])); exact h
      · rw [if_pos h3] at h; refine br_f (h3) ?_; (repeat (first | (with_reducible first | refine ct_none ?_ | refine ct_some ?_ | refine ex_cons ?_ | refine ex_nil ?_ | refine ite_dec ?_ | refine ite_ndec ?_ | refine and_le rfl ?_ | refine and_tr ?_) | dsimp only [fnW, bindNames, bindNest, upd, look, Nat.reduceBEq, cond_true, cond_false, execW, evalW, evalsW, orW, andW, chainW, bt_name, bt_names, bt_swap, bt_nest, cw_eq, cw_ne, cw_lt, cw_le, cw_gt, cw_ge, cw_is_nn, cw_is_tn, cw_isnot_nn, cw_isnot_tn, bw_add, bw_sub, bw_mul, bw_mod, bw_fdiv, bw_pow, bw_lsh, bw_rsh, bw_and, tob_bool, toi_int, ite_tt, ite_ff, ln1, ln0, gd1, gd0, rev2, rev3, ap0, ap1, not_t, not_f, at_p, at_b, at_g, at_n, isCurve_curve, Nat.reduceAdd, sub_tup, pl0_2, pl1_2, pl0_3, pl1_3, pl2_3, gc1, gc0])); exact h
    · rw [if_pos (fun q => h2 q.2)] at h; refine br_f (h2) ?_; (repeat (first | (with_reducible first | refine ct_none ?_ | refine ct_some ?_ | refine ex_cons ?_ | refine ex_nil ?_ | refine ite_dec ?_ | refine ite_ndec ?_ | refine and_le rfl ?_ | refine and_tr ?_) | dsimp only [fnW, bindNames, bindNest, upd, look, Nat.reduceBEq, cond_true, cond_false, execW, evalW, evalsW, orW, andW, chainW, bt_name, bt_names, bt_swap, bt_nest, cw_eq, cw_ne, cw_lt, cw_le, cw_gt, cw_ge, cw_is_nn, cw_is_tn, cw_isnot_nn, cw_isnot_tn, bw_add, bw_sub, bw_mul, bw_mod, bw_fdiv, bw_pow, bw_lsh, bw_rsh, bw_and, tob_bool, toi_int, ite_tt, ite_ff, ln1, ln0, gd1, gd0, rev2, rev3, ap0, ap1, not_t, not_f, at_p, at_b, at_g, at_n, isCurve_curve, Nat.reduceAdd, sub_tup, pl0_2, pl1_2, pl0_3, pl1_3, pl2_3, gc1, gc0])); exact h
  · rw [if_pos (fun q => h1 q.1)] at h; refine br_f (h1) ?_; (repeat (first | (with_reducible first | refine ct_none ?_ | refine ct_some ?_ | refine ex_cons ?_ | refine ex_nil ?_ | refine ite_dec ?_ | refine ite_ndec ?_ | refine and_le rfl ?_ | refine and_tr ?_) | dsimp only [fnW, bindNames, bindNest, upd, look, Nat.reduceBEq, cond_true, cond_false, execW, evalW, evalsW, orW, andW, chainW, bt_name, bt_names, bt_swap, bt_nest, cw_eq, cw_ne, cw_lt, cw_le, cw_gt, cw_ge, cw_is_nn, cw_is_tn, cw_isnot_nn, cw_isnot_tn, bw_add, bw_sub, bw_mul, bw_mod, bw_fdiv, bw_pow, bw_lsh, bw_rsh, bw_and, tob_bool, toi_int, ite_tt, ite_ff, ln1, ln0, gd1, gd0, rev2, rev3, ap0, ap1, not_t, not_f, at_p, at_b, at_g, at_n, isCurve_curve, Nat.reduceAdd, sub_tup, pl0_2, pl1_2, pl0_3, pl1_3, pl2_3, gc1, gc0])); exact h
end Mine
set_option maxRecDepth 100000
set_option maxHeartbeats 4000000
set_option linter.unusedSimpArgs false
set_option linter.unusedVariables false
set_option exponentiation.threshold 300
namespace Mine
open PySem PySem.W PyProof.Rows
abbrev Tr := Int × Int × Int
noncomputable def wadd' (p : Int) (T H : Tr) : Tr := wadd p T.1 T.2.1 T.2.2 H.1 H.2.1 H.2.2
noncomputable def wdbl' (p : Int) (H : Tr) : Tr := wdbl p H.1 H.2.1 H.2.2
noncomputable def tloop (p : Int) : Nat → Nat → Tr → Tr → Tr
  | 0, _, T, _ => T
  | f + 1, m, T, H => if m = 0 then T else tloop p f (m / 2) (if m % 2 = 1 then wadd' p T H else T) (wdbl' p H)
noncomputable def timesF (p n number : Int) : Pt → Pt
  | Option.none => Option.none
  | some (x, y) => let T := tloop p 300 (number % n).toNat (1, 1, 0) (x, y, 1); narrow p T.1 T.2.1 T.2.2
theorem tloop_zero (p : Int) : ∀ (f : Nat) (T H : Tr), tloop p f 0 T H = T
  | 0, _, _ => rfl
  | f + 1, T, H => by unfold tloop; rw [if_pos rfl]
noncomputable def BdT (T : Tr) : Prop := Bd T.1 ∧ Bd T.2.1 ∧ Bd T.2.2
noncomputable def tv (T : Tr) : AV := .tup [.int T.1, .int T.2.1, .int T.2.2]
theorem c_times (n : Nat) {p b m number : Int} {g : AV} {P : Pt} {st : St} {Q : AV → St → Prop} (hp : 1 < p) (bp : Bd p) (bP : BdP P) (hm : 0 < m) (bm : Bd m) (h : Q (pt (timesF p m number P)) st) : callW (n + 3) 4 [.curve p b g m, .int number, pt P] st Q := by
  refine callW_fn (by decide) (by decide) (by decide) rfl ?_
  delta a_times b_times
  match P, bP, h with
  | Option.none, _, h =>
    (repeat (first | (with_reducible first | refine ct_none ?_ | refine ct_some ?_ | refine ex_cons ?_ | refine ex_nil ?_ | refine ite_dec ?_ | refine ite_ndec ?_ | refine and_le rfl ?_ | refine and_tr ?_) | dsimp only [fnW, bindNames, bindNest, upd, look, Nat.reduceBEq, cond_true, cond_false, execW, evalW, evalsW, orW, andW, chainW, bt_name, bt_names, bt_swap, bt_nest, cw_eq, cw_ne, cw_lt, cw_le, cw_gt, cw_ge, cw_is_nn, cw_is_tn, cw_isnot_nn, cw_isnot_tn, bw_add, bw_sub, bw_mul, bw_mod, bw_fdiv, bw_pow, bw_lsh, bw_rsh, bw_and, tob_bool, toi_int, ite_tt, ite_ff, ln1, ln0, gd1, gd0, rev2, rev3, ap0, ap1, not_t, not_f, at_p, at_b, at_g, at_n, isCurve_curve, Nat.reduceAdd, sub_tup, pl0_2, pl1_2, pl0_3, pl1_3, pl2_3, gc1, gc0, pt_none]))
    exact h
  | some (x, y), bP, h =>
    obtain ⟨bx, by'⟩ := bP
    (repeat (first | (with_reducible first | refine ct_none ?_ | refine ct_some ?_ | refine ex_cons ?_ | refine ex_nil ?_ | refine ite_dec ?_ | refine ite_ndec ?_ | refine and_le rfl ?_ | refine and_tr ?_) | dsimp only [fnW, bindNames, bindNest, upd, look, Nat.reduceBEq, cond_true, cond_false, execW, evalW, evalsW, orW, andW, chainW, bt_name, bt_names, bt_swap, bt_nest, cw_eq, cw_ne, cw_lt, cw_le, cw_gt, cw_ge, cw_is_nn, cw_is_tn, cw_isnot_nn, cw_isnot_tn, bw_add, bw_sub, bw_mul, bw_mod, bw_fdiv, bw_pow, bw_lsh, bw_rsh, bw_and, tob_bool, toi_int, ite_tt, ite_ff, ln1, ln0, gd1, gd0, rev2, rev3, ap0, ap1, not_t, not_f, at_p, at_b, at_g, at_n, isCurve_curve, Nat.reduceAdd, sub_tup, pl0_2, pl1_2, pl0_3, pl1_3, pl2_3, gc1, gc0, pt_some]))
    refine ⟨hm, ?_⟩
    (repeat (first | (with_reducible first | refine ct_none ?_ | refine ct_some ?_ | refine ex_cons ?_ | refine ex_nil ?_ | refine ite_dec ?_ | refine ite_ndec ?_ | refine and_le rfl ?_ | refine and_tr ?_) | dsimp only [fnW, bindNames, bindNest, upd, look, Nat.reduceBEq, cond_true, cond_false, execW, evalW, evalsW, orW, andW, chainW, bt_name, bt_names, bt_swap, bt_nest, cw_eq, cw_ne, cw_lt, cw_le, cw_gt, cw_ge, cw_is_nn, cw_is_tn, cw_isnot_nn, cw_isnot_tn, bw_add, bw_sub, bw_mul, bw_mod, bw_fdiv, bw_pow, bw_lsh, bw_rsh, bw_and, tob_bool, toi_int, ite_tt, ite_ff, ln1, ln0, gd1, gd0, rev2, rev3, ap0, ap1, not_t, not_f, at_p, at_b, at_g, at_n, isCurve_curve, Nat.reduceAdd, sub_tup, pl0_2, pl1_2, pl0_3, pl1_3, pl2_3, gc1, gc0]))
    have hp0 : 0 < p := by omega
    have h0 : 0 ≤ number % m := Int.emod_nonneg _ (Int.ne_of_gt hm)
    have h1 : number % m < m := Int.emod_lt_of_pos _ hm
    refine ⟨fun k loc st' => ∃ f T H, st' = st ∧ BdT T ∧ BdT H ∧ k < 2 ^ f ∧ loc = [(38, .curve p b g m), (22, .int (k : Int)), (28, .tup [.int x, .int y]), (13, tv H), (46, tv T)] ∧ Q (pt (narrow p (tloop p f k T H).1 (tloop p f k T H).2.1 (tloop p f k T H).2.2)) st,
      (number % m).toNat, ⟨300, (1, 1, 0), (x, y, 1), rfl, ?_, ?_, ?_, ?_, h⟩, ?_⟩
    · refine ⟨?_, ?_, ?_⟩ <;> (unfold Bd; decide)
    · exact ⟨bx, by', by show Bd 1; unfold Bd; decide⟩
    · unfold Bd at bm; omega
    · rw [Int.toNat_of_nonneg h0]; rfl
    · rintro k loc st' ⟨f, T, H, rfl, bT, bH, hk, rfl, hq⟩
      obtain ⟨b1, b2, b3⟩ := bT
      obtain ⟨d1, d2, d3⟩ := bH
      (repeat (first | (with_reducible first | refine ct_none ?_ | refine ct_some ?_ | refine ex_cons ?_ | refine ex_nil ?_ | refine ite_dec ?_ | refine ite_ndec ?_ | refine and_le rfl ?_ | refine and_tr ?_) | dsimp only [fnW, bindNames, bindNest, upd, look, Nat.reduceBEq, cond_true, cond_false, execW, evalW, evalsW, orW, andW, chainW, bt_name, bt_names, bt_swap, bt_nest, cw_eq, cw_ne, cw_lt, cw_le, cw_gt, cw_ge, cw_is_nn, cw_is_tn, cw_isnot_nn, cw_isnot_tn, bw_add, bw_sub, bw_mul, bw_mod, bw_fdiv, bw_pow, bw_lsh, bw_rsh, bw_and, tob_bool, toi_int, ite_tt, ite_ff, ln1, ln0, gd1, gd0, rev2, rev3, ap0, ap1, not_t, not_f, at_p, at_b, at_g, at_n, isCurve_curve, Nat.reduceAdd, sub_tup, pl0_2, pl1_2, pl0_3, pl1_3, pl2_3, gc1, gc0]))
      by_cases hk0 : k = 0
      · subst hk0
        rw [tloop_zero] at hq
        refine br_f (show ¬((0 : Nat) : Int) > 0 by omega) ?_; (repeat (first | (with_reducible first | refine ct_none ?_ | refine ct_some ?_ | refine ex_cons ?_ | refine ex_nil ?_ | refine ite_dec ?_ | refine ite_ndec ?_ | refine and_le rfl ?_ | refine and_tr ?_) | dsimp only [fnW, bindNames, bindNest, upd, look, Nat.reduceBEq, cond_true, cond_false, execW, evalW, evalsW, orW, andW, chainW, bt_name, bt_names, bt_swap, bt_nest, cw_eq, cw_ne, cw_lt, cw_le, cw_gt, cw_ge, cw_is_nn, cw_is_tn, cw_isnot_nn, cw_isnot_tn, bw_add, bw_sub, bw_mul, bw_mod, bw_fdiv, bw_pow, bw_lsh, bw_rsh, bw_and, tob_bool, toi_int, ite_tt, ite_ff, ln1, ln0, gd1, gd0, rev2, rev3, ap0, ap1, not_t, not_f, at_p, at_b, at_g, at_n, isCurve_curve, Nat.reduceAdd, sub_tup, pl0_2, pl1_2, pl0_3, pl1_3, pl2_3, gc1, gc0]))
        exact c_narrowed n hp bp b1 b2 b3 hq
      · have hf : ∃ f', f = f' + 1 := by
          cases f with
          | zero => simp at hk; omega
          | succ f' => exact ⟨f', rfl⟩
        obtain ⟨f', rfl⟩ := hf
        have hk2 : k / 2 < 2 ^ f' := by rw [Nat.pow_succ] at hk; omega
        unfold tloop at hq
        rw [if_neg hk0] at hq
        refine br_t (show (k : Int) > 0 by omega) ?_; (repeat (first | (with_reducible first | refine ct_none ?_ | refine ct_some ?_ | refine ex_cons ?_ | refine ex_nil ?_ | refine ite_dec ?_ | refine ite_ndec ?_ | refine and_le rfl ?_ | refine and_tr ?_) | dsimp only [fnW, bindNames, bindNest, upd, look, Nat.reduceBEq, cond_true, cond_false, execW, evalW, evalsW, orW, andW, chainW, bt_name, bt_names, bt_swap, bt_nest, cw_eq, cw_ne, cw_lt, cw_le, cw_gt, cw_ge, cw_is_nn, cw_is_tn, cw_isnot_nn, cw_isnot_tn, bw_add, bw_sub, bw_mul, bw_mod, bw_fdiv, bw_pow, bw_lsh, bw_rsh, bw_and, tob_bool, toi_int, ite_tt, ite_ff, ln1, ln0, gd1, gd0, rev2, rev3, ap0, ap1, not_t, not_f, at_p, at_b, at_g, at_n, isCurve_curve, Nat.reduceAdd, sub_tup, pl0_2, pl1_2, pl0_3, pl1_3, pl2_3, gc1, gc0]))
        have hbit : Builtin.bitAnd (k : Int) 1 = ((k % 2 : Nat) : Int) := by rw [bitAnd_m1]; omega
        have hsh : ((k : Int) / 2 ^ (1 : Int).toNat) = ((k / 2 : Nat) : Int) := by
          show ((k : Int) / 2 ^ 1) = _
          omega
        rw [hbit]
        have e2 := bd_wdbl (x := H.1) (y := H.2.1) (z := H.2.2) hp0 bp
        by_cases hb : k % 2 = 1
        · rw [if_pos hb] at hq
          refine br_t (show ((k % 2 : Nat) : Int) = 1 by omega) ?_; (repeat (first | (with_reducible first | refine ct_none ?_ | refine ct_some ?_ | refine ex_cons ?_ | refine ex_nil ?_ | refine ite_dec ?_ | refine ite_ndec ?_ | refine and_le rfl ?_ | refine and_tr ?_) | dsimp only [fnW, bindNames, bindNest, upd, look, Nat.reduceBEq, cond_true, cond_false, execW, evalW, evalsW, orW, andW, chainW, bt_name, bt_names, bt_swap, bt_nest, cw_eq, cw_ne, cw_lt, cw_le, cw_gt, cw_ge, cw_is_nn, cw_is_tn, cw_isnot_nn, cw_isnot_tn, bw_add, bw_sub, bw_mul, bw_mod, bw_fdiv, bw_pow, bw_lsh, bw_rsh, bw_and, tob_bool, toi_int, ite_tt, ite_ff, ln1, ln0, gd1, gd0, rev2, rev3, ap0, ap1, not_t, not_f, at_p, at_b, at_g, at_n, isCurve_curve, Nat.reduceAdd, sub_tup, pl0_2, pl1_2, pl0_3, pl1_3, pl2_3, gc1, gc0]))
          unfold tv
          refine c_wide_added n hp0 bp b1 b2 b3 d1 d2 d3 ?_
          (repeat (first | (with_reducible first | refine ct_none ?_ | refine ct_some ?_ | refine ex_cons ?_ | refine ex_nil ?_ | refine ite_dec ?_ | refine ite_ndec ?_ | refine and_le rfl ?_ | refine and_tr ?_) | dsimp only [fnW, bindNames, bindNest, upd, look, Nat.reduceBEq, cond_true, cond_false, execW, evalW, evalsW, orW, andW, chainW, bt_name, bt_names, bt_swap, bt_nest, cw_eq, cw_ne, cw_lt, cw_le, cw_gt, cw_ge, cw_is_nn, cw_is_tn, cw_isnot_nn, cw_isnot_tn, bw_add, bw_sub, bw_mul, bw_mod, bw_fdiv, bw_pow, bw_lsh, bw_rsh, bw_and, tob_bool, toi_int, ite_tt, ite_ff, ln1, ln0, gd1, gd0, rev2, rev3, ap0, ap1, not_t, not_f, at_p, at_b, at_g, at_n, isCurve_curve, Nat.reduceAdd, sub_tup, pl0_2, pl1_2, pl0_3, pl1_3, pl2_3, gc1, gc0]))
          refine c_wide_doubled (n + 1) hp0 bp d1 d2 d3 ?_
          (repeat (first | (with_reducible first | refine ct_none ?_ | refine ct_some ?_ | refine ex_cons ?_ | refine ex_nil ?_ | refine ite_dec ?_ | refine ite_ndec ?_ | refine and_le rfl ?_ | refine and_tr ?_) | dsimp only [fnW, bindNames, bindNest, upd, look, Nat.reduceBEq, cond_true, cond_false, execW, evalW, evalsW, orW, andW, chainW, bt_name, bt_names, bt_swap, bt_nest, cw_eq, cw_ne, cw_lt, cw_le, cw_gt, cw_ge, cw_is_nn, cw_is_tn, cw_isnot_nn, cw_isnot_tn, bw_add, bw_sub, bw_mul, bw_mod, bw_fdiv, bw_pow, bw_lsh, bw_rsh, bw_and, tob_bool, toi_int, ite_tt, ite_ff, ln1, ln0, gd1, gd0, rev2, rev3, ap0, ap1, not_t, not_f, at_p, at_b, at_g, at_n, isCurve_curve, Nat.reduceAdd, sub_tup, pl0_2, pl1_2, pl0_3, pl1_3, pl2_3, gc1, gc0]))
          refine ⟨by decide, ?_⟩
          have e1 := bd_wadd (x := T.1) (y := T.2.1) (z := T.2.2) (u := H.1) (v := H.2.1) (w := H.2.2) hp0 bp b1 b2 b3 d1 d2 d3
          exact ⟨k / 2, by omega, f', wadd' p T H, wdbl' p H, rfl, e1, e2, hk2, by rw [hsh]; rfl, hq⟩
        · rw [if_neg hb] at hq
          refine br_f (show ¬((k % 2 : Nat) : Int) = 1 by omega) ?_; (repeat (first | (with_reducible first | refine ct_none ?_ | refine ct_some ?_ | refine ex_cons ?_ | refine ex_nil ?_ | refine ite_dec ?_ | refine ite_ndec ?_ | refine and_le rfl ?_ | refine and_tr ?_) | dsimp only [fnW, bindNames, bindNest, upd, look, Nat.reduceBEq, cond_true, cond_false, execW, evalW, evalsW, orW, andW, chainW, bt_name, bt_names, bt_swap, bt_nest, cw_eq, cw_ne, cw_lt, cw_le, cw_gt, cw_ge, cw_is_nn, cw_is_tn, cw_isnot_nn, cw_isnot_tn, bw_add, bw_sub, bw_mul, bw_mod, bw_fdiv, bw_pow, bw_lsh, bw_rsh, bw_and, tob_bool, toi_int, ite_tt, ite_ff, ln1, ln0, gd1, gd0, rev2, rev3, ap0, ap1, not_t, not_f, at_p, at_b, at_g, at_n, isCurve_curve, Nat.reduceAdd, sub_tup, pl0_2, pl1_2, pl0_3, pl1_3, pl2_3, gc1, gc0]))
          unfold tv
          refine c_wide_doubled (n + 1) hp0 bp d1 d2 d3 ?_
          (repeat (first | (with_reducible first | refine ct_none ?_ | refine ct_some ?_ | refine ex_cons ?_ | refine ex_nil ?_ | refine ite_dec ?_ | refine ite_ndec ?_ | refine and_le rfl ?_ | refine and_tr ?_) | dsimp only [fnW, bindNames, bindNest, upd, look, Nat.reduceBEq, cond_true, cond_false, execW, evalW, evalsW, orW, andW, chainW, bt_name, bt_names, bt_swap, bt_nest, cw_eq, cw_ne, cw_lt, cw_le, cw_gt, cw_ge, cw_is_nn, cw_is_tn, cw_isnot_nn, cw_isnot_tn, bw_add, bw_sub, bw_mul, bw_mod, bw_fdiv, bw_pow, bw_lsh, bw_rsh, bw_and, tob_bool, toi_int, ite_tt, ite_ff, ln1, ln0, gd1, gd0, rev2, rev3, ap0, ap1, not_t, not_f, at_p, at_b, at_g, at_n, isCurve_curve, Nat.reduceAdd, sub_tup, pl0_2, pl1_2, pl0_3, pl1_3, pl2_3, gc1, gc0]))
          refine ⟨by decide, ?_⟩
          exact ⟨k / 2, by omega, f', T, wdbl' p H, rfl, ⟨b1, b2, b3⟩, e2, hk2, by rw [hsh]; rfl, hq⟩
end Mine
set_option maxRecDepth 100000
set_option maxHeartbeats 4000000
set_option linter.unusedSimpArgs false
set_option linter.unusedVariables false
set_option exponentiation.threshold 300
namespace Mine
open PySem PySem.W PyProof.Rows

noncomputable def sumF (p : Int) (inv : List Int) : Pt → Pt → Pt
  | Option.none, q => q
  | some a, Option.none => some a
  | some (x, y), some (u, v) => if x = u ∧ (y + v) % p = 0 then Option.none else
    let slope := if x = u then 3 * x * x * inv.getD (2 * y % p).toNat 0 else (v - y) * inv.getD ((u - x) % p).toNat 0
    let far := (slope * slope - x - u) % p
    some (far, (slope * (x - far) - y) % p)
theorem gl (st : St) (l : List AV) : (st ++ [l])[st.length]? = some l := by simp
theorem sl (st : St) (l l' : List AV) : (st ++ [l]).set st.length l' = st ++ [l'] := by simp
theorem sub_lst {i : Nat} {l : List AV} {k : Int} {a : Nat} {d : AV} {st : St} {Q : AV → St → Prop} (h1 : st[i]? = some l) (h2 : place k l.length = some a) (h3 : l[a]? = some d) (h : Q d st) : subW (.lst i) (.int k) st Q := by
  unfold subW
  simp only [h1, h2, h3]
  exact h
theorem place_nat {k : Int} {n : Nat} (h0 : 0 ≤ k) (h1 : k < n) (h2 : n ≤ 1000000) : place k n = some k.toNat := by
  unfold place
  rw [if_neg (by omega), if_pos h0, if_pos h1]
theorem place_last (n : Nat) (h : n ≤ 1000000) : place (-1) (n + 1) = some n := by
  unfold place
  rw [if_neg (by omega), if_neg (by omega), if_pos (by omega)]
  congr 1
  omega
theorem sub_ints {i : Nat} {l : List Int} {k : Int} {st : St} {Q : AV → St → Prop} (h1 : st[i]? = some (l.map .int)) (h0 : 0 ≤ k) (h2 : k < l.length) (h3 : l.length ≤ 1000000) (h : Q (.int (l.getD k.toNat 0)) st) : subW (.lst i) (.int k) st Q := by
  have hlt : k.toNat < l.length := by omega
  refine sub_lst h1 (place_nat h0 (by simpa using h2) (by simpa using h3)) (d := .int (l.getD k.toNat 0)) ?_ h
  rw [List.getElem?_map, List.getElem?_eq_getElem hlt]
  simp [List.getD, List.getElem?_eq_getElem hlt]
theorem bd_getD {l : List Int} (h : ∀ a ∈ l, Bd a) (k : Nat) : Bd (l.getD k 0) := by
  by_cases hk : k < l.length
  · rw [List.getD_eq_getElem?_getD, List.getElem?_eq_getElem hk]
    exact h _ (List.getElem_mem hk)
  · rw [List.getD_eq_getElem?_getD, List.getElem?_eq_none (by omega)]
    unfold Bd; decide
theorem c_sum (n : Nat) {p : Int} {i : Nat} {inv : List Int} {P R : Pt} {st : St} {Q : AV → St → Prop} (hp : 0 < p) (bp : Bd p) (hi : st[i]? = some (inv.map .int)) (hl : inv.length = p.toNat) (hl2 : p ≤ 1000) (hb : ∀ a ∈ inv, Bd a)
    (bP : BdP P) (bR : BdP R) (h : Q (pt (sumF p inv P R)) st) : callW (n + 1) 18 [.int p, .lst i, pt P, pt R] st Q := by
  refine callW_fn (by decide) (by decide) (by decide) rfl ?_
  delta a_law_sum b_law_sum
  match P, R, bP, bR, h with
  | Option.none, Option.none, _, _, h =>
    (repeat (first | (with_reducible first | refine ct_none ?_ | refine ct_some ?_ | refine ex_cons ?_ | refine ex_nil ?_ | refine ite_dec ?_ | refine ite_ndec ?_ | refine and_le rfl ?_ | refine and_tr ?_) | dsimp only [fnW, bindNames, bindNest, upd, look, Nat.reduceBEq, cond_true, cond_false, execW, evalW, evalsW, orW, andW, chainW, bt_name, bt_names, bt_swap, bt_nest, cw_eq, cw_ne, cw_lt, cw_le, cw_gt, cw_ge, cw_is_nn, cw_is_tn, cw_isnot_nn, cw_isnot_tn, bw_add, bw_sub, bw_mul, bw_mod, bw_fdiv, bw_pow, bw_lsh, bw_rsh, bw_and, tob_bool, toi_int, ite_tt, ite_ff, ln1, ln0, gd1, gd0, rev2, rev3, ap0, ap1, not_t, not_f, at_p, at_b, at_g, at_n, isCurve_curve, Nat.reduceAdd, sub_tup, pl0_2, pl1_2, pl0_3, pl1_3, pl2_3, gc1, gc0, pt_none]))
    exact h
  | Option.none, some (u, v), _, _, h =>
    (repeat (first | (with_reducible first | refine ct_none ?_ | refine ct_some ?_ | refine ex_cons ?_ | refine ex_nil ?_ | refine ite_dec ?_ | refine ite_ndec ?_ | refine and_le rfl ?_ | refine and_tr ?_) | dsimp only [fnW, bindNames, bindNest, upd, look, Nat.reduceBEq, cond_true, cond_false, execW, evalW, evalsW, orW, andW, chainW, bt_name, bt_names, bt_swap, bt_nest, cw_eq, cw_ne, cw_lt, cw_le, cw_gt, cw_ge, cw_is_nn, cw_is_tn, cw_isnot_nn, cw_isnot_tn, bw_add, bw_sub, bw_mul, bw_mod, bw_fdiv, bw_pow, bw_lsh, bw_rsh, bw_and, tob_bool, toi_int, ite_tt, ite_ff, ln1, ln0, gd1, gd0, rev2, rev3, ap0, ap1, not_t, not_f, at_p, at_b, at_g, at_n, isCurve_curve, Nat.reduceAdd, sub_tup, pl0_2, pl1_2, pl0_3, pl1_3, pl2_3, gc1, gc0, pt_none, pt_some]))
    exact h
  | some (x, y), Option.none, _, _, h =>
    (repeat (first | (with_reducible first | refine ct_none ?_ | refine ct_some ?_ | refine ex_cons ?_ | refine ex_nil ?_ | refine ite_dec ?_ | refine ite_ndec ?_ | refine and_le rfl ?_ | refine and_tr ?_) | dsimp only [fnW, bindNames, bindNest, upd, look, Nat.reduceBEq, cond_true, cond_false, execW, evalW, evalsW, orW, andW, chainW, bt_name, bt_names, bt_swap, bt_nest, cw_eq, cw_ne, cw_lt, cw_le, cw_gt, cw_ge, cw_is_nn, cw_is_tn, cw_isnot_nn, cw_isnot_tn, bw_add, bw_sub, bw_mul, bw_mod, bw_fdiv, bw_pow, bw_lsh, bw_rsh, bw_and, tob_bool, toi_int, ite_tt, ite_ff, ln1, ln0, gd1, gd0, rev2, rev3, ap0, ap1, not_t, not_f, at_p, at_b, at_g, at_n, isCurve_curve, Nat.reduceAdd, sub_tup, pl0_2, pl1_2, pl0_3, pl1_3, pl2_3, gc1, gc0, pt_none, pt_some]))
    exact h
  | some (x, y), some (u, v), bP, bR, h =>
    obtain ⟨bx, by'⟩ := bP
    obtain ⟨bu, bv⟩ := bR
    (repeat (first | (with_reducible first | refine ct_none ?_ | refine ct_some ?_ | refine ex_cons ?_ | refine ex_nil ?_ | refine ite_dec ?_ | refine ite_ndec ?_ | refine and_le rfl ?_ | refine and_tr ?_) | dsimp only [fnW, bindNames, bindNest, upd, look, Nat.reduceBEq, cond_true, cond_false, execW, evalW, evalsW, orW, andW, chainW, bt_name, bt_names, bt_swap, bt_nest, cw_eq, cw_ne, cw_lt, cw_le, cw_gt, cw_ge, cw_is_nn, cw_is_tn, cw_isnot_nn, cw_isnot_tn, bw_add, bw_sub, bw_mul, bw_mod, bw_fdiv, bw_pow, bw_lsh, bw_rsh, bw_and, tob_bool, toi_int, ite_tt, ite_ff, ln1, ln0, gd1, gd0, rev2, rev3, ap0, ap1, not_t, not_f, at_p, at_b, at_g, at_n, isCurve_curve, Nat.reduceAdd, sub_tup, pl0_2, pl1_2, pl0_3, pl1_3, pl2_3, gc1, gc0, pt_some]))
    unfold sumF at h
    dsimp only at h
    have m0 : ∀ a : Int, 0 ≤ a % p := fun a => Int.emod_nonneg a (Int.ne_of_gt hp)
    have m1 : ∀ a : Int, a % p < inv.length := fun a => by have := Int.emod_lt_of_pos a hp; omega
    have bg := bd_getD hb
    by_cases hx : x = u
    · refine br_t (hx) ?_; (repeat (first | (with_reducible first | refine ct_none ?_ | refine ct_some ?_ | refine ex_cons ?_ | refine ex_nil ?_ | refine ite_dec ?_ | refine ite_ndec ?_ | refine and_le rfl ?_ | refine and_tr ?_) | dsimp only [fnW, bindNames, bindNest, upd, look, Nat.reduceBEq, cond_true, cond_false, execW, evalW, evalsW, orW, andW, chainW, bt_name, bt_names, bt_swap, bt_nest, cw_eq, cw_ne, cw_lt, cw_le, cw_gt, cw_ge, cw_is_nn, cw_is_tn, cw_isnot_nn, cw_isnot_tn, bw_add, bw_sub, bw_mul, bw_mod, bw_fdiv, bw_pow, bw_lsh, bw_rsh, bw_and, tob_bool, toi_int, ite_tt, ite_ff, ln1, ln0, gd1, gd0, rev2, rev3, ap0, ap1, not_t, not_f, at_p, at_b, at_g, at_n, isCurve_curve, Nat.reduceAdd, sub_tup, pl0_2, pl1_2, pl0_3, pl1_3, pl2_3, gc1, gc0]))
      refine ⟨hp, ?_⟩
      (repeat (first | (with_reducible first | refine ct_none ?_ | refine ct_some ?_ | refine ex_cons ?_ | refine ex_nil ?_ | refine ite_dec ?_ | refine ite_ndec ?_ | refine and_le rfl ?_ | refine and_tr ?_) | dsimp only [fnW, bindNames, bindNest, upd, look, Nat.reduceBEq, cond_true, cond_false, execW, evalW, evalsW, orW, andW, chainW, bt_name, bt_names, bt_swap, bt_nest, cw_eq, cw_ne, cw_lt, cw_le, cw_gt, cw_ge, cw_is_nn, cw_is_tn, cw_isnot_nn, cw_isnot_tn, bw_add, bw_sub, bw_mul, bw_mod, bw_fdiv, bw_pow, bw_lsh, bw_rsh, bw_and, tob_bool, toi_int, ite_tt, ite_ff, ln1, ln0, gd1, gd0, rev2, rev3, ap0, ap1, not_t, not_f, at_p, at_b, at_g, at_n, isCurve_curve, Nat.reduceAdd, sub_tup, pl0_2, pl1_2, pl0_3, pl1_3, pl2_3, gc1, gc0]))
      by_cases hy : (y + v) % p = 0
      · rw [if_pos ⟨hx, hy⟩] at h; refine br_t (hy) ?_; (repeat (first | (with_reducible first | refine ct_none ?_ | refine ct_some ?_ | refine ex_cons ?_ | refine ex_nil ?_ | refine ite_dec ?_ | refine ite_ndec ?_ | refine and_le rfl ?_ | refine and_tr ?_) | dsimp only [fnW, bindNames, bindNest, upd, look, Nat.reduceBEq, cond_true, cond_false, execW, evalW, evalsW, orW, andW, chainW, bt_name, bt_names, bt_swap, bt_nest, cw_eq, cw_ne, cw_lt, cw_le, cw_gt, cw_ge, cw_is_nn, cw_is_tn, cw_isnot_nn, cw_isnot_tn, bw_add, bw_sub, bw_mul, bw_mod, bw_fdiv, bw_pow, bw_lsh, bw_rsh, bw_and, tob_bool, toi_int, ite_tt, ite_ff, ln1, ln0, gd1, gd0, rev2, rev3, ap0, ap1, not_t, not_f, at_p, at_b, at_g, at_n, isCurve_curve, Nat.reduceAdd, sub_tup, pl0_2, pl1_2, pl0_3, pl1_3, pl2_3, gc1, gc0])); exact h
      · rw [if_neg (fun q => hy q.2), if_pos hx] at h
        refine br_f (hy) ?_; (repeat (first | (with_reducible first | refine ct_none ?_ | refine ct_some ?_ | refine ex_cons ?_ | refine ex_nil ?_ | refine ite_dec ?_ | refine ite_ndec ?_ | refine and_le rfl ?_ | refine and_tr ?_) | dsimp only [fnW, bindNames, bindNest, upd, look, Nat.reduceBEq, cond_true, cond_false, execW, evalW, evalsW, orW, andW, chainW, bt_name, bt_names, bt_swap, bt_nest, cw_eq, cw_ne, cw_lt, cw_le, cw_gt, cw_ge, cw_is_nn, cw_is_tn, cw_isnot_nn, cw_isnot_tn, bw_add, bw_sub, bw_mul, bw_mod, bw_fdiv, bw_pow, bw_lsh, bw_rsh, bw_and, tob_bool, toi_int, ite_tt, ite_ff, ln1, ln0, gd1, gd0, rev2, rev3, ap0, ap1, not_t, not_f, at_p, at_b, at_g, at_n, isCurve_curve, Nat.reduceAdd, sub_tup, pl0_2, pl1_2, pl0_3, pl1_3, pl2_3, gc1, gc0]))
        refine br_t (hx) ?_; (repeat (first | (with_reducible first | refine ct_none ?_ | refine ct_some ?_ | refine ex_cons ?_ | refine ex_nil ?_ | refine ite_dec ?_ | refine ite_ndec ?_ | refine and_le rfl ?_ | refine and_tr ?_) | dsimp only [fnW, bindNames, bindNest, upd, look, Nat.reduceBEq, cond_true, cond_false, execW, evalW, evalsW, orW, andW, chainW, bt_name, bt_names, bt_swap, bt_nest, cw_eq, cw_ne, cw_lt, cw_le, cw_gt, cw_ge, cw_is_nn, cw_is_tn, cw_isnot_nn, cw_isnot_tn, bw_add, bw_sub, bw_mul, bw_mod, bw_fdiv, bw_pow, bw_lsh, bw_rsh, bw_and, tob_bool, toi_int, ite_tt, ite_ff, ln1, ln0, gd1, gd0, rev2, rev3, ap0, ap1, not_t, not_f, at_p, at_b, at_g, at_n, isCurve_curve, Nat.reduceAdd, sub_tup, pl0_2, pl1_2, pl0_3, pl1_3, pl2_3, gc1, gc0]))
        (repeat (first | (with_reducible refine And.intro (by first | with_reducible assumption | (refine Bn.small ?_; (repeat' first | (with_reducible refine Bn.base ?_; with_reducible assumption) | with_reducible refine Bn.mul ?_ ?_ | with_reducible refine Bn.add ?_ ?_ | with_reducible refine Bn.sub ?_ ?_ | with_reducible refine Bn.neg ?_ | (with_reducible refine Bn.mod ?_ (by with_reducible assumption); first | with_reducible assumption | omega) | exact Bn.lit (by decide)); done) | omega) ?_) | (with_reducible first | refine ct_none ?_ | refine ct_some ?_ | refine ex_cons ?_ | refine ex_nil ?_ | refine ite_dec ?_ | refine ite_ndec ?_ | refine and_le rfl ?_ | refine and_tr ?_) | dsimp only [fnW, bindNames, bindNest, upd, look, Nat.reduceBEq, cond_true, cond_false, execW, evalW, evalsW, orW, andW, chainW, bt_name, bt_names, bt_swap, bt_nest, cw_eq, cw_ne, cw_lt, cw_le, cw_gt, cw_ge, cw_is_nn, cw_is_tn, cw_isnot_nn, cw_isnot_tn, bw_add, bw_sub, bw_mul, bw_mod, bw_fdiv, bw_pow, bw_lsh, bw_rsh, bw_and, tob_bool, toi_int, ite_tt, ite_ff, ln1, ln0, gd1, gd0, rev2, rev3, ap0, ap1, not_t, not_f, at_p, at_b, at_g, at_n, isCurve_curve, Nat.reduceAdd, sub_tup, pl0_2, pl1_2, pl0_3, pl1_3, pl2_3, gc1, gc0]))
        refine sub_ints hi (m0 _) (m1 _) (by omega) ?_
        (repeat (first | (with_reducible first | refine ct_none ?_ | refine ct_some ?_ | refine ex_cons ?_ | refine ex_nil ?_ | refine ite_dec ?_ | refine ite_ndec ?_ | refine and_le rfl ?_ | refine and_tr ?_) | dsimp only [fnW, bindNames, bindNest, upd, look, Nat.reduceBEq, cond_true, cond_false, execW, evalW, evalsW, orW, andW, chainW, bt_name, bt_names, bt_swap, bt_nest, cw_eq, cw_ne, cw_lt, cw_le, cw_gt, cw_ge, cw_is_nn, cw_is_tn, cw_isnot_nn, cw_isnot_tn, bw_add, bw_sub, bw_mul, bw_mod, bw_fdiv, bw_pow, bw_lsh, bw_rsh, bw_and, tob_bool, toi_int, ite_tt, ite_ff, ln1, ln0, gd1, gd0, rev2, rev3, ap0, ap1, not_t, not_f, at_p, at_b, at_g, at_n, isCurve_curve, Nat.reduceAdd, sub_tup, pl0_2, pl1_2, pl0_3, pl1_3, pl2_3, gc1, gc0]))
        have bb := bg (2 * y % p).toNat
        (repeat (first | (with_reducible refine And.intro (by first | with_reducible assumption | (refine Bn.small ?_; (repeat' first | (with_reducible refine Bn.base ?_; with_reducible assumption) | with_reducible refine Bn.mul ?_ ?_ | with_reducible refine Bn.add ?_ ?_ | with_reducible refine Bn.sub ?_ ?_ | with_reducible refine Bn.neg ?_ | (with_reducible refine Bn.mod ?_ (by with_reducible assumption); first | with_reducible assumption | omega) | exact Bn.lit (by decide)); done) | omega) ?_) | (with_reducible first | refine ct_none ?_ | refine ct_some ?_ | refine ex_cons ?_ | refine ex_nil ?_ | refine ite_dec ?_ | refine ite_ndec ?_ | refine and_le rfl ?_ | refine and_tr ?_) | dsimp only [fnW, bindNames, bindNest, upd, look, Nat.reduceBEq, cond_true, cond_false, execW, evalW, evalsW, orW, andW, chainW, bt_name, bt_names, bt_swap, bt_nest, cw_eq, cw_ne, cw_lt, cw_le, cw_gt, cw_ge, cw_is_nn, cw_is_tn, cw_isnot_nn, cw_isnot_tn, bw_add, bw_sub, bw_mul, bw_mod, bw_fdiv, bw_pow, bw_lsh, bw_rsh, bw_and, tob_bool, toi_int, ite_tt, ite_ff, ln1, ln0, gd1, gd0, rev2, rev3, ap0, ap1, not_t, not_f, at_p, at_b, at_g, at_n, isCurve_curve, Nat.reduceAdd, sub_tup, pl0_2, pl1_2, pl0_3, pl1_3, pl2_3, gc1, gc0]))
        exact h
    · rw [if_neg (fun q => hx q.1), if_neg hx] at h
      refine br_f (hx) ?_; (repeat (first | (with_reducible first | refine ct_none ?_ | refine ct_some ?_ | refine ex_cons ?_ | refine ex_nil ?_ | refine ite_dec ?_ | refine ite_ndec ?_ | refine and_le rfl ?_ | refine and_tr ?_) | dsimp only [fnW, bindNames, bindNest, upd, look, Nat.reduceBEq, cond_true, cond_false, execW, evalW, evalsW, orW, andW, chainW, bt_name, bt_names, bt_swap, bt_nest, cw_eq, cw_ne, cw_lt, cw_le, cw_gt, cw_ge, cw_is_nn, cw_is_tn, cw_isnot_nn, cw_isnot_tn, bw_add, bw_sub, bw_mul, bw_mod, bw_fdiv, bw_pow, bw_lsh, bw_rsh, bw_and, tob_bool, toi_int, ite_tt, ite_ff, ln1, ln0, gd1, gd0, rev2, rev3, ap0, ap1, not_t, not_f, at_p, at_b, at_g, at_n, isCurve_curve, Nat.reduceAdd, sub_tup, pl0_2, pl1_2, pl0_3, pl1_3, pl2_3, gc1, gc0]))
      refine br_f (hx) ?_; (repeat (first | (with_reducible first | refine ct_none ?_ | refine ct_some ?_ | refine ex_cons ?_ | refine ex_nil ?_ | refine ite_dec ?_ | refine ite_ndec ?_ | refine and_le rfl ?_ | refine and_tr ?_) | dsimp only [fnW, bindNames, bindNest, upd, look, Nat.reduceBEq, cond_true, cond_false, execW, evalW, evalsW, orW, andW, chainW, bt_name, bt_names, bt_swap, bt_nest, cw_eq, cw_ne, cw_lt, cw_le, cw_gt, cw_ge, cw_is_nn, cw_is_tn, cw_isnot_nn, cw_isnot_tn, bw_add, bw_sub, bw_mul, bw_mod, bw_fdiv, bw_pow, bw_lsh, bw_rsh, bw_and, tob_bool, toi_int, ite_tt, ite_ff, ln1, ln0, gd1, gd0, rev2, rev3, ap0, ap1, not_t, not_f, at_p, at_b, at_g, at_n, isCurve_curve, Nat.reduceAdd, sub_tup, pl0_2, pl1_2, pl0_3, pl1_3, pl2_3, gc1, gc0]))
      (repeat (first | (with_reducible refine And.intro (by first | with_reducible assumption | (refine Bn.small ?_; (repeat' first | (with_reducible refine Bn.base ?_; with_reducible assumption) | with_reducible refine Bn.mul ?_ ?_ | with_reducible refine Bn.add ?_ ?_ | with_reducible refine Bn.sub ?_ ?_ | with_reducible refine Bn.neg ?_ | (with_reducible refine Bn.mod ?_ (by with_reducible assumption); first | with_reducible assumption | omega) | exact Bn.lit (by decide)); done) | omega) ?_) | (with_reducible first | refine ct_none ?_ | refine ct_some ?_ | refine ex_cons ?_ | refine ex_nil ?_ | refine ite_dec ?_ | refine ite_ndec ?_ | refine and_le rfl ?_ | refine and_tr ?_) | dsimp only [fnW, bindNames, bindNest, upd, look, Nat.reduceBEq, cond_true, cond_false, execW, evalW, evalsW, orW, andW, chainW, bt_name, bt_names, bt_swap, bt_nest, cw_eq, cw_ne, cw_lt, cw_le, cw_gt, cw_ge, cw_is_nn, cw_is_tn, cw_isnot_nn, cw_isnot_tn, bw_add, bw_sub, bw_mul, bw_mod, bw_fdiv, bw_pow, bw_lsh, bw_rsh, bw_and, tob_bool, toi_int, ite_tt, ite_ff, ln1, ln0, gd1, gd0, rev2, rev3, ap0, ap1, not_t, not_f, at_p, at_b, at_g, at_n, isCurve_curve, Nat.reduceAdd, sub_tup, pl0_2, pl1_2, pl0_3, pl1_3, pl2_3, gc1, gc0]))
      refine sub_ints hi (m0 _) (m1 _) (by omega) ?_
      (repeat (first | (with_reducible first | refine ct_none ?_ | refine ct_some ?_ | refine ex_cons ?_ | refine ex_nil ?_ | refine ite_dec ?_ | refine ite_ndec ?_ | refine and_le rfl ?_ | refine and_tr ?_) | dsimp only [fnW, bindNames, bindNest, upd, look, Nat.reduceBEq, cond_true, cond_false, execW, evalW, evalsW, orW, andW, chainW, bt_name, bt_names, bt_swap, bt_nest, cw_eq, cw_ne, cw_lt, cw_le, cw_gt, cw_ge, cw_is_nn, cw_is_tn, cw_isnot_nn, cw_isnot_tn, bw_add, bw_sub, bw_mul, bw_mod, bw_fdiv, bw_pow, bw_lsh, bw_rsh, bw_and, tob_bool, toi_int, ite_tt, ite_ff, ln1, ln0, gd1, gd0, rev2, rev3, ap0, ap1, not_t, not_f, at_p, at_b, at_g, at_n, isCurve_curve, Nat.reduceAdd, sub_tup, pl0_2, pl1_2, pl0_3, pl1_3, pl2_3, gc1, gc0]))
      have bb := bg ((u - x) % p).toNat
      (repeat (first | (with_reducible refine And.intro (by first | with_reducible assumption | (refine Bn.small ?_; (repeat' first | (with_reducible refine Bn.base ?_; with_reducible assumption) | with_reducible refine Bn.mul ?_ ?_ | with_reducible refine Bn.add ?_ ?_ | with_reducible refine Bn.sub ?_ ?_ | with_reducible refine Bn.neg ?_ | (with_reducible refine Bn.mod ?_ (by with_reducible assumption); first | with_reducible assumption | omega) | exact Bn.lit (by decide)); done) | omega) ?_) | (with_reducible first | refine ct_none ?_ | refine ct_some ?_ | refine ex_cons ?_ | refine ex_nil ?_ | refine ite_dec ?_ | refine ite_ndec ?_ | refine and_le rfl ?_ | refine and_tr ?_) | dsimp only [fnW, bindNames, bindNest, upd, look, Nat.reduceBEq, cond_true, cond_false, execW, evalW, evalsW, orW, andW, chainW, bt_name, bt_names, bt_swap, bt_nest, cw_eq, cw_ne, cw_lt, cw_le, cw_gt, cw_ge, cw_is_nn, cw_is_tn, cw_isnot_nn, cw_isnot_tn, bw_add, bw_sub, bw_mul, bw_mod, bw_fdiv, bw_pow, bw_lsh, bw_rsh, bw_and, tob_bool, toi_int, ite_tt, ite_ff, ln1, ln0, gd1, gd0, rev2, rev3, ap0, ap1, not_t, not_f, at_p, at_b, at_g, at_n, isCurve_curve, Nat.reduceAdd, sub_tup, pl0_2, pl1_2, pl0_3, pl1_3, pl2_3, gc1, gc0]))
      exact h
theorem bdp_sumF {p : Int} {inv : List Int} (hp : 0 < p) (bp : Bd p) : ∀ {P R : Pt}, BdP P → BdP R → BdP (sumF p inv P R)
  | Option.none, _, _, h => h
  | some _, Option.none, h, _ => h
  | some (x, y), some (u, v), _, _ => by
    unfold sumF
    dsimp only
    split
    · trivial
    · exact ⟨bd_mod hp bp, bd_mod hp bp⟩

theorem rw_int {i j : Int} {st : St} {Q : List AV → Option Nat → St → Prop} : rngW (.int i) (.int j) st Q = (-1000000 ≤ i ∧ i ≤ 1000000 ∧ -1000000 ≤ j ∧ j ≤ 1000000 ∧ Q (rangeItems i j) Option.none st) := rfl
theorem ri_get {a b : Int} {n : Nat} {v : AV} (h : (rangeItems a b)[n]? = some v) : n < (b - a).toNat ∧ v = .int (a + (n : Int)) := by
  unfold rangeItems at h
  rw [List.getElem?_map] at h
  by_cases hn : n < (b - a).toNat
  · rw [List.getElem?_range hn] at h
    exact ⟨hn, (Option.some.inj h).symm⟩
  · rw [List.getElem?_eq_none (by simp; omega)] at h; cases h
theorem ri_len {a b : Int} : (rangeItems a b).length = (b - a).toNat := by unfold rangeItems; simp
theorem ap_lst {k : Nat} {l : List AV} {d : AV} {st : St} {Q : St → Prop} (h1 : st[k]? = some l) (h2 : l.length ≤ 1000) (h : Q (st.set k (l ++ [d]))) : appendW (.lst k) d st Q := by
  unfold appendW
  simp only [h1]
  exact ⟨h2, h⟩

noncomputable def invUpto (q : Int) : Nat → List Int
  | 0 => [0, 1]
  | i + 1 => invUpto q i ++ [(q - q / (2 + (i : Int))) * (invUpto q i).getD (q % (2 + (i : Int))).toNat 0 % q]
theorem invUpto_len (q : Int) : ∀ i, (invUpto q i).length = i + 2
  | 0 => rfl
  | i + 1 => by unfold invUpto; rw [List.length_append, invUpto_len q i]; rfl
theorem invUpto_bd {q : Int} (hq : 0 < q) (bq : Bd q) : ∀ i, ∀ a ∈ invUpto q i, Bd a
  | 0, a, h => by
    unfold invUpto at h
    simp only [List.mem_cons, List.not_mem_nil, or_false] at h
    rcases h with rfl | rfl <;> (unfold Bd; decide)
  | i + 1, a, h => by
    unfold invUpto at h
    rcases List.mem_append.mp h with h | h
    · exact invUpto_bd hq bq i a h
    · rw [List.mem_singleton.mp h]; exact bd_mod hq bq
noncomputable def invF (q : Int) : List Int := invUpto q (q - 2).toNat
theorem c_inverses (n : Nat) {q : Int} {st : St} {Q : AV → St → Prop} (hq : 2 ≤ q) (hq2 : q ≤ 500) (bq : Bd q) (h : Q (.lst st.length) (st ++ [(invF q).map .int])) : callW (n + 1) 16 [.int q] st Q := by
  refine callW_fn (by decide) (by decide) (by decide) rfl ?_
  delta a_law_inverses b_law_inverses
  (repeat (first | (with_reducible first | refine ct_none ?_ | refine ct_some ?_ | refine ex_cons ?_ | refine ex_nil ?_ | refine ite_dec ?_ | refine ite_ndec ?_ | refine and_le rfl ?_ | refine and_tr ?_) | dsimp only [fnW, bindNames, bindNest, upd, look, Nat.reduceBEq, cond_true, cond_false, execW, evalW, evalsW, orW, andW, chainW, bt_name, bt_names, bt_swap, bt_nest, cw_eq, cw_ne, cw_lt, cw_le, cw_gt, cw_ge, cw_is_nn, cw_is_tn, cw_isnot_nn, cw_isnot_tn, bw_add, bw_sub, bw_mul, bw_mod, bw_fdiv, bw_pow, bw_lsh, bw_rsh, bw_and, tob_bool, toi_int, ite_tt, ite_ff, ln1, ln0, gd1, gd0, rev2, rev3, ap0, ap1, not_t, not_f, at_p, at_b, at_g, at_n, isCurve_curve, Nat.reduceAdd, sub_tup, pl0_2, pl1_2, pl0_3, pl1_3, pl2_3, gc1, gc0, itW, rw_int]))
  (repeat (first | (with_reducible refine And.intro (by first | with_reducible assumption | (refine Bn.small ?_; (repeat' first | (with_reducible refine Bn.base ?_; with_reducible assumption) | with_reducible refine Bn.mul ?_ ?_ | with_reducible refine Bn.add ?_ ?_ | with_reducible refine Bn.sub ?_ ?_ | with_reducible refine Bn.neg ?_ | (with_reducible refine Bn.mod ?_ (by with_reducible assumption); first | with_reducible assumption | omega) | exact Bn.lit (by decide)); done) | omega) ?_) | (with_reducible first | refine ct_none ?_ | refine ct_some ?_ | refine ex_cons ?_ | refine ex_nil ?_ | refine ite_dec ?_ | refine ite_ndec ?_ | refine and_le rfl ?_ | refine and_tr ?_) | dsimp only [fnW, bindNames, bindNest, upd, look, Nat.reduceBEq, cond_true, cond_false, execW, evalW, evalsW, orW, andW, chainW, bt_name, bt_names, bt_swap, bt_nest, cw_eq, cw_ne, cw_lt, cw_le, cw_gt, cw_ge, cw_is_nn, cw_is_tn, cw_isnot_nn, cw_isnot_tn, bw_add, bw_sub, bw_mul, bw_mod, bw_fdiv, bw_pow, bw_lsh, bw_rsh, bw_and, tob_bool, toi_int, ite_tt, ite_ff, ln1, ln0, gd1, gd0, rev2, rev3, ap0, ap1, not_t, not_f, at_p, at_b, at_g, at_n, isCurve_curve, Nat.reduceAdd, sub_tup, pl0_2, pl1_2, pl0_3, pl1_3, pl2_3, gc1, gc0]))
  refine ⟨fun i loc st' => look loc 30 = some (.int q) ∧ look loc 11 = some (.lst st.length) ∧ st' = st ++ [(invUpto q i).map .int], ⟨rfl, rfl, rfl⟩, ?_, ?_⟩
  · rintro i v loc st' ⟨h1, h2, rfl⟩ hv
    obtain ⟨hi, rfl⟩ := ri_get hv
    refine ⟨trivial, ?_⟩
    (repeat (first | (with_reducible first | refine ct_none ?_ | refine ct_some ?_ | refine ex_cons ?_ | refine ex_nil ?_ | refine ite_dec ?_ | refine ite_ndec ?_ | refine and_le rfl ?_ | refine and_tr ?_) | dsimp only [fnW, bindNames, bindNest, upd, look, Nat.reduceBEq, cond_true, cond_false, execW, evalW, evalsW, orW, andW, chainW, bt_name, bt_names, bt_swap, bt_nest, cw_eq, cw_ne, cw_lt, cw_le, cw_gt, cw_ge, cw_is_nn, cw_is_tn, cw_isnot_nn, cw_isnot_tn, bw_add, bw_sub, bw_mul, bw_mod, bw_fdiv, bw_pow, bw_lsh, bw_rsh, bw_and, tob_bool, toi_int, ite_tt, ite_ff, ln1, ln0, gd1, gd0, rev2, rev3, ap0, ap1, not_t, not_f, at_p, at_b, at_g, at_n, isCurve_curve, Nat.reduceAdd, sub_tup, pl0_2, pl1_2, pl0_3, pl1_3, pl2_3, gc1, gc0] | (refine' lk_m ?lk ?_; (case lk => (repeat' first | (show look _ _ = _; with_reducible assumption) | exact lk_eq | exact rfl | refine' lk_ne ?_ (by rfl))))))
    have q0 : 0 < q := by omega
    have i2 : (0 : Int) < 2 + (i : Int) := by omega
    refine ⟨i2, by omega, ?_⟩
    (repeat (first | (with_reducible first | refine ct_none ?_ | refine ct_some ?_ | refine ex_cons ?_ | refine ex_nil ?_ | refine ite_dec ?_ | refine ite_ndec ?_ | refine and_le rfl ?_ | refine and_tr ?_) | dsimp only [fnW, bindNames, bindNest, upd, look, Nat.reduceBEq, cond_true, cond_false, execW, evalW, evalsW, orW, andW, chainW, bt_name, bt_names, bt_swap, bt_nest, cw_eq, cw_ne, cw_lt, cw_le, cw_gt, cw_ge, cw_is_nn, cw_is_tn, cw_isnot_nn, cw_isnot_tn, bw_add, bw_sub, bw_mul, bw_mod, bw_fdiv, bw_pow, bw_lsh, bw_rsh, bw_and, tob_bool, toi_int, ite_tt, ite_ff, ln1, ln0, gd1, gd0, rev2, rev3, ap0, ap1, not_t, not_f, at_p, at_b, at_g, at_n, isCurve_curve, Nat.reduceAdd, sub_tup, pl0_2, pl1_2, pl0_3, pl1_3, pl2_3, gc1, gc0] | (refine' lk_m ?lk ?_; (case lk => (repeat' first | (show look _ _ = _; with_reducible assumption) | exact lk_eq | exact rfl | refine' lk_ne ?_ (by rfl))))))
    refine ⟨i2, ?_⟩
    (repeat (first | (with_reducible first | refine ct_none ?_ | refine ct_some ?_ | refine ex_cons ?_ | refine ex_nil ?_ | refine ite_dec ?_ | refine ite_ndec ?_ | refine and_le rfl ?_ | refine and_tr ?_) | dsimp only [fnW, bindNames, bindNest, upd, look, Nat.reduceBEq, cond_true, cond_false, execW, evalW, evalsW, orW, andW, chainW, bt_name, bt_names, bt_swap, bt_nest, cw_eq, cw_ne, cw_lt, cw_le, cw_gt, cw_ge, cw_is_nn, cw_is_tn, cw_isnot_nn, cw_isnot_tn, bw_add, bw_sub, bw_mul, bw_mod, bw_fdiv, bw_pow, bw_lsh, bw_rsh, bw_and, tob_bool, toi_int, ite_tt, ite_ff, ln1, ln0, gd1, gd0, rev2, rev3, ap0, ap1, not_t, not_f, at_p, at_b, at_g, at_n, isCurve_curve, Nat.reduceAdd, sub_tup, pl0_2, pl1_2, pl0_3, pl1_3, pl2_3, gc1, gc0] | (refine' lk_m ?lk ?_; (case lk => (repeat' first | (show look _ _ = _; with_reducible assumption) | exact lk_eq | exact rfl | refine' lk_ne ?_ (by rfl))))))
    have hlen := invUpto_len q i
    have r0 := Int.emod_nonneg q (Int.ne_of_gt i2)
    have r1 := Int.emod_lt_of_pos q i2
    refine sub_ints (gl st _) r0 (by omega) (by omega) ?_
    (repeat (first | (with_reducible first | refine ct_none ?_ | refine ct_some ?_ | refine ex_cons ?_ | refine ex_nil ?_ | refine ite_dec ?_ | refine ite_ndec ?_ | refine and_le rfl ?_ | refine and_tr ?_) | dsimp only [fnW, bindNames, bindNest, upd, look, Nat.reduceBEq, cond_true, cond_false, execW, evalW, evalsW, orW, andW, chainW, bt_name, bt_names, bt_swap, bt_nest, cw_eq, cw_ne, cw_lt, cw_le, cw_gt, cw_ge, cw_is_nn, cw_is_tn, cw_isnot_nn, cw_isnot_tn, bw_add, bw_sub, bw_mul, bw_mod, bw_fdiv, bw_pow, bw_lsh, bw_rsh, bw_and, tob_bool, toi_int, ite_tt, ite_ff, ln1, ln0, gd1, gd0, rev2, rev3, ap0, ap1, not_t, not_f, at_p, at_b, at_g, at_n, isCurve_curve, Nat.reduceAdd, sub_tup, pl0_2, pl1_2, pl0_3, pl1_3, pl2_3, gc1, gc0] | (refine' lk_m ?lk ?_; (case lk => (repeat' first | (show look _ _ = _; with_reducible assumption) | exact lk_eq | exact rfl | refine' lk_ne ?_ (by rfl))))))
    have bb := bd_getD (invUpto_bd q0 bq i) (q % (2 + (i : Int))).toNat
    have bdv : Bd (q / (2 + (i : Int))) := by
      have a1 : 0 ≤ q / (2 + (i : Int)) := Int.ediv_nonneg (by omega) (by omega)
      have a2 : q / (2 + (i : Int)) ≤ q := Int.ediv_le_self _ (by omega)
      unfold Bd at *; omega
    (repeat (first | (with_reducible refine And.intro (by first | with_reducible assumption | (refine Bn.small ?_; (repeat' first | (with_reducible refine Bn.base ?_; with_reducible assumption) | with_reducible refine Bn.mul ?_ ?_ | with_reducible refine Bn.add ?_ ?_ | with_reducible refine Bn.sub ?_ ?_ | with_reducible refine Bn.neg ?_ | (with_reducible refine Bn.mod ?_ (by with_reducible assumption); first | with_reducible assumption | omega) | exact Bn.lit (by decide)); done) | omega) ?_) | (with_reducible first | refine ct_none ?_ | refine ct_some ?_ | refine ex_cons ?_ | refine ex_nil ?_ | refine ite_dec ?_ | refine ite_ndec ?_ | refine and_le rfl ?_ | refine and_tr ?_) | dsimp only [fnW, bindNames, bindNest, upd, look, Nat.reduceBEq, cond_true, cond_false, execW, evalW, evalsW, orW, andW, chainW, bt_name, bt_names, bt_swap, bt_nest, cw_eq, cw_ne, cw_lt, cw_le, cw_gt, cw_ge, cw_is_nn, cw_is_tn, cw_isnot_nn, cw_isnot_tn, bw_add, bw_sub, bw_mul, bw_mod, bw_fdiv, bw_pow, bw_lsh, bw_rsh, bw_and, tob_bool, toi_int, ite_tt, ite_ff, ln1, ln0, gd1, gd0, rev2, rev3, ap0, ap1, not_t, not_f, at_p, at_b, at_g, at_n, isCurve_curve, Nat.reduceAdd, sub_tup, pl0_2, pl1_2, pl0_3, pl1_3, pl2_3, gc1, gc0] | (refine' lk_m ?lk ?_; (case lk => (repeat' first | (show look _ _ = _; with_reducible assumption) | exact lk_eq | exact rfl | refine' lk_ne ?_ (by rfl))))))
    refine ap_lst (gl st _) (by rw [List.length_map, hlen]; omega) ?_
    rw [sl]
    (repeat (first | (with_reducible first | refine ct_none ?_ | refine ct_some ?_ | refine ex_cons ?_ | refine ex_nil ?_ | refine ite_dec ?_ | refine ite_ndec ?_ | refine and_le rfl ?_ | refine and_tr ?_) | dsimp only [fnW, bindNames, bindNest, upd, look, Nat.reduceBEq, cond_true, cond_false, execW, evalW, evalsW, orW, andW, chainW, bt_name, bt_names, bt_swap, bt_nest, cw_eq, cw_ne, cw_lt, cw_le, cw_gt, cw_ge, cw_is_nn, cw_is_tn, cw_isnot_nn, cw_isnot_tn, bw_add, bw_sub, bw_mul, bw_mod, bw_fdiv, bw_pow, bw_lsh, bw_rsh, bw_and, tob_bool, toi_int, ite_tt, ite_ff, ln1, ln0, gd1, gd0, rev2, rev3, ap0, ap1, not_t, not_f, at_p, at_b, at_g, at_n, isCurve_curve, Nat.reduceAdd, sub_tup, pl0_2, pl1_2, pl0_3, pl1_3, pl2_3, gc1, gc0] | (refine' lk_m ?lk ?_; (case lk => (repeat' first | (show look _ _ = _; with_reducible assumption) | exact lk_eq | exact rfl | refine' lk_ne ?_ (by rfl))))))
    exact ⟨by (repeat' first | (show look _ _ = _; with_reducible assumption) | exact lk_eq | exact rfl | refine' lk_ne ?_ (by rfl)), by (repeat' first | (show look _ _ = _; with_reducible assumption) | exact lk_eq | exact rfl | refine' lk_ne ?_ (by rfl)), by rw [invUpto, List.map_append]; rfl⟩
  · rintro loc st' ⟨h1, h2, rfl⟩
    refine ⟨trivial, ?_⟩
    (repeat (first | (with_reducible first | refine ct_none ?_ | refine ct_some ?_ | refine ex_cons ?_ | refine ex_nil ?_ | refine ite_dec ?_ | refine ite_ndec ?_ | refine and_le rfl ?_ | refine and_tr ?_) | dsimp only [fnW, bindNames, bindNest, upd, look, Nat.reduceBEq, cond_true, cond_false, execW, evalW, evalsW, orW, andW, chainW, bt_name, bt_names, bt_swap, bt_nest, cw_eq, cw_ne, cw_lt, cw_le, cw_gt, cw_ge, cw_is_nn, cw_is_tn, cw_isnot_nn, cw_isnot_tn, bw_add, bw_sub, bw_mul, bw_mod, bw_fdiv, bw_pow, bw_lsh, bw_rsh, bw_and, tob_bool, toi_int, ite_tt, ite_ff, ln1, ln0, gd1, gd0, rev2, rev3, ap0, ap1, not_t, not_f, at_p, at_b, at_g, at_n, isCurve_curve, Nat.reduceAdd, sub_tup, pl0_2, pl1_2, pl0_3, pl1_3, pl2_3, gc1, gc0] | (refine' lk_m ?lk ?_; (case lk => (repeat' first | (show look _ _ = _; with_reducible assumption) | exact lk_eq | exact rfl | refine' lk_ne ?_ (by rfl))))))
    rw [ri_len]
    exact h
end Mine
set_option maxRecDepth 100000
set_option maxHeartbeats 4000000
set_option linter.unusedSimpArgs false
set_option linter.unusedVariables false
set_option exponentiation.threshold 300
namespace Mine
open PySem PySem.W PyProof.Rows

noncomputable def kth (p : Int) (inv : List Int) (first : Pt) : Nat → Pt
  | 0 => Option.none
  | i + 1 => sumF p inv (kth p inv first i) first
theorem kth_bd {p : Int} {inv : List Int} {first : Pt} (hp : 0 < p) (bp : Bd p) (bf : BdP first) : ∀ i, BdP (kth p inv first i)
  | 0 => trivial
  | i + 1 => bdp_sumF hp bp (kth_bd hp bp bf i) bf
noncomputable def tabF (p : Int) (first : Pt) (m : Nat) : List Pt := (List.range m).map (kth p (invF p) first)
theorem tab_succ (p : Int) (first : Pt) (i : Nat) : (tabF p first (i + 1)).map pt ++ [pt (kth p (invF p) first (i + 1))] = (tabF p first (i + 2)).map pt := by
  unfold tabF
  rw [List.range_succ (n := i + 1), List.map_append, List.map_append]
  rfl
theorem c_multiples (n : Nat) {p m : Int} {first : Pt} {st : St} {Q : AV → St → Prop} (hp : 2 ≤ p) (hp2 : p ≤ 500) (hm : 1 ≤ m) (hm2 : m ≤ 500) (bf : BdP first)
    (h : Q (.lst (st.length + 1)) ((st ++ [(invF p).map .int]) ++ [(tabF p first m.toNat).map pt])) : callW (n + 2) 19 [.int p, .int m, pt first] st Q := by
  have bp : Bd p := by unfold Bd; have : (2 : Nat) ^ 300 > 500 := by decide
                       omega
  refine callW_fn (by decide) (by decide) (by decide) rfl ?_
  delta a_law_multiples b_law_multiples
  (repeat (first | (with_reducible first | refine ct_none ?_ | refine ct_some ?_ | refine ex_cons ?_ | refine ex_nil ?_ | refine ite_dec ?_ | refine ite_ndec ?_ | refine and_le rfl ?_ | refine and_tr ?_) | dsimp only [fnW, bindNames, bindNest, upd, look, Nat.reduceBEq, cond_true, cond_false, execW, evalW, evalsW, orW, andW, chainW, bt_name, bt_names, bt_swap, bt_nest, cw_eq, cw_ne, cw_lt, cw_le, cw_gt, cw_ge, cw_is_nn, cw_is_tn, cw_isnot_nn, cw_isnot_tn, bw_add, bw_sub, bw_mul, bw_mod, bw_fdiv, bw_pow, bw_lsh, bw_rsh, bw_and, tob_bool, toi_int, ite_tt, ite_ff, ln1, ln0, gd1, gd0, rev2, rev3, ap0, ap1, not_t, not_f, at_p, at_b, at_g, at_n, isCurve_curve, Nat.reduceAdd, sub_tup, pl0_2, pl1_2, pl0_3, pl1_3, pl2_3, gc1, gc0, itW, rw_int]))
  refine c_inverses n hp hp2 bp ?_
  (repeat (first | (with_reducible first | refine ct_none ?_ | refine ct_some ?_ | refine ex_cons ?_ | refine ex_nil ?_ | refine ite_dec ?_ | refine ite_ndec ?_ | refine and_le rfl ?_ | refine and_tr ?_) | dsimp only [fnW, bindNames, bindNest, upd, look, Nat.reduceBEq, cond_true, cond_false, execW, evalW, evalsW, orW, andW, chainW, bt_name, bt_names, bt_swap, bt_nest, cw_eq, cw_ne, cw_lt, cw_le, cw_gt, cw_ge, cw_is_nn, cw_is_tn, cw_isnot_nn, cw_isnot_tn, bw_add, bw_sub, bw_mul, bw_mod, bw_fdiv, bw_pow, bw_lsh, bw_rsh, bw_and, tob_bool, toi_int, ite_tt, ite_ff, ln1, ln0, gd1, gd0, rev2, rev3, ap0, ap1, not_t, not_f, at_p, at_b, at_g, at_n, isCurve_curve, Nat.reduceAdd, sub_tup, pl0_2, pl1_2, pl0_3, pl1_3, pl2_3, gc1, gc0, itW, rw_int]))
  (repeat (first | (with_reducible refine And.intro (by first | with_reducible assumption | (refine Bn.small ?_; (repeat' first | (with_reducible refine Bn.base ?_; with_reducible assumption) | with_reducible refine Bn.mul ?_ ?_ | with_reducible refine Bn.add ?_ ?_ | with_reducible refine Bn.sub ?_ ?_ | with_reducible refine Bn.neg ?_ | (with_reducible refine Bn.mod ?_ (by with_reducible assumption); first | with_reducible assumption | omega) | exact Bn.lit (by decide)); done) | omega) ?_) | (with_reducible first | refine ct_none ?_ | refine ct_some ?_ | refine ex_cons ?_ | refine ex_nil ?_ | refine ite_dec ?_ | refine ite_ndec ?_ | refine and_le rfl ?_ | refine and_tr ?_) | dsimp only [fnW, bindNames, bindNest, upd, look, Nat.reduceBEq, cond_true, cond_false, execW, evalW, evalsW, orW, andW, chainW, bt_name, bt_names, bt_swap, bt_nest, cw_eq, cw_ne, cw_lt, cw_le, cw_gt, cw_ge, cw_is_nn, cw_is_tn, cw_isnot_nn, cw_isnot_tn, bw_add, bw_sub, bw_mul, bw_mod, bw_fdiv, bw_pow, bw_lsh, bw_rsh, bw_and, tob_bool, toi_int, ite_tt, ite_ff, ln1, ln0, gd1, gd0, rev2, rev3, ap0, ap1, not_t, not_f, at_p, at_b, at_g, at_n, isCurve_curve, Nat.reduceAdd, sub_tup, pl0_2, pl1_2, pl0_3, pl1_3, pl2_3, gc1, gc0]))
  have e1 : (st ++ [(invF p).map AV.int]).length = st.length + 1 := by simp
  refine ⟨fun i loc st' => look loc 25 = some (.int p) ∧ look loc 15 = some (.lst st.length) ∧ look loc 44 = some (.lst (st.length + 1)) ∧ look loc 10 = some (pt first) ∧ st' = (st ++ [(invF p).map .int]) ++ [(tabF p first (i + 1)).map pt],
    ⟨rfl, rfl, by rw [← e1]; rfl, rfl, rfl⟩, ?_, ?_⟩
  · rintro i v loc st' ⟨h1, h2, h3, h4, rfl⟩ hv
    obtain ⟨hi, rfl⟩ := ri_get hv
    refine ⟨trivial, ?_⟩
    (repeat (first | (with_reducible first | refine ct_none ?_ | refine ct_some ?_ | refine ex_cons ?_ | refine ex_nil ?_ | refine ite_dec ?_ | refine ite_ndec ?_ | refine and_le rfl ?_ | refine and_tr ?_) | dsimp only [fnW, bindNames, bindNest, upd, look, Nat.reduceBEq, cond_true, cond_false, execW, evalW, evalsW, orW, andW, chainW, bt_name, bt_names, bt_swap, bt_nest, cw_eq, cw_ne, cw_lt, cw_le, cw_gt, cw_ge, cw_is_nn, cw_is_tn, cw_isnot_nn, cw_isnot_tn, bw_add, bw_sub, bw_mul, bw_mod, bw_fdiv, bw_pow, bw_lsh, bw_rsh, bw_and, tob_bool, toi_int, ite_tt, ite_ff, ln1, ln0, gd1, gd0, rev2, rev3, ap0, ap1, not_t, not_f, at_p, at_b, at_g, at_n, isCurve_curve, Nat.reduceAdd, sub_tup, pl0_2, pl1_2, pl0_3, pl1_3, pl2_3, gc1, gc0] | (refine' lk_m ?lk ?_; (case lk => (repeat' first | (show look _ _ = _; with_reducible assumption) | exact lk_eq | exact rfl | refine' lk_ne ?_ (by rfl))))))
    have g1 : ((st ++ [(invF p).map AV.int]) ++ [(tabF p first (i + 1)).map pt])[st.length + 1]? = some ((tabF p first (i + 1)).map pt) := by rw [← e1]; exact gl _ _
    have g2 : ((st ++ [(invF p).map AV.int]) ++ [(tabF p first (i + 1)).map pt])[st.length]? = some ((invF p).map AV.int) := getElem?_prefix (gl _ _)
    have hlen : ((tabF p first (i + 1)).map pt).length = i + 1 := by simp [tabF]
    refine sub_lst g1 (by rw [hlen]; exact place_last i (by omega)) (d := pt (kth p (invF p) first i)) (by simp [tabF]) ?_
    (repeat (first | (with_reducible first | refine ct_none ?_ | refine ct_some ?_ | refine ex_cons ?_ | refine ex_nil ?_ | refine ite_dec ?_ | refine ite_ndec ?_ | refine and_le rfl ?_ | refine and_tr ?_) | dsimp only [fnW, bindNames, bindNest, upd, look, Nat.reduceBEq, cond_true, cond_false, execW, evalW, evalsW, orW, andW, chainW, bt_name, bt_names, bt_swap, bt_nest, cw_eq, cw_ne, cw_lt, cw_le, cw_gt, cw_ge, cw_is_nn, cw_is_tn, cw_isnot_nn, cw_isnot_tn, bw_add, bw_sub, bw_mul, bw_mod, bw_fdiv, bw_pow, bw_lsh, bw_rsh, bw_and, tob_bool, toi_int, ite_tt, ite_ff, ln1, ln0, gd1, gd0, rev2, rev3, ap0, ap1, not_t, not_f, at_p, at_b, at_g, at_n, isCurve_curve, Nat.reduceAdd, sub_tup, pl0_2, pl1_2, pl0_3, pl1_3, pl2_3, gc1, gc0] | (refine' lk_m ?lk ?_; (case lk => (repeat' first | (show look _ _ = _; with_reducible assumption) | exact lk_eq | exact rfl | refine' lk_ne ?_ (by rfl))))))
    have hp0 : 0 < p := by omega
    refine c_sum n hp0 bp g2 (by unfold invF; rw [invUpto_len]; omega) (by omega) (invUpto_bd hp0 bp _) (kth_bd hp0 bp bf i) bf ?_
    (repeat (first | (with_reducible first | refine ct_none ?_ | refine ct_some ?_ | refine ex_cons ?_ | refine ex_nil ?_ | refine ite_dec ?_ | refine ite_ndec ?_ | refine and_le rfl ?_ | refine and_tr ?_) | dsimp only [fnW, bindNames, bindNest, upd, look, Nat.reduceBEq, cond_true, cond_false, execW, evalW, evalsW, orW, andW, chainW, bt_name, bt_names, bt_swap, bt_nest, cw_eq, cw_ne, cw_lt, cw_le, cw_gt, cw_ge, cw_is_nn, cw_is_tn, cw_isnot_nn, cw_isnot_tn, bw_add, bw_sub, bw_mul, bw_mod, bw_fdiv, bw_pow, bw_lsh, bw_rsh, bw_and, tob_bool, toi_int, ite_tt, ite_ff, ln1, ln0, gd1, gd0, rev2, rev3, ap0, ap1, not_t, not_f, at_p, at_b, at_g, at_n, isCurve_curve, Nat.reduceAdd, sub_tup, pl0_2, pl1_2, pl0_3, pl1_3, pl2_3, gc1, gc0] | (refine' lk_m ?lk ?_; (case lk => (repeat' first | (show look _ _ = _; with_reducible assumption) | exact lk_eq | exact rfl | refine' lk_ne ?_ (by rfl))))))
    refine ap_lst g1 (by rw [hlen]; omega) ?_
    have e2 : ((st ++ [(invF p).map AV.int]) ++ [(tabF p first (i + 1)).map pt]).set (st.length + 1) ((tabF p first (i + 1)).map pt ++ [pt (sumF p (invF p) (kth p (invF p) first i) first)]) = (st ++ [(invF p).map AV.int]) ++ [(tabF p first (i + 2)).map pt] := by
      rw [← e1, sl, ← tab_succ]; rfl
    rw [e2]
    (repeat (first | (with_reducible first | refine ct_none ?_ | refine ct_some ?_ | refine ex_cons ?_ | refine ex_nil ?_ | refine ite_dec ?_ | refine ite_ndec ?_ | refine and_le rfl ?_ | refine and_tr ?_) | dsimp only [fnW, bindNames, bindNest, upd, look, Nat.reduceBEq, cond_true, cond_false, execW, evalW, evalsW, orW, andW, chainW, bt_name, bt_names, bt_swap, bt_nest, cw_eq, cw_ne, cw_lt, cw_le, cw_gt, cw_ge, cw_is_nn, cw_is_tn, cw_isnot_nn, cw_isnot_tn, bw_add, bw_sub, bw_mul, bw_mod, bw_fdiv, bw_pow, bw_lsh, bw_rsh, bw_and, tob_bool, toi_int, ite_tt, ite_ff, ln1, ln0, gd1, gd0, rev2, rev3, ap0, ap1, not_t, not_f, at_p, at_b, at_g, at_n, isCurve_curve, Nat.reduceAdd, sub_tup, pl0_2, pl1_2, pl0_3, pl1_3, pl2_3, gc1, gc0] | (refine' lk_m ?lk ?_; (case lk => (repeat' first | (show look _ _ = _; with_reducible assumption) | exact lk_eq | exact rfl | refine' lk_ne ?_ (by rfl))))))
    exact ⟨by (repeat' first | (show look _ _ = _; with_reducible assumption) | exact lk_eq | exact rfl | refine' lk_ne ?_ (by rfl)), by (repeat' first | (show look _ _ = _; with_reducible assumption) | exact lk_eq | exact rfl | refine' lk_ne ?_ (by rfl)), by (repeat' first | (show look _ _ = _; with_reducible assumption) | exact lk_eq | exact rfl | refine' lk_ne ?_ (by rfl)), by (repeat' first | (show look _ _ = _; with_reducible assumption) | exact lk_eq | exact rfl | refine' lk_ne ?_ (by rfl)), rfl⟩
  · rintro loc st' ⟨h1, h2, h3, h4, rfl⟩
    refine ⟨trivial, ?_⟩
    (repeat (first | (with_reducible first | refine ct_none ?_ | refine ct_some ?_ | refine ex_cons ?_ | refine ex_nil ?_ | refine ite_dec ?_ | refine ite_ndec ?_ | refine and_le rfl ?_ | refine and_tr ?_) | dsimp only [fnW, bindNames, bindNest, upd, look, Nat.reduceBEq, cond_true, cond_false, execW, evalW, evalsW, orW, andW, chainW, bt_name, bt_names, bt_swap, bt_nest, cw_eq, cw_ne, cw_lt, cw_le, cw_gt, cw_ge, cw_is_nn, cw_is_tn, cw_isnot_nn, cw_isnot_tn, bw_add, bw_sub, bw_mul, bw_mod, bw_fdiv, bw_pow, bw_lsh, bw_rsh, bw_and, tob_bool, toi_int, ite_tt, ite_ff, ln1, ln0, gd1, gd0, rev2, rev3, ap0, ap1, not_t, not_f, at_p, at_b, at_g, at_n, isCurve_curve, Nat.reduceAdd, sub_tup, pl0_2, pl1_2, pl0_3, pl1_3, pl2_3, gc1, gc0] | (refine' lk_m ?lk ?_; (case lk => (repeat' first | (show look _ _ = _; with_reducible assumption) | exact lk_eq | exact rfl | refine' lk_ne ?_ (by rfl))))))
    rw [ri_len]
    have e3 : (m - 1 - 0).toNat + 1 = m.toNat := by omega
    rw [e3]
    exact h

/-! drawing -/
structure WellOk (w : Nat) (st : St) : Prop where
  ok : ∃ (c : Nat) (cells : List Int) (k seed : Int), st[w]? = some [.lst c, .int k, .int seed] ∧ st[c]? = some (cells.map .int) ∧ c ≠ w ∧ cells.length ≤ 40 ∧ 0 ≤ k ∧ (∀ a ∈ cells, Bd a) ∧ Bd seed
noncomputable def Ext (w : Nat) (st st' : St) : Prop := ∀ j l, j ≠ w → st[j]? = some l → st'[j]? = some l
theorem Ext.refl (w : Nat) (st : St) : Ext w st st := fun _ _ _ e => e
theorem Ext.trans {w : Nat} {a b c : St} (x : Ext w a b) (y : Ext w b c) : Ext w a c := fun j l hj e => y j l hj (x j l hj e)
theorem Ext.app (w : Nat) (st r : St) : Ext w st (st ++ r) := fun _ _ _ e => getElem?_prefix e
theorem WellOk.app {w : Nat} {st : St} (x : WellOk w st) (r : St) : WellOk w (st ++ r) := by
  obtain ⟨c, cells, k, seed, h1, h2, h⟩ := x.ok
  exact ⟨c, cells, k, seed, getElem?_prefix h1, getElem?_prefix h2, h⟩
theorem WellOk.lt {w : Nat} {st : St} (x : WellOk w st) : w < st.length := by
  obtain ⟨c, cells, k, seed, h1, h⟩ := x.ok
  exact (List.getElem?_eq_some_iff.mp h1).1
theorem pl2 : place 2 3 = some 2 := pl2_3
theorem set_self {st : St} {w : Nat} {l l' : List AV} (h : st[w]? = some l) : (st.set w l')[w]? = some l' := by
  rw [List.getElem?_set_self (List.getElem?_eq_some_iff.mp h).1]
theorem c_draw (n : Nat) {w : Nat} {size : Int} {st : St} {Q : AV → St → Prop} (W : WellOk w st) (hs : 0 < size) (h : ∀ v st', 0 ≤ v → v < size → WellOk w st' → Ext w st st' → st'.length = st.length → Q (.int v) st') : callW (n + 2) 13 [.lst w, .int size] st Q := by
  obtain ⟨c, cells, k, seed, h1, h2, hne, hlen, hk, bc, bs⟩ := W.ok
  refine callW_fn (by decide) (by decide) (by decide) rfl ?_
  delta a_law_draw b_law_draw
  (repeat (first | (with_reducible first | refine ct_none ?_ | refine ct_some ?_ | refine ex_cons ?_ | refine ex_nil ?_ | refine ite_dec ?_ | refine ite_ndec ?_ | refine and_le rfl ?_ | refine and_tr ?_) | dsimp only [fnW, bindNames, bindNest, upd, look, Nat.reduceBEq, cond_true, cond_false, execW, evalW, evalsW, orW, andW, chainW, bt_name, bt_names, bt_swap, bt_nest, cw_eq, cw_ne, cw_lt, cw_le, cw_gt, cw_ge, cw_is_nn, cw_is_tn, cw_isnot_nn, cw_isnot_tn, bw_add, bw_sub, bw_mul, bw_mod, bw_fdiv, bw_pow, bw_lsh, bw_rsh, bw_and, tob_bool, toi_int, ite_tt, ite_ff, ln1, ln0, gd1, gd0, rev2, rev3, ap0, ap1, not_t, not_f, at_p, at_b, at_g, at_n, isCurve_curve, Nat.reduceAdd, sub_tup, pl0_2, pl1_2, pl0_3, pl1_3, pl2_3, gc1, gc0]))
  refine sub_lst h1 pl0_3 rfl ?_
  (repeat (first | (with_reducible first | refine ct_none ?_ | refine ct_some ?_ | refine ex_cons ?_ | refine ex_nil ?_ | refine ite_dec ?_ | refine ite_ndec ?_ | refine and_le rfl ?_ | refine and_tr ?_) | dsimp only [fnW, bindNames, bindNest, upd, look, Nat.reduceBEq, cond_true, cond_false, execW, evalW, evalsW, orW, andW, chainW, bt_name, bt_names, bt_swap, bt_nest, cw_eq, cw_ne, cw_lt, cw_le, cw_gt, cw_ge, cw_is_nn, cw_is_tn, cw_isnot_nn, cw_isnot_tn, bw_add, bw_sub, bw_mul, bw_mod, bw_fdiv, bw_pow, bw_lsh, bw_rsh, bw_and, tob_bool, toi_int, ite_tt, ite_ff, ln1, ln0, gd1, gd0, rev2, rev3, ap0, ap1, not_t, not_f, at_p, at_b, at_g, at_n, isCurve_curve, Nat.reduceAdd, sub_tup, pl0_2, pl1_2, pl0_3, pl1_3, pl2_3, gc1, gc0]))
  refine sub_lst h1 pl1_3 rfl ?_
  (repeat (first | (with_reducible first | refine ct_none ?_ | refine ct_some ?_ | refine ex_cons ?_ | refine ex_nil ?_ | refine ite_dec ?_ | refine ite_ndec ?_ | refine and_le rfl ?_ | refine and_tr ?_) | dsimp only [fnW, bindNames, bindNest, upd, look, Nat.reduceBEq, cond_true, cond_false, execW, evalW, evalsW, orW, andW, chainW, bt_name, bt_names, bt_swap, bt_nest, cw_eq, cw_ne, cw_lt, cw_le, cw_gt, cw_ge, cw_is_nn, cw_is_tn, cw_isnot_nn, cw_isnot_tn, bw_add, bw_sub, bw_mul, bw_mod, bw_fdiv, bw_pow, bw_lsh, bw_rsh, bw_and, tob_bool, toi_int, ite_tt, ite_ff, ln1, ln0, gd1, gd0, rev2, rev3, ap0, ap1, not_t, not_f, at_p, at_b, at_g, at_n, isCurve_curve, Nat.reduceAdd, sub_tup, pl0_2, pl1_2, pl0_3, pl1_3, pl2_3, gc1, gc0]))
  refine c_len n h2 (by simp; omega) ?_
  (repeat (first | (with_reducible first | refine ct_none ?_ | refine ct_some ?_ | refine ex_cons ?_ | refine ex_nil ?_ | refine ite_dec ?_ | refine ite_ndec ?_ | refine and_le rfl ?_ | refine and_tr ?_) | dsimp only [fnW, bindNames, bindNest, upd, look, Nat.reduceBEq, cond_true, cond_false, execW, evalW, evalsW, orW, andW, chainW, bt_name, bt_names, bt_swap, bt_nest, cw_eq, cw_ne, cw_lt, cw_le, cw_gt, cw_ge, cw_is_nn, cw_is_tn, cw_isnot_nn, cw_isnot_tn, bw_add, bw_sub, bw_mul, bw_mod, bw_fdiv, bw_pow, bw_lsh, bw_rsh, bw_and, tob_bool, toi_int, ite_tt, ite_ff, ln1, ln0, gd1, gd0, rev2, rev3, ap0, ap1, not_t, not_f, at_p, at_b, at_g, at_n, isCurve_curve, Nat.reduceAdd, sub_tup, pl0_2, pl1_2, pl0_3, pl1_3, pl2_3, gc1, gc0]))
  have fin : ∀ (cell : Int) (f : Int → Int), Bd cell → ∀ r : Int, (r = cell % size ∨ r = (seed * 75 + cell % 1009 + 74) % 65537 % size) → Q (.int r) ((st.set w [.lst c, .int (k + 1), .int seed]).set w [.lst c, .int (k + 1), .int ((seed * 75 + cell % 1009 + 74) % 65537)]) := by
    intro cell f bcell r hr
    have r0 : 0 ≤ r ∧ r < size := by
      rcases hr with rfl | rfl
      · exact ⟨Int.emod_nonneg _ (Int.ne_of_gt hs), Int.emod_lt_of_pos _ hs⟩
      · exact ⟨Int.emod_nonneg _ (Int.ne_of_gt hs), Int.emod_lt_of_pos _ hs⟩
    have g1 := set_self (l' := [AV.lst c, .int (k + 1), .int seed]) h1
    refine h r _ r0.1 r0.2 ⟨c, cells, k + 1, _, set_self g1, ?_, hne, hlen, by omega, bc, bd_mod (by decide) (by unfold Bd; decide)⟩ (fun j l hj e => ?_) (by simp)
    · rw [List.getElem?_set_ne (Ne.symm hne), List.getElem?_set_ne (Ne.symm hne)]; exact h2
    · rw [List.getElem?_set_ne (Ne.symm hj), List.getElem?_set_ne (Ne.symm hj)]; exact e
  have g1 := set_self (l' := [AV.lst c, .int (k + 1), .int seed]) h1
  have body : ∀ (b : Bool) (cell : Int), Bd cell → True := fun _ _ _ => trivial
  by_cases hlt : k < ((cells.map AV.int).length : Nat)
  · refine br_t (hlt) ?_; (repeat (first | (with_reducible first | refine ct_none ?_ | refine ct_some ?_ | refine ex_cons ?_ | refine ex_nil ?_ | refine ite_dec ?_ | refine ite_ndec ?_ | refine and_le rfl ?_ | refine and_tr ?_) | dsimp only [fnW, bindNames, bindNest, upd, look, Nat.reduceBEq, cond_true, cond_false, execW, evalW, evalsW, orW, andW, chainW, bt_name, bt_names, bt_swap, bt_nest, cw_eq, cw_ne, cw_lt, cw_le, cw_gt, cw_ge, cw_is_nn, cw_is_tn, cw_isnot_nn, cw_isnot_tn, bw_add, bw_sub, bw_mul, bw_mod, bw_fdiv, bw_pow, bw_lsh, bw_rsh, bw_and, tob_bool, toi_int, ite_tt, ite_ff, ln1, ln0, gd1, gd0, rev2, rev3, ap0, ap1, not_t, not_f, at_p, at_b, at_g, at_n, isCurve_curve, Nat.reduceAdd, sub_tup, pl0_2, pl1_2, pl0_3, pl1_3, pl2_3, gc1, gc0]))
    have hlt' : k < cells.length := by simpa using hlt
    refine sub_ints h2 hk hlt' (by omega) ?_
    have bcell := bd_getD bc k.toNat
    generalize cells.getD k.toNat 0 = cell at bcell ⊢
    (refine lm_l h1 ?_); (repeat (first | (with_reducible first | refine ct_none ?_ | refine ct_some ?_ | refine ex_cons ?_ | refine ex_nil ?_ | refine ite_dec ?_ | refine ite_ndec ?_ | refine and_le rfl ?_ | refine and_tr ?_) | dsimp only [fnW, bindNames, bindNest, upd, look, Nat.reduceBEq, cond_true, cond_false, execW, evalW, evalsW, orW, andW, chainW, bt_name, bt_names, bt_swap, bt_nest, cw_eq, cw_ne, cw_lt, cw_le, cw_gt, cw_ge, cw_is_nn, cw_is_tn, cw_isnot_nn, cw_isnot_tn, bw_add, bw_sub, bw_mul, bw_mod, bw_fdiv, bw_pow, bw_lsh, bw_rsh, bw_and, tob_bool, toi_int, ite_tt, ite_ff, ln1, ln0, gd1, gd0, rev2, rev3, ap0, ap1, not_t, not_f, at_p, at_b, at_g, at_n, isCurve_curve, Nat.reduceAdd, sub_tup, pl0_2, pl1_2, pl0_3, pl1_3, pl2_3, gc1, gc0, List.set_cons_succ, List.set_cons_zero, Int.reduceToNat, Int.toNat_one]))
    (repeat (first | (with_reducible refine And.intro (by first | with_reducible assumption | (refine Bn.small ?_; (repeat' first | (with_reducible refine Bn.base ?_; with_reducible assumption) | with_reducible refine Bn.mul ?_ ?_ | with_reducible refine Bn.add ?_ ?_ | with_reducible refine Bn.sub ?_ ?_ | with_reducible refine Bn.neg ?_ | (with_reducible refine Bn.mod ?_ (by with_reducible assumption); first | with_reducible assumption | omega) | exact Bn.lit (by decide)); done) | omega) ?_) | (with_reducible first | refine ct_none ?_ | refine ct_some ?_ | refine ex_cons ?_ | refine ex_nil ?_ | refine ite_dec ?_ | refine ite_ndec ?_ | refine and_le rfl ?_ | refine and_tr ?_) | dsimp only [fnW, bindNames, bindNest, upd, look, Nat.reduceBEq, cond_true, cond_false, execW, evalW, evalsW, orW, andW, chainW, bt_name, bt_names, bt_swap, bt_nest, cw_eq, cw_ne, cw_lt, cw_le, cw_gt, cw_ge, cw_is_nn, cw_is_tn, cw_isnot_nn, cw_isnot_tn, bw_add, bw_sub, bw_mul, bw_mod, bw_fdiv, bw_pow, bw_lsh, bw_rsh, bw_and, tob_bool, toi_int, ite_tt, ite_ff, ln1, ln0, gd1, gd0, rev2, rev3, ap0, ap1, not_t, not_f, at_p, at_b, at_g, at_n, isCurve_curve, Nat.reduceAdd, sub_tup, pl0_2, pl1_2, pl0_3, pl1_3, pl2_3, gc1, gc0]))
    refine sub_lst g1 pl2_3 rfl ?_
    (repeat (first | (with_reducible refine And.intro (by first | with_reducible assumption | (refine Bn.small ?_; (repeat' first | (with_reducible refine Bn.base ?_; with_reducible assumption) | with_reducible refine Bn.mul ?_ ?_ | with_reducible refine Bn.add ?_ ?_ | with_reducible refine Bn.sub ?_ ?_ | with_reducible refine Bn.neg ?_ | (with_reducible refine Bn.mod ?_ (by with_reducible assumption); first | with_reducible assumption | omega) | exact Bn.lit (by decide)); done) | omega) ?_) | (with_reducible first | refine ct_none ?_ | refine ct_some ?_ | refine ex_cons ?_ | refine ex_nil ?_ | refine ite_dec ?_ | refine ite_ndec ?_ | refine and_le rfl ?_ | refine and_tr ?_) | dsimp only [fnW, bindNames, bindNest, upd, look, Nat.reduceBEq, cond_true, cond_false, execW, evalW, evalsW, orW, andW, chainW, bt_name, bt_names, bt_swap, bt_nest, cw_eq, cw_ne, cw_lt, cw_le, cw_gt, cw_ge, cw_is_nn, cw_is_tn, cw_isnot_nn, cw_isnot_tn, bw_add, bw_sub, bw_mul, bw_mod, bw_fdiv, bw_pow, bw_lsh, bw_rsh, bw_and, tob_bool, toi_int, ite_tt, ite_ff, ln1, ln0, gd1, gd0, rev2, rev3, ap0, ap1, not_t, not_f, at_p, at_b, at_g, at_n, isCurve_curve, Nat.reduceAdd, sub_tup, pl0_2, pl1_2, pl0_3, pl1_3, pl2_3, gc1, gc0]))
    (refine lm_l g1 ?_); (repeat (first | (with_reducible first | refine ct_none ?_ | refine ct_some ?_ | refine ex_cons ?_ | refine ex_nil ?_ | refine ite_dec ?_ | refine ite_ndec ?_ | refine and_le rfl ?_ | refine and_tr ?_) | dsimp only [fnW, bindNames, bindNest, upd, look, Nat.reduceBEq, cond_true, cond_false, execW, evalW, evalsW, orW, andW, chainW, bt_name, bt_names, bt_swap, bt_nest, cw_eq, cw_ne, cw_lt, cw_le, cw_gt, cw_ge, cw_is_nn, cw_is_tn, cw_isnot_nn, cw_isnot_tn, bw_add, bw_sub, bw_mul, bw_mod, bw_fdiv, bw_pow, bw_lsh, bw_rsh, bw_and, tob_bool, toi_int, ite_tt, ite_ff, ln1, ln0, gd1, gd0, rev2, rev3, ap0, ap1, not_t, not_f, at_p, at_b, at_g, at_n, isCurve_curve, Nat.reduceAdd, sub_tup, pl0_2, pl1_2, pl0_3, pl1_3, pl2_3, gc1, gc0, List.set_cons_succ, List.set_cons_zero, Int.reduceToNat, Int.toNat_one]))
    (repeat (first | (with_reducible refine And.intro (by first | with_reducible assumption | (refine Bn.small ?_; (repeat' first | (with_reducible refine Bn.base ?_; with_reducible assumption) | with_reducible refine Bn.mul ?_ ?_ | with_reducible refine Bn.add ?_ ?_ | with_reducible refine Bn.sub ?_ ?_ | with_reducible refine Bn.neg ?_ | (with_reducible refine Bn.mod ?_ (by with_reducible assumption); first | with_reducible assumption | omega) | exact Bn.lit (by decide)); done) | omega) ?_) | (with_reducible first | refine ct_none ?_ | refine ct_some ?_ | refine ex_cons ?_ | refine ex_nil ?_ | refine ite_dec ?_ | refine ite_ndec ?_ | refine and_le rfl ?_ | refine and_tr ?_) | dsimp only [fnW, bindNames, bindNest, upd, look, Nat.reduceBEq, cond_true, cond_false, execW, evalW, evalsW, orW, andW, chainW, bt_name, bt_names, bt_swap, bt_nest, cw_eq, cw_ne, cw_lt, cw_le, cw_gt, cw_ge, cw_is_nn, cw_is_tn, cw_isnot_nn, cw_isnot_tn, bw_add, bw_sub, bw_mul, bw_mod, bw_fdiv, bw_pow, bw_lsh, bw_rsh, bw_and, tob_bool, toi_int, ite_tt, ite_ff, ln1, ln0, gd1, gd0, rev2, rev3, ap0, ap1, not_t, not_f, at_p, at_b, at_g, at_n, isCurve_curve, Nat.reduceAdd, sub_tup, pl0_2, pl1_2, pl0_3, pl1_3, pl2_3, gc1, gc0]))
    refine br_t (hlt) ?_; (repeat (first | (with_reducible first | refine ct_none ?_ | refine ct_some ?_ | refine ex_cons ?_ | refine ex_nil ?_ | refine ite_dec ?_ | refine ite_ndec ?_ | refine and_le rfl ?_ | refine and_tr ?_) | dsimp only [fnW, bindNames, bindNest, upd, look, Nat.reduceBEq, cond_true, cond_false, execW, evalW, evalsW, orW, andW, chainW, bt_name, bt_names, bt_swap, bt_nest, cw_eq, cw_ne, cw_lt, cw_le, cw_gt, cw_ge, cw_is_nn, cw_is_tn, cw_isnot_nn, cw_isnot_tn, bw_add, bw_sub, bw_mul, bw_mod, bw_fdiv, bw_pow, bw_lsh, bw_rsh, bw_and, tob_bool, toi_int, ite_tt, ite_ff, ln1, ln0, gd1, gd0, rev2, rev3, ap0, ap1, not_t, not_f, at_p, at_b, at_g, at_n, isCurve_curve, Nat.reduceAdd, sub_tup, pl0_2, pl1_2, pl0_3, pl1_3, pl2_3, gc1, gc0]))
    (repeat (first | (with_reducible refine And.intro (by first | with_reducible assumption | (refine Bn.small ?_; (repeat' first | (with_reducible refine Bn.base ?_; with_reducible assumption) | with_reducible refine Bn.mul ?_ ?_ | with_reducible refine Bn.add ?_ ?_ | with_reducible refine Bn.sub ?_ ?_ | with_reducible refine Bn.neg ?_ | (with_reducible refine Bn.mod ?_ (by with_reducible assumption); first | with_reducible assumption | omega) | exact Bn.lit (by decide)); done) | omega) ?_) | (with_reducible first | refine ct_none ?_ | refine ct_some ?_ | refine ex_cons ?_ | refine ex_nil ?_ | refine ite_dec ?_ | refine ite_ndec ?_ | refine and_le rfl ?_ | refine and_tr ?_) | dsimp only [fnW, bindNames, bindNest, upd, look, Nat.reduceBEq, cond_true, cond_false, execW, evalW, evalsW, orW, andW, chainW, bt_name, bt_names, bt_swap, bt_nest, cw_eq, cw_ne, cw_lt, cw_le, cw_gt, cw_ge, cw_is_nn, cw_is_tn, cw_isnot_nn, cw_isnot_tn, bw_add, bw_sub, bw_mul, bw_mod, bw_fdiv, bw_pow, bw_lsh, bw_rsh, bw_and, tob_bool, toi_int, ite_tt, ite_ff, ln1, ln0, gd1, gd0, rev2, rev3, ap0, ap1, not_t, not_f, at_p, at_b, at_g, at_n, isCurve_curve, Nat.reduceAdd, sub_tup, pl0_2, pl1_2, pl0_3, pl1_3, pl2_3, gc1, gc0]))
    exact fin cell id bcell _ (.inl rfl)
  · refine br_f (hlt) ?_; (repeat (first | (with_reducible first | refine ct_none ?_ | refine ct_some ?_ | refine ex_cons ?_ | refine ex_nil ?_ | refine ite_dec ?_ | refine ite_ndec ?_ | refine and_le rfl ?_ | refine and_tr ?_) | dsimp only [fnW, bindNames, bindNest, upd, look, Nat.reduceBEq, cond_true, cond_false, execW, evalW, evalsW, orW, andW, chainW, bt_name, bt_names, bt_swap, bt_nest, cw_eq, cw_ne, cw_lt, cw_le, cw_gt, cw_ge, cw_is_nn, cw_is_tn, cw_isnot_nn, cw_isnot_tn, bw_add, bw_sub, bw_mul, bw_mod, bw_fdiv, bw_pow, bw_lsh, bw_rsh, bw_and, tob_bool, toi_int, ite_tt, ite_ff, ln1, ln0, gd1, gd0, rev2, rev3, ap0, ap1, not_t, not_f, at_p, at_b, at_g, at_n, isCurve_curve, Nat.reduceAdd, sub_tup, pl0_2, pl1_2, pl0_3, pl1_3, pl2_3, gc1, gc0]))
    (refine lm_l h1 ?_); (repeat (first | (with_reducible first | refine ct_none ?_ | refine ct_some ?_ | refine ex_cons ?_ | refine ex_nil ?_ | refine ite_dec ?_ | refine ite_ndec ?_ | refine and_le rfl ?_ | refine and_tr ?_) | dsimp only [fnW, bindNames, bindNest, upd, look, Nat.reduceBEq, cond_true, cond_false, execW, evalW, evalsW, orW, andW, chainW, bt_name, bt_names, bt_swap, bt_nest, cw_eq, cw_ne, cw_lt, cw_le, cw_gt, cw_ge, cw_is_nn, cw_is_tn, cw_isnot_nn, cw_isnot_tn, bw_add, bw_sub, bw_mul, bw_mod, bw_fdiv, bw_pow, bw_lsh, bw_rsh, bw_and, tob_bool, toi_int, ite_tt, ite_ff, ln1, ln0, gd1, gd0, rev2, rev3, ap0, ap1, not_t, not_f, at_p, at_b, at_g, at_n, isCurve_curve, Nat.reduceAdd, sub_tup, pl0_2, pl1_2, pl0_3, pl1_3, pl2_3, gc1, gc0, List.set_cons_succ, List.set_cons_zero, Int.reduceToNat, Int.toNat_one]))
    (repeat (first | (with_reducible refine And.intro (by first | with_reducible assumption | (refine Bn.small ?_; (repeat' first | (with_reducible refine Bn.base ?_; with_reducible assumption) | with_reducible refine Bn.mul ?_ ?_ | with_reducible refine Bn.add ?_ ?_ | with_reducible refine Bn.sub ?_ ?_ | with_reducible refine Bn.neg ?_ | (with_reducible refine Bn.mod ?_ (by with_reducible assumption); first | with_reducible assumption | omega) | exact Bn.lit (by decide)); done) | omega) ?_) | (with_reducible first | refine ct_none ?_ | refine ct_some ?_ | refine ex_cons ?_ | refine ex_nil ?_ | refine ite_dec ?_ | refine ite_ndec ?_ | refine and_le rfl ?_ | refine and_tr ?_) | dsimp only [fnW, bindNames, bindNest, upd, look, Nat.reduceBEq, cond_true, cond_false, execW, evalW, evalsW, orW, andW, chainW, bt_name, bt_names, bt_swap, bt_nest, cw_eq, cw_ne, cw_lt, cw_le, cw_gt, cw_ge, cw_is_nn, cw_is_tn, cw_isnot_nn, cw_isnot_tn, bw_add, bw_sub, bw_mul, bw_mod, bw_fdiv, bw_pow, bw_lsh, bw_rsh, bw_and, tob_bool, toi_int, ite_tt, ite_ff, ln1, ln0, gd1, gd0, rev2, rev3, ap0, ap1, not_t, not_f, at_p, at_b, at_g, at_n, isCurve_curve, Nat.reduceAdd, sub_tup, pl0_2, pl1_2, pl0_3, pl1_3, pl2_3, gc1, gc0]))
    refine sub_lst g1 pl2_3 rfl ?_
    (repeat (first | (with_reducible refine And.intro (by first | with_reducible assumption | (refine Bn.small ?_; (repeat' first | (with_reducible refine Bn.base ?_; with_reducible assumption) | with_reducible refine Bn.mul ?_ ?_ | with_reducible refine Bn.add ?_ ?_ | with_reducible refine Bn.sub ?_ ?_ | with_reducible refine Bn.neg ?_ | (with_reducible refine Bn.mod ?_ (by with_reducible assumption); first | with_reducible assumption | omega) | exact Bn.lit (by decide)); done) | omega) ?_) | (with_reducible first | refine ct_none ?_ | refine ct_some ?_ | refine ex_cons ?_ | refine ex_nil ?_ | refine ite_dec ?_ | refine ite_ndec ?_ | refine and_le rfl ?_ | refine and_tr ?_) | dsimp only [fnW, bindNames, bindNest, upd, look, Nat.reduceBEq, cond_true, cond_false, execW, evalW, evalsW, orW, andW, chainW, bt_name, bt_names, bt_swap, bt_nest, cw_eq, cw_ne, cw_lt, cw_le, cw_gt, cw_ge, cw_is_nn, cw_is_tn, cw_isnot_nn, cw_isnot_tn, bw_add, bw_sub, bw_mul, bw_mod, bw_fdiv, bw_pow, bw_lsh, bw_rsh, bw_and, tob_bool, toi_int, ite_tt, ite_ff, ln1, ln0, gd1, gd0, rev2, rev3, ap0, ap1, not_t, not_f, at_p, at_b, at_g, at_n, isCurve_curve, Nat.reduceAdd, sub_tup, pl0_2, pl1_2, pl0_3, pl1_3, pl2_3, gc1, gc0]))
    (refine lm_l g1 ?_); (repeat (first | (with_reducible first | refine ct_none ?_ | refine ct_some ?_ | refine ex_cons ?_ | refine ex_nil ?_ | refine ite_dec ?_ | refine ite_ndec ?_ | refine and_le rfl ?_ | refine and_tr ?_) | dsimp only [fnW, bindNames, bindNest, upd, look, Nat.reduceBEq, cond_true, cond_false, execW, evalW, evalsW, orW, andW, chainW, bt_name, bt_names, bt_swap, bt_nest, cw_eq, cw_ne, cw_lt, cw_le, cw_gt, cw_ge, cw_is_nn, cw_is_tn, cw_isnot_nn, cw_isnot_tn, bw_add, bw_sub, bw_mul, bw_mod, bw_fdiv, bw_pow, bw_lsh, bw_rsh, bw_and, tob_bool, toi_int, ite_tt, ite_ff, ln1, ln0, gd1, gd0, rev2, rev3, ap0, ap1, not_t, not_f, at_p, at_b, at_g, at_n, isCurve_curve, Nat.reduceAdd, sub_tup, pl0_2, pl1_2, pl0_3, pl1_3, pl2_3, gc1, gc0, List.set_cons_succ, List.set_cons_zero, Int.reduceToNat, Int.toNat_one]))
    (repeat (first | (with_reducible refine And.intro (by first | with_reducible assumption | (refine Bn.small ?_; (repeat' first | (with_reducible refine Bn.base ?_; with_reducible assumption) | with_reducible refine Bn.mul ?_ ?_ | with_reducible refine Bn.add ?_ ?_ | with_reducible refine Bn.sub ?_ ?_ | with_reducible refine Bn.neg ?_ | (with_reducible refine Bn.mod ?_ (by with_reducible assumption); first | with_reducible assumption | omega) | exact Bn.lit (by decide)); done) | omega) ?_) | (with_reducible first | refine ct_none ?_ | refine ct_some ?_ | refine ex_cons ?_ | refine ex_nil ?_ | refine ite_dec ?_ | refine ite_ndec ?_ | refine and_le rfl ?_ | refine and_tr ?_) | dsimp only [fnW, bindNames, bindNest, upd, look, Nat.reduceBEq, cond_true, cond_false, execW, evalW, evalsW, orW, andW, chainW, bt_name, bt_names, bt_swap, bt_nest, cw_eq, cw_ne, cw_lt, cw_le, cw_gt, cw_ge, cw_is_nn, cw_is_tn, cw_isnot_nn, cw_isnot_tn, bw_add, bw_sub, bw_mul, bw_mod, bw_fdiv, bw_pow, bw_lsh, bw_rsh, bw_and, tob_bool, toi_int, ite_tt, ite_ff, ln1, ln0, gd1, gd0, rev2, rev3, ap0, ap1, not_t, not_f, at_p, at_b, at_g, at_n, isCurve_curve, Nat.reduceAdd, sub_tup, pl0_2, pl1_2, pl0_3, pl1_3, pl2_3, gc1, gc0]))
    refine br_f (hlt) ?_; (repeat (first | (with_reducible first | refine ct_none ?_ | refine ct_some ?_ | refine ex_cons ?_ | refine ex_nil ?_ | refine ite_dec ?_ | refine ite_ndec ?_ | refine and_le rfl ?_ | refine and_tr ?_) | dsimp only [fnW, bindNames, bindNest, upd, look, Nat.reduceBEq, cond_true, cond_false, execW, evalW, evalsW, orW, andW, chainW, bt_name, bt_names, bt_swap, bt_nest, cw_eq, cw_ne, cw_lt, cw_le, cw_gt, cw_ge, cw_is_nn, cw_is_tn, cw_isnot_nn, cw_isnot_tn, bw_add, bw_sub, bw_mul, bw_mod, bw_fdiv, bw_pow, bw_lsh, bw_rsh, bw_and, tob_bool, toi_int, ite_tt, ite_ff, ln1, ln0, gd1, gd0, rev2, rev3, ap0, ap1, not_t, not_f, at_p, at_b, at_g, at_n, isCurve_curve, Nat.reduceAdd, sub_tup, pl0_2, pl1_2, pl0_3, pl1_3, pl2_3, gc1, gc0]))
    have g2 := set_self (l' := [AV.lst c, .int (k + 1), .int ((seed * 75 + 0 % 1009 + 74) % 65537)]) g1
    refine sub_lst g2 pl2_3 rfl ?_
    (repeat (first | (with_reducible first | refine ct_none ?_ | refine ct_some ?_ | refine ex_cons ?_ | refine ex_nil ?_ | refine ite_dec ?_ | refine ite_ndec ?_ | refine and_le rfl ?_ | refine and_tr ?_) | dsimp only [fnW, bindNames, bindNest, upd, look, Nat.reduceBEq, cond_true, cond_false, execW, evalW, evalsW, orW, andW, chainW, bt_name, bt_names, bt_swap, bt_nest, cw_eq, cw_ne, cw_lt, cw_le, cw_gt, cw_ge, cw_is_nn, cw_is_tn, cw_isnot_nn, cw_isnot_tn, bw_add, bw_sub, bw_mul, bw_mod, bw_fdiv, bw_pow, bw_lsh, bw_rsh, bw_and, tob_bool, toi_int, ite_tt, ite_ff, ln1, ln0, gd1, gd0, rev2, rev3, ap0, ap1, not_t, not_f, at_p, at_b, at_g, at_n, isCurve_curve, Nat.reduceAdd, sub_tup, pl0_2, pl1_2, pl0_3, pl1_3, pl2_3, gc1, gc0]))
    (repeat (first | (with_reducible refine And.intro (by first | with_reducible assumption | (refine Bn.small ?_; (repeat' first | (with_reducible refine Bn.base ?_; with_reducible assumption) | with_reducible refine Bn.mul ?_ ?_ | with_reducible refine Bn.add ?_ ?_ | with_reducible refine Bn.sub ?_ ?_ | with_reducible refine Bn.neg ?_ | (with_reducible refine Bn.mod ?_ (by with_reducible assumption); first | with_reducible assumption | omega) | exact Bn.lit (by decide)); done) | omega) ?_) | (with_reducible first | refine ct_none ?_ | refine ct_some ?_ | refine ex_cons ?_ | refine ex_nil ?_ | refine ite_dec ?_ | refine ite_ndec ?_ | refine and_le rfl ?_ | refine and_tr ?_) | dsimp only [fnW, bindNames, bindNest, upd, look, Nat.reduceBEq, cond_true, cond_false, execW, evalW, evalsW, orW, andW, chainW, bt_name, bt_names, bt_swap, bt_nest, cw_eq, cw_ne, cw_lt, cw_le, cw_gt, cw_ge, cw_is_nn, cw_is_tn, cw_isnot_nn, cw_isnot_tn, bw_add, bw_sub, bw_mul, bw_mod, bw_fdiv, bw_pow, bw_lsh, bw_rsh, bw_and, tob_bool, toi_int, ite_tt, ite_ff, ln1, ln0, gd1, gd0, rev2, rev3, ap0, ap1, not_t, not_f, at_p, at_b, at_g, at_n, isCurve_curve, Nat.reduceAdd, sub_tup, pl0_2, pl1_2, pl0_3, pl1_3, pl2_3, gc1, gc0]))
    exact fin 0 id (by unfold Bd; decide) _ (.inr rfl)
end Mine
set_option maxRecDepth 100000
set_option maxHeartbeats 4000000
set_option linter.unusedSimpArgs false
set_option linter.unusedVariables false
set_option exponentiation.threshold 300
namespace Mine
open PySem PySem.W PyProof.Rows

theorem WellOk.ne {w : Nat} {st : St} (x : WellOk w st) {i : Nat} (h : st.length ≤ i) : i ≠ w := fun e => by have := x.lt; omega
theorem c_number (n : Nat) {w : Nat} {m : Int} {st : St} {Q : AV → St → Prop} (W : WellOk w st) (hm : 0 ≤ m) (hm2 : m ≤ 1000) (h : ∀ v st', Bd v → WellOk w st' → Ext w st st' → Q (.int v) st') : callW (n + 3) 14 [.lst w, .int m] st Q := by
  refine callW_fn (by decide) (by decide) (by decide) rfl ?_
  delta a_law_number b_law_number
  (repeat (first | (with_reducible first | refine ct_none ?_ | refine ct_some ?_ | refine ex_cons ?_ | refine ex_nil ?_ | refine ite_dec ?_ | refine ite_ndec ?_ | refine and_le rfl ?_ | refine and_tr ?_) | dsimp only [fnW, bindNames, bindNest, upd, look, Nat.reduceBEq, cond_true, cond_false, execW, evalW, evalsW, orW, andW, chainW, bt_name, bt_names, bt_swap, bt_nest, cw_eq, cw_ne, cw_lt, cw_le, cw_gt, cw_ge, cw_is_nn, cw_is_tn, cw_isnot_nn, cw_isnot_tn, bw_add, bw_sub, bw_mul, bw_mod, bw_fdiv, bw_pow, bw_lsh, bw_rsh, bw_and, tob_bool, toi_int, ite_tt, ite_ff, ln1, ln0, gd1, gd0, rev2, rev3, ap0, ap1, not_t, not_f, at_p, at_b, at_g, at_n, isCurve_curve, Nat.reduceAdd, sub_tup, pl0_2, pl1_2, pl0_3, pl1_3, pl2_3, gc1, gc0]))
  refine c_draw n W (by decide) fun f st1 f0 f1 W1 X1 _ => ?_
  (repeat (first | (with_reducible first | refine ct_none ?_ | refine ct_some ?_ | refine ex_cons ?_ | refine ex_nil ?_ | refine ite_dec ?_ | refine ite_ndec ?_ | refine and_le rfl ?_ | refine and_tr ?_) | dsimp only [fnW, bindNames, bindNest, upd, look, Nat.reduceBEq, cond_true, cond_false, execW, evalW, evalsW, orW, andW, chainW, bt_name, bt_names, bt_swap, bt_nest, cw_eq, cw_ne, cw_lt, cw_le, cw_gt, cw_ge, cw_is_nn, cw_is_tn, cw_isnot_nn, cw_isnot_tn, bw_add, bw_sub, bw_mul, bw_mod, bw_fdiv, bw_pow, bw_lsh, bw_rsh, bw_and, tob_bool, toi_int, ite_tt, ite_ff, ln1, ln0, gd1, gd0, rev2, rev3, ap0, ap1, not_t, not_f, at_p, at_b, at_g, at_n, isCurve_curve, Nat.reduceAdd, sub_tup, pl0_2, pl1_2, pl0_3, pl1_3, pl2_3, gc1, gc0]))
  (repeat (first | (with_reducible refine And.intro (by first | with_reducible assumption | (refine Bn.small ?_; (repeat' first | (with_reducible refine Bn.base ?_; with_reducible assumption) | with_reducible refine Bn.mul ?_ ?_ | with_reducible refine Bn.add ?_ ?_ | with_reducible refine Bn.sub ?_ ?_ | with_reducible refine Bn.neg ?_ | (with_reducible refine Bn.mod ?_ (by with_reducible assumption); first | with_reducible assumption | omega) | exact Bn.lit (by decide)); done) | omega) ?_) | (with_reducible first | refine ct_none ?_ | refine ct_some ?_ | refine ex_cons ?_ | refine ex_nil ?_ | refine ite_dec ?_ | refine ite_ndec ?_ | refine and_le rfl ?_ | refine and_tr ?_) | dsimp only [fnW, bindNames, bindNest, upd, look, Nat.reduceBEq, cond_true, cond_false, execW, evalW, evalsW, orW, andW, chainW, bt_name, bt_names, bt_swap, bt_nest, cw_eq, cw_ne, cw_lt, cw_le, cw_gt, cw_ge, cw_is_nn, cw_is_tn, cw_isnot_nn, cw_isnot_tn, bw_add, bw_sub, bw_mul, bw_mod, bw_fdiv, bw_pow, bw_lsh, bw_rsh, bw_and, tob_bool, toi_int, ite_tt, ite_ff, ln1, ln0, gd1, gd0, rev2, rev3, ap0, ap1, not_t, not_f, at_p, at_b, at_g, at_n, isCurve_curve, Nat.reduceAdd, sub_tup, pl0_2, pl1_2, pl0_3, pl1_3, pl2_3, gc1, gc0]))
  refine c_len (n + 1) (gl st1 _) (by simp) ?_
  (repeat (first | (with_reducible first | refine ct_none ?_ | refine ct_some ?_ | refine ex_cons ?_ | refine ex_nil ?_ | refine ite_dec ?_ | refine ite_ndec ?_ | refine and_le rfl ?_ | refine and_tr ?_) | dsimp only [fnW, bindNames, bindNest, upd, look, Nat.reduceBEq, cond_true, cond_false, execW, evalW, evalsW, orW, andW, chainW, bt_name, bt_names, bt_swap, bt_nest, cw_eq, cw_ne, cw_lt, cw_le, cw_gt, cw_ge, cw_is_nn, cw_is_tn, cw_isnot_nn, cw_isnot_tn, bw_add, bw_sub, bw_mul, bw_mod, bw_fdiv, bw_pow, bw_lsh, bw_rsh, bw_and, tob_bool, toi_int, ite_tt, ite_ff, ln1, ln0, gd1, gd0, rev2, rev3, ap0, ap1, not_t, not_f, at_p, at_b, at_g, at_n, isCurve_curve, Nat.reduceAdd, sub_tup, pl0_2, pl1_2, pl0_3, pl1_3, pl2_3, gc1, gc0]))
  refine c_draw n (W1.app _) (by simp) fun k st2 k0 k1 W2 X2 _ => ?_
  have g := X2 _ _ (W1.ne (Nat.le_refl _)) (gl st1 _)
  have hk : k < 8 := by simpa using k1
  have e2 : Ext w st st2 := (X1.trans (Ext.app w st1 _)).trans X2
  have fin : ∀ a : Int, Bd a → Q (.int a) st2 := fun a ha => h a st2 ha W2 e2
  have big : (2 : Nat) ^ 300 > 2 ^ 131 := by decide
  have hcase : k = 0 ∨ k = 1 ∨ k = 2 ∨ k = 3 ∨ k = 4 ∨ k = 5 ∨ k = 6 ∨ k = 7 := by omega
  rcases hcase with rfl | rfl | rfl | rfl | rfl | rfl | rfl | rfl <;> refine sub_lst g (place_nat k0 (by simp) (by simp)) rfl (fin _ ?_) <;> (unfold Bd; first | decide | ((try simp only [Int.reduceToNat, Int.reducePow]); omega))
theorem c_word (n : Nat) {w : Nat} {m : Int} {st : St} {Q : AV → St → Prop} (W : WellOk w st) (hm : 0 ≤ m) (hm2 : m ≤ 1000) (h : ∀ v st', Bd v → WellOk w st' → Ext w st st' → Q (.int v) st') : callW (n + 3) 15 [.lst w, .int m] st Q := by
  refine callW_fn (by decide) (by decide) (by decide) rfl ?_
  delta a_law_word b_law_word
  (repeat (first | (with_reducible first | refine ct_none ?_ | refine ct_some ?_ | refine ex_cons ?_ | refine ex_nil ?_ | refine ite_dec ?_ | refine ite_ndec ?_ | refine and_le rfl ?_ | refine and_tr ?_) | dsimp only [fnW, bindNames, bindNest, upd, look, Nat.reduceBEq, cond_true, cond_false, execW, evalW, evalsW, orW, andW, chainW, bt_name, bt_names, bt_swap, bt_nest, cw_eq, cw_ne, cw_lt, cw_le, cw_gt, cw_ge, cw_is_nn, cw_is_tn, cw_isnot_nn, cw_isnot_tn, bw_add, bw_sub, bw_mul, bw_mod, bw_fdiv, bw_pow, bw_lsh, bw_rsh, bw_and, tob_bool, toi_int, ite_tt, ite_ff, ln1, ln0, gd1, gd0, rev2, rev3, ap0, ap1, not_t, not_f, at_p, at_b, at_g, at_n, isCurve_curve, Nat.reduceAdd, sub_tup, pl0_2, pl1_2, pl0_3, pl1_3, pl2_3, gc1, gc0]))
  refine c_draw n W (by decide) fun f st1 f0 f1 W1 X1 _ => ?_
  (repeat (first | (with_reducible first | refine ct_none ?_ | refine ct_some ?_ | refine ex_cons ?_ | refine ex_nil ?_ | refine ite_dec ?_ | refine ite_ndec ?_ | refine and_le rfl ?_ | refine and_tr ?_) | dsimp only [fnW, bindNames, bindNest, upd, look, Nat.reduceBEq, cond_true, cond_false, execW, evalW, evalsW, orW, andW, chainW, bt_name, bt_names, bt_swap, bt_nest, cw_eq, cw_ne, cw_lt, cw_le, cw_gt, cw_ge, cw_is_nn, cw_is_tn, cw_isnot_nn, cw_isnot_tn, bw_add, bw_sub, bw_mul, bw_mod, bw_fdiv, bw_pow, bw_lsh, bw_rsh, bw_and, tob_bool, toi_int, ite_tt, ite_ff, ln1, ln0, gd1, gd0, rev2, rev3, ap0, ap1, not_t, not_f, at_p, at_b, at_g, at_n, isCurve_curve, Nat.reduceAdd, sub_tup, pl0_2, pl1_2, pl0_3, pl1_3, pl2_3, gc1, gc0]))
  have bm : Bd m := by unfold Bd; have : (2 : Nat) ^ 300 > 1000 := by decide
                       omega
  have bf : Bd f := by unfold Bd; have : (2 : Nat) ^ 300 > 1000 := by decide
                       omega
  have bmf : Bd (m * f) := by
    unfold Bd
    have : (m * f).natAbs ≤ 1000 * 1000 := by rw [Int.natAbs_mul]; exact Nat.mul_le_mul (by omega) (by omega)
    have : (2 : Nat) ^ 300 > 1000 * 1000 := by decide
    omega
  (repeat (first | (with_reducible refine And.intro (by first | with_reducible assumption | (refine Bn.small ?_; (repeat' first | (with_reducible refine Bn.base ?_; with_reducible assumption) | with_reducible refine Bn.mul ?_ ?_ | with_reducible refine Bn.add ?_ ?_ | with_reducible refine Bn.sub ?_ ?_ | with_reducible refine Bn.neg ?_ | (with_reducible refine Bn.mod ?_ (by with_reducible assumption); first | with_reducible assumption | omega) | exact Bn.lit (by decide)); done) | omega) ?_) | (with_reducible first | refine ct_none ?_ | refine ct_some ?_ | refine ex_cons ?_ | refine ex_nil ?_ | refine ite_dec ?_ | refine ite_ndec ?_ | refine and_le rfl ?_ | refine and_tr ?_) | dsimp only [fnW, bindNames, bindNest, upd, look, Nat.reduceBEq, cond_true, cond_false, execW, evalW, evalsW, orW, andW, chainW, bt_name, bt_names, bt_swap, bt_nest, cw_eq, cw_ne, cw_lt, cw_le, cw_gt, cw_ge, cw_is_nn, cw_is_tn, cw_isnot_nn, cw_isnot_tn, bw_add, bw_sub, bw_mul, bw_mod, bw_fdiv, bw_pow, bw_lsh, bw_rsh, bw_and, tob_bool, toi_int, ite_tt, ite_ff, ln1, ln0, gd1, gd0, rev2, rev3, ap0, ap1, not_t, not_f, at_p, at_b, at_g, at_n, isCurve_curve, Nat.reduceAdd, sub_tup, pl0_2, pl1_2, pl0_3, pl1_3, pl2_3, gc1, gc0]))
  refine c_len (n + 1) (gl st1 _) (by simp) ?_
  (repeat (first | (with_reducible first | refine ct_none ?_ | refine ct_some ?_ | refine ex_cons ?_ | refine ex_nil ?_ | refine ite_dec ?_ | refine ite_ndec ?_ | refine and_le rfl ?_ | refine and_tr ?_) | dsimp only [fnW, bindNames, bindNest, upd, look, Nat.reduceBEq, cond_true, cond_false, execW, evalW, evalsW, orW, andW, chainW, bt_name, bt_names, bt_swap, bt_nest, cw_eq, cw_ne, cw_lt, cw_le, cw_gt, cw_ge, cw_is_nn, cw_is_tn, cw_isnot_nn, cw_isnot_tn, bw_add, bw_sub, bw_mul, bw_mod, bw_fdiv, bw_pow, bw_lsh, bw_rsh, bw_and, tob_bool, toi_int, ite_tt, ite_ff, ln1, ln0, gd1, gd0, rev2, rev3, ap0, ap1, not_t, not_f, at_p, at_b, at_g, at_n, isCurve_curve, Nat.reduceAdd, sub_tup, pl0_2, pl1_2, pl0_3, pl1_3, pl2_3, gc1, gc0]))
  refine c_draw n (W1.app _) (by simp) fun k st2 k0 k1 W2 X2 _ => ?_
  have g := X2 _ _ (W1.ne (Nat.le_refl _)) (gl st1 _)
  have hk : k < 7 := by simpa using k1
  have e2 : Ext w st st2 := (X1.trans (Ext.app w st1 _)).trans X2
  have fin : ∀ a : Int, Bd a → Q (.int a) st2 := fun a ha => h a st2 ha W2 e2
  have hcase : k = 0 ∨ k = 1 ∨ k = 2 ∨ k = 3 ∨ k = 4 ∨ k = 5 ∨ k = 6 := by omega
  rcases hcase with rfl | rfl | rfl | rfl | rfl | rfl | rfl <;> refine sub_lst g (place_nat k0 (by simp) (by simp)) rfl (fin _ ?_) <;> first | exact bmf | (unfold Bd; first | decide | ((try simp only [Int.reduceToNat, Int.reducePow]); omega))

/-! all points of a small curve -/
theorem loopW_inv {σ : Type} {f : AV → σ → (σ → Prop) → Prop} : ∀ {items : List AV} {s : σ} {K : σ → Prop} (I : Nat → σ → Prop), I 0 s → (∀ i v s K', items[i]? = some v → I i s → (∀ s', I (i + 1) s' → K' s') → f v s K') → (∀ s, I items.length s → K s) → loopW f items s K
  | [], s, K, I, h0, _, hK => hK s h0
  | v :: r, s, K, I, h0, hs, hK => by
    rw [loopW_cons]
    exact hs 0 v s _ rfl h0 fun s' h' => loopW_inv (fun i => I (i + 1)) h' (fun i u s K' hu => hs (i + 1) u s K' (by simpa using hu)) hK
theorem set_mid (st : St) (l l' : List AV) (r : St) : ((st ++ [l]) ++ r).set st.length l' = (st ++ [l']) ++ r := by simp
theorem get_mid (st : St) (l : List AV) (r : St) : ((st ++ [l]) ++ r)[st.length]? = some l := by simp
noncomputable def ptrs (k q : Nat) : List AV := (List.range q).map fun (j : Nat) => AV.lst (k + 1 + j)
noncomputable def rootsN (q i r : Nat) : List Nat := (List.range i).filter fun (y : Nat) => y * y % q == r
noncomputable def rootsV (q i r : Nat) : List AV := (rootsN q i r).map fun (y : Nat) => AV.int y
noncomputable def rootsSt (q i : Nat) : St := (List.range q).map (rootsV q i)
noncomputable def pointsF (q : Nat) (b : Int) (i : Nat) : List (Int × Int) := (List.range i).flatMap fun (x : Nat) => (rootsN q q (((x : Int) * x * x + b) % q).toNat).map fun (y : Nat) => ((x : Int), (y : Int))
noncomputable def ptv (t : Int × Int) : AV := .tup [.int t.1, .int t.2]
theorem roots_len (q i r : Nat) : (rootsV q i r).length ≤ i := by
  unfold rootsV rootsN
  rw [List.length_map]
  refine Nat.le_trans (List.length_filter_le _ _) ?_
  simp
theorem roots_succ (q i : Nat) (hq : 0 < q) : (rootsSt q i).set (i * i % q) (rootsV q i (i * i % q) ++ [AV.int i]) = rootsSt q (i + 1) := by
  unfold rootsSt
  refine List.ext_getElem (by simp) fun j h1 h2 => ?_
  rw [List.getElem_set]
  simp only [List.getElem_map, List.getElem_range]
  unfold rootsV rootsN
  rw [List.range_succ, List.filter_append, List.map_append]
  split
  · rename_i e
    subst e
    simp
  · rename_i e
    have : (i * i % q == j) = false := by simpa using e
    simp [this]
theorem points_succ (q : Nat) (b : Int) (i : Nat) : pointsF q b (i + 1) = pointsF q b i ++ (rootsN q q (((i : Int) * i * i + b) % q).toNat).map fun (y : Nat) => ((i : Int), (y : Int)) := by
  unfold pointsF
  rw [List.range_succ, List.flatMap_append]
  simp
theorem points_len (q : Nat) (b : Int) : ∀ i, (pointsF q b i).length ≤ i * q
  | 0 => by simp [pointsF]
  | i + 1 => by
    rw [points_succ, List.length_append, List.length_map, Nat.succ_mul]
    have h1 := points_len q b i
    have h2 := roots_len q q (((i : Int) * i * i + b) % q).toNat
    unfold rootsV at h2
    rw [List.length_map] at h2
    omega
theorem c_listed (n : Nat) {q : Nat} {b : Int} {st : St} {Q : AV → St → Prop} (hq : 0 < q) (hq2 : q ≤ 100) (hlen : ∀ i ≤ q, (pointsF q b i).length ≤ 200) (bb : Bd b)
    (h : ∀ i st', (∃ r, st' = st ++ r) → st'[i]? = some ((pointsF q b q).map ptv) → i ≥ st.length → Q (.lst i) st') : callW (n + 1) 17 [.int q, .int b] st Q := by
  refine callW_fn (by decide) (by decide) (by decide) rfl ?_
  delta a_law_listed b_law_listed
  (repeat (first | (with_reducible first | refine ct_none ?_ | refine ct_some ?_ | refine ex_cons ?_ | refine ex_nil ?_ | refine ite_dec ?_ | refine ite_ndec ?_ | refine and_le rfl ?_ | refine and_tr ?_) | dsimp only [fnW, bindNames, bindNest, upd, look, Nat.reduceBEq, cond_true, cond_false, execW, evalW, evalsW, orW, andW, chainW, bt_name, bt_names, bt_swap, bt_nest, cw_eq, cw_ne, cw_lt, cw_le, cw_gt, cw_ge, cw_is_nn, cw_is_tn, cw_isnot_nn, cw_isnot_tn, bw_add, bw_sub, bw_mul, bw_mod, bw_fdiv, bw_pow, bw_lsh, bw_rsh, bw_and, tob_bool, toi_int, ite_tt, ite_ff, ln1, ln0, gd1, gd0, rev2, rev3, ap0, ap1, not_t, not_f, at_p, at_b, at_g, at_n, isCurve_curve, Nat.reduceAdd, sub_tup, pl0_2, pl1_2, pl0_3, pl1_3, pl2_3, gc1, gc0, itW, rw_int, capture, andW']))
  (repeat (first | (with_reducible refine And.intro (by first | with_reducible assumption | (refine Bn.small ?_; (repeat' first | (with_reducible refine Bn.base ?_; with_reducible assumption) | with_reducible refine Bn.mul ?_ ?_ | with_reducible refine Bn.add ?_ ?_ | with_reducible refine Bn.sub ?_ ?_ | with_reducible refine Bn.neg ?_ | (with_reducible refine Bn.mod ?_ (by with_reducible assumption); first | with_reducible assumption | omega) | exact Bn.lit (by decide)); done) | omega) ?_) | (with_reducible first | refine ct_none ?_ | refine ct_some ?_ | refine ex_cons ?_ | refine ex_nil ?_ | refine ite_dec ?_ | refine ite_ndec ?_ | refine and_le rfl ?_ | refine and_tr ?_) | dsimp only [fnW, bindNames, bindNest, upd, look, Nat.reduceBEq, cond_true, cond_false, execW, evalW, evalsW, orW, andW, chainW, bt_name, bt_names, bt_swap, bt_nest, cw_eq, cw_ne, cw_lt, cw_le, cw_gt, cw_ge, cw_is_nn, cw_is_tn, cw_isnot_nn, cw_isnot_tn, bw_add, bw_sub, bw_mul, bw_mod, bw_fdiv, bw_pow, bw_lsh, bw_rsh, bw_and, tob_bool, toi_int, ite_tt, ite_ff, ln1, ln0, gd1, gd0, rev2, rev3, ap0, ap1, not_t, not_f, at_p, at_b, at_g, at_n, isCurve_curve, Nat.reduceAdd, sub_tup, pl0_2, pl1_2, pl0_3, pl1_3, pl2_3, gc1, gc0]))
  have hq0 : (0 : Int) < q := by omega
  refine loopW_inv (fun i s => s = (st ++ [ptrs st.length i]) ++ List.replicate i []) (by simp [ptrs]) ?_ ?_
  · rintro i v s K' hv rfl hK
    refine ⟨trivial, ?_⟩
    (repeat (first | (with_reducible first | refine ct_none ?_ | refine ct_some ?_ | refine ex_cons ?_ | refine ex_nil ?_ | refine ite_dec ?_ | refine ite_ndec ?_ | refine and_le rfl ?_ | refine and_tr ?_) | dsimp only [fnW, bindNames, bindNest, upd, look, Nat.reduceBEq, cond_true, cond_false, execW, evalW, evalsW, orW, andW, chainW, bt_name, bt_names, bt_swap, bt_nest, cw_eq, cw_ne, cw_lt, cw_le, cw_gt, cw_ge, cw_is_nn, cw_is_tn, cw_isnot_nn, cw_isnot_tn, bw_add, bw_sub, bw_mul, bw_mod, bw_fdiv, bw_pow, bw_lsh, bw_rsh, bw_and, tob_bool, toi_int, ite_tt, ite_ff, ln1, ln0, gd1, gd0, rev2, rev3, ap0, ap1, not_t, not_f, at_p, at_b, at_g, at_n, isCurve_curve, Nat.reduceAdd, sub_tup, pl0_2, pl1_2, pl0_3, pl1_3, pl2_3, gc1, gc0]))
    (repeat (first | (with_reducible refine And.intro (by first | with_reducible assumption | (refine Bn.small ?_; (repeat' first | (with_reducible refine Bn.base ?_; with_reducible assumption) | with_reducible refine Bn.mul ?_ ?_ | with_reducible refine Bn.add ?_ ?_ | with_reducible refine Bn.sub ?_ ?_ | with_reducible refine Bn.neg ?_ | (with_reducible refine Bn.mod ?_ (by with_reducible assumption); first | with_reducible assumption | omega) | exact Bn.lit (by decide)); done) | omega) ?_) | (with_reducible first | refine ct_none ?_ | refine ct_some ?_ | refine ex_cons ?_ | refine ex_nil ?_ | refine ite_dec ?_ | refine ite_ndec ?_ | refine and_le rfl ?_ | refine and_tr ?_) | dsimp only [fnW, bindNames, bindNest, upd, look, Nat.reduceBEq, cond_true, cond_false, execW, evalW, evalsW, orW, andW, chainW, bt_name, bt_names, bt_swap, bt_nest, cw_eq, cw_ne, cw_lt, cw_le, cw_gt, cw_ge, cw_is_nn, cw_is_tn, cw_isnot_nn, cw_isnot_tn, bw_add, bw_sub, bw_mul, bw_mod, bw_fdiv, bw_pow, bw_lsh, bw_rsh, bw_and, tob_bool, toi_int, ite_tt, ite_ff, ln1, ln0, gd1, gd0, rev2, rev3, ap0, ap1, not_t, not_f, at_p, at_b, at_g, at_n, isCurve_curve, Nat.reduceAdd, sub_tup, pl0_2, pl1_2, pl0_3, pl1_3, pl2_3, gc1, gc0]))
    have e1 : ((st ++ [ptrs st.length i]) ++ List.replicate i []).length = st.length + 1 + i := by simp; omega
    rw [e1]
    have hi := (ri_get hv).1
    refine ap_lst (l := ptrs st.length i) (by rw [List.append_assoc]; exact get_mid _ _ _) (by unfold ptrs; simp; omega) (hK _ ?_)
    rw [List.append_assoc, set_mid]
    unfold ptrs
    rw [List.range_succ, List.map_append, List.replicate_succ']
    rfl
  · rintro s rfl
    rw [ri_len]
    refine ⟨trivial, ?_⟩
    (repeat (first | (with_reducible first | refine ct_none ?_ | refine ct_some ?_ | refine ex_cons ?_ | refine ex_nil ?_ | refine ite_dec ?_ | refine ite_ndec ?_ | refine and_le rfl ?_ | refine and_tr ?_) | dsimp only [fnW, bindNames, bindNest, upd, look, Nat.reduceBEq, cond_true, cond_false, execW, evalW, evalsW, orW, andW, chainW, bt_name, bt_names, bt_swap, bt_nest, cw_eq, cw_ne, cw_lt, cw_le, cw_gt, cw_ge, cw_is_nn, cw_is_tn, cw_isnot_nn, cw_isnot_tn, bw_add, bw_sub, bw_mul, bw_mod, bw_fdiv, bw_pow, bw_lsh, bw_rsh, bw_and, tob_bool, toi_int, ite_tt, ite_ff, ln1, ln0, gd1, gd0, rev2, rev3, ap0, ap1, not_t, not_f, at_p, at_b, at_g, at_n, isCurve_curve, Nat.reduceAdd, sub_tup, pl0_2, pl1_2, pl0_3, pl1_3, pl2_3, gc1, gc0, itW, rw_int]))
    (repeat (first | (with_reducible refine And.intro (by first | with_reducible assumption | (refine Bn.small ?_; (repeat' first | (with_reducible refine Bn.base ?_; with_reducible assumption) | with_reducible refine Bn.mul ?_ ?_ | with_reducible refine Bn.add ?_ ?_ | with_reducible refine Bn.sub ?_ ?_ | with_reducible refine Bn.neg ?_ | (with_reducible refine Bn.mod ?_ (by with_reducible assumption); first | with_reducible assumption | omega) | exact Bn.lit (by decide)); done) | omega) ?_) | (with_reducible first | refine ct_none ?_ | refine ct_some ?_ | refine ex_cons ?_ | refine ex_nil ?_ | refine ite_dec ?_ | refine ite_ndec ?_ | refine and_le rfl ?_ | refine and_tr ?_) | dsimp only [fnW, bindNames, bindNest, upd, look, Nat.reduceBEq, cond_true, cond_false, execW, evalW, evalsW, orW, andW, chainW, bt_name, bt_names, bt_swap, bt_nest, cw_eq, cw_ne, cw_lt, cw_le, cw_gt, cw_ge, cw_is_nn, cw_is_tn, cw_isnot_nn, cw_isnot_tn, bw_add, bw_sub, bw_mul, bw_mod, bw_fdiv, bw_pow, bw_lsh, bw_rsh, bw_and, tob_bool, toi_int, ite_tt, ite_ff, ln1, ln0, gd1, gd0, rev2, rev3, ap0, ap1, not_t, not_f, at_p, at_b, at_g, at_n, isCurve_curve, Nat.reduceAdd, sub_tup, pl0_2, pl1_2, pl0_3, pl1_3, pl2_3, gc1, gc0]))
    have e0 : ((q : Int) - 0).toNat = q := by omega
    rw [e0]
    have e2 : (st ++ [ptrs st.length q]) ++ List.replicate q [] = (st ++ [ptrs st.length q]) ++ rootsSt q 0 := by
      congr 1
      refine List.ext_getElem (by simp [rootsSt]) fun j h1 h2 => ?_
      simp [rootsSt, rootsV, rootsN]
    refine ⟨fun i loc s => look loc 25 = some (.int q) ∧ look loc 34 = some (.lst st.length) ∧ look loc 1 = some (.int b) ∧ s = (st ++ [ptrs st.length q]) ++ rootsSt q i, ⟨rfl, rfl, rfl, e2⟩, ?_, ?_⟩
    · rintro i v loc s ⟨h1, h2, h3, rfl⟩ hv
      obtain ⟨hi, rfl⟩ := ri_get hv
      have hi' : i < q := by omega
      refine ⟨trivial, ?_⟩
      (repeat (first | (with_reducible first | refine ct_none ?_ | refine ct_some ?_ | refine ex_cons ?_ | refine ex_nil ?_ | refine ite_dec ?_ | refine ite_ndec ?_ | refine and_le rfl ?_ | refine and_tr ?_) | dsimp only [fnW, bindNames, bindNest, upd, look, Nat.reduceBEq, cond_true, cond_false, execW, evalW, evalsW, orW, andW, chainW, bt_name, bt_names, bt_swap, bt_nest, cw_eq, cw_ne, cw_lt, cw_le, cw_gt, cw_ge, cw_is_nn, cw_is_tn, cw_isnot_nn, cw_isnot_tn, bw_add, bw_sub, bw_mul, bw_mod, bw_fdiv, bw_pow, bw_lsh, bw_rsh, bw_and, tob_bool, toi_int, ite_tt, ite_ff, ln1, ln0, gd1, gd0, rev2, rev3, ap0, ap1, not_t, not_f, at_p, at_b, at_g, at_n, isCurve_curve, Nat.reduceAdd, sub_tup, pl0_2, pl1_2, pl0_3, pl1_3, pl2_3, gc1, gc0] | (refine' lk_m ?lk ?_; (case lk => (repeat' first | (show look _ _ = _; with_reducible assumption) | exact lk_eq | exact rfl | refine' lk_ne ?_ (by rfl))))))
      have by' : Bd (0 + (i : Int)) := by unfold Bd; have : (2 : Nat) ^ 300 > 100 := by decide
                                          omega
      (repeat (first | (with_reducible refine And.intro (by first | with_reducible assumption | (refine Bn.small ?_; (repeat' first | (with_reducible refine Bn.base ?_; with_reducible assumption) | with_reducible refine Bn.mul ?_ ?_ | with_reducible refine Bn.add ?_ ?_ | with_reducible refine Bn.sub ?_ ?_ | with_reducible refine Bn.neg ?_ | (with_reducible refine Bn.mod ?_ (by with_reducible assumption); first | with_reducible assumption | omega) | exact Bn.lit (by decide)); done) | omega) ?_) | (with_reducible first | refine ct_none ?_ | refine ct_some ?_ | refine ex_cons ?_ | refine ex_nil ?_ | refine ite_dec ?_ | refine ite_ndec ?_ | refine and_le rfl ?_ | refine and_tr ?_) | dsimp only [fnW, bindNames, bindNest, upd, look, Nat.reduceBEq, cond_true, cond_false, execW, evalW, evalsW, orW, andW, chainW, bt_name, bt_names, bt_swap, bt_nest, cw_eq, cw_ne, cw_lt, cw_le, cw_gt, cw_ge, cw_is_nn, cw_is_tn, cw_isnot_nn, cw_isnot_tn, bw_add, bw_sub, bw_mul, bw_mod, bw_fdiv, bw_pow, bw_lsh, bw_rsh, bw_and, tob_bool, toi_int, ite_tt, ite_ff, ln1, ln0, gd1, gd0, rev2, rev3, ap0, ap1, not_t, not_f, at_p, at_b, at_g, at_n, isCurve_curve, Nat.reduceAdd, sub_tup, pl0_2, pl1_2, pl0_3, pl1_3, pl2_3, gc1, gc0] | (refine' lk_m ?lk ?_; (case lk => (repeat' first | (show look _ _ = _; with_reducible assumption) | exact lk_eq | exact rfl | refine' lk_ne ?_ (by rfl))))))
      have em : ((0 + (i : Int)) * (0 + (i : Int))) % (q : Int) = ((i * i % q : Nat) : Int) := by
        rw [Int.zero_add]; simp
      rw [em]
      have hr : i * i % q < q := Nat.mod_lt _ hq
      obtain ⟨rr, hrr⟩ : ∃ rr, rr = i * i % q := ⟨_, rfl⟩
      have hsucc := roots_succ q i hq
      rw [← hrr] at hr hsucc ⊢
      refine sub_lst (get_mid _ _ _) (place_nat (by omega) (by unfold ptrs; simp; omega) (by unfold ptrs; simp; omega)) (d := .lst (st.length + 1 + rr)) (by unfold ptrs; simp [hr]) ?_
      (repeat (first | (with_reducible first | refine ct_none ?_ | refine ct_some ?_ | refine ex_cons ?_ | refine ex_nil ?_ | refine ite_dec ?_ | refine ite_ndec ?_ | refine and_le rfl ?_ | refine and_tr ?_) | dsimp only [fnW, bindNames, bindNest, upd, look, Nat.reduceBEq, cond_true, cond_false, execW, evalW, evalsW, orW, andW, chainW, bt_name, bt_names, bt_swap, bt_nest, cw_eq, cw_ne, cw_lt, cw_le, cw_gt, cw_ge, cw_is_nn, cw_is_tn, cw_isnot_nn, cw_isnot_tn, bw_add, bw_sub, bw_mul, bw_mod, bw_fdiv, bw_pow, bw_lsh, bw_rsh, bw_and, tob_bool, toi_int, ite_tt, ite_ff, ln1, ln0, gd1, gd0, rev2, rev3, ap0, ap1, not_t, not_f, at_p, at_b, at_g, at_n, isCurve_curve, Nat.reduceAdd, sub_tup, pl0_2, pl1_2, pl0_3, pl1_3, pl2_3, gc1, gc0] | (refine' lk_m ?lk ?_; (case lk => (repeat' first | (show look _ _ = _; with_reducible assumption) | exact lk_eq | exact rfl | refine' lk_ne ?_ (by rfl))))))
      have e3 : (st ++ [ptrs st.length q]).length = st.length + 1 := by simp
      have g3 : ((st ++ [ptrs st.length q]) ++ rootsSt q i)[st.length + 1 + rr]? = some (rootsV q i rr) := by
        rw [List.getElem?_append_right (by rw [e3]; omega), e3, Nat.add_sub_cancel_left]
        unfold rootsSt
        rw [List.getElem?_map, List.getElem?_range hr]; rfl
      have hl3 := roots_len q i rr
      refine ap_lst g3 (by omega) ?_
      rw [List.set_append_right _ _ (by rw [e3]; omega), e3, Nat.add_sub_cancel_left, Int.zero_add, hsucc]
      (repeat (first | (with_reducible first | refine ct_none ?_ | refine ct_some ?_ | refine ex_cons ?_ | refine ex_nil ?_ | refine ite_dec ?_ | refine ite_ndec ?_ | refine and_le rfl ?_ | refine and_tr ?_) | dsimp only [fnW, bindNames, bindNest, upd, look, Nat.reduceBEq, cond_true, cond_false, execW, evalW, evalsW, orW, andW, chainW, bt_name, bt_names, bt_swap, bt_nest, cw_eq, cw_ne, cw_lt, cw_le, cw_gt, cw_ge, cw_is_nn, cw_is_tn, cw_isnot_nn, cw_isnot_tn, bw_add, bw_sub, bw_mul, bw_mod, bw_fdiv, bw_pow, bw_lsh, bw_rsh, bw_and, tob_bool, toi_int, ite_tt, ite_ff, ln1, ln0, gd1, gd0, rev2, rev3, ap0, ap1, not_t, not_f, at_p, at_b, at_g, at_n, isCurve_curve, Nat.reduceAdd, sub_tup, pl0_2, pl1_2, pl0_3, pl1_3, pl2_3, gc1, gc0] | (refine' lk_m ?lk ?_; (case lk => (repeat' first | (show look _ _ = _; with_reducible assumption) | exact lk_eq | exact rfl | refine' lk_ne ?_ (by rfl))))))
      exact ⟨by (repeat' first | (show look _ _ = _; with_reducible assumption) | exact lk_eq | exact rfl | refine' lk_ne ?_ (by rfl)), by (repeat' first | (show look _ _ = _; with_reducible assumption) | exact lk_eq | exact rfl | refine' lk_ne ?_ (by rfl)), by (repeat' first | (show look _ _ = _; with_reducible assumption) | exact lk_eq | exact rfl | refine' lk_ne ?_ (by rfl)), rfl⟩
    · rintro loc s ⟨h1, h2, h3, rfl⟩
      (try rw [ri_len, e0])
      refine ⟨trivial, ?_⟩
      (repeat (first | (with_reducible first | refine ct_none ?_ | refine ct_some ?_ | refine ex_cons ?_ | refine ex_nil ?_ | refine ite_dec ?_ | refine ite_ndec ?_ | refine and_le rfl ?_ | refine and_tr ?_) | dsimp only [fnW, bindNames, bindNest, upd, look, Nat.reduceBEq, cond_true, cond_false, execW, evalW, evalsW, orW, andW, chainW, bt_name, bt_names, bt_swap, bt_nest, cw_eq, cw_ne, cw_lt, cw_le, cw_gt, cw_ge, cw_is_nn, cw_is_tn, cw_isnot_nn, cw_isnot_tn, bw_add, bw_sub, bw_mul, bw_mod, bw_fdiv, bw_pow, bw_lsh, bw_rsh, bw_and, tob_bool, toi_int, ite_tt, ite_ff, ln1, ln0, gd1, gd0, rev2, rev3, ap0, ap1, not_t, not_f, at_p, at_b, at_g, at_n, isCurve_curve, Nat.reduceAdd, sub_tup, pl0_2, pl1_2, pl0_3, pl1_3, pl2_3, gc1, gc0, itW, rw_int] | (refine' lk_m ?lk ?_; (case lk => (repeat' first | (show look _ _ = _; with_reducible assumption) | exact lk_eq | exact rfl | refine' lk_ne ?_ (by rfl)))) | (refine' lc_m ?cp ?_; (case cp => first | exact cap_cons (by first | with_reducible assumption | exact lk_eq | exact lk_ne (by with_reducible assumption) (by rfl) | rfl) (cap_cons (by first | with_reducible assumption | exact lk_eq | exact lk_ne (by with_reducible assumption) (by rfl) | rfl) (rfl)) | exact cap_cons (by first | with_reducible assumption | exact lk_eq | exact lk_ne (by with_reducible assumption) (by rfl) | rfl) (cap_cons (by first | with_reducible assumption | exact lk_eq | exact lk_ne (by with_reducible assumption) (by rfl) | rfl) (cap_cons (by first | with_reducible assumption | exact lk_eq | exact lk_ne (by with_reducible assumption) (by rfl) | rfl) (rfl)))))))
      (repeat (first | (with_reducible refine And.intro (by first | with_reducible assumption | (refine Bn.small ?_; (repeat' first | (with_reducible refine Bn.base ?_; with_reducible assumption) | with_reducible refine Bn.mul ?_ ?_ | with_reducible refine Bn.add ?_ ?_ | with_reducible refine Bn.sub ?_ ?_ | with_reducible refine Bn.neg ?_ | (with_reducible refine Bn.mod ?_ (by with_reducible assumption); first | with_reducible assumption | omega) | exact Bn.lit (by decide)); done) | omega) ?_) | (with_reducible first | refine ct_none ?_ | refine ct_some ?_ | refine ex_cons ?_ | refine ex_nil ?_ | refine ite_dec ?_ | refine ite_ndec ?_ | refine and_le rfl ?_ | refine and_tr ?_) | dsimp only [fnW, bindNames, bindNest, upd, look, Nat.reduceBEq, cond_true, cond_false, execW, evalW, evalsW, orW, andW, chainW, bt_name, bt_names, bt_swap, bt_nest, cw_eq, cw_ne, cw_lt, cw_le, cw_gt, cw_ge, cw_is_nn, cw_is_tn, cw_isnot_nn, cw_isnot_tn, bw_add, bw_sub, bw_mul, bw_mod, bw_fdiv, bw_pow, bw_lsh, bw_rsh, bw_and, tob_bool, toi_int, ite_tt, ite_ff, ln1, ln0, gd1, gd0, rev2, rev3, ap0, ap1, not_t, not_f, at_p, at_b, at_g, at_n, isCurve_curve, Nat.reduceAdd, sub_tup, pl0_2, pl1_2, pl0_3, pl1_3, pl2_3, gc1, gc0] | (refine' lk_m ?lk ?_; (case lk => (repeat' first | (show look _ _ = _; with_reducible assumption) | exact lk_eq | exact rfl | refine' lk_ne ?_ (by rfl)))) | (refine' lc_m ?cp ?_; (case cp => first | exact cap_cons (by first | with_reducible assumption | exact lk_eq | exact lk_ne (by with_reducible assumption) (by rfl) | rfl) (cap_cons (by first | with_reducible assumption | exact lk_eq | exact lk_ne (by with_reducible assumption) (by rfl) | rfl) (rfl)) | exact cap_cons (by first | with_reducible assumption | exact lk_eq | exact lk_ne (by with_reducible assumption) (by rfl) | rfl) (cap_cons (by first | with_reducible assumption | exact lk_eq | exact lk_ne (by with_reducible assumption) (by rfl) | rfl) (cap_cons (by first | with_reducible assumption | exact lk_eq | exact lk_ne (by with_reducible assumption) (by rfl) | rfl) (rfl)))))))
      generalize hbase : (st ++ [ptrs st.length q]) ++ rootsSt q q = base
      have hbl : base.length = st.length + 1 + q := by rw [← hbase]; simp [rootsSt]; omega
      have gR : ∀ r, r < q → base[st.length + 1 + r]? = some (rootsV q q r) := fun r hr => by
        have e3 : (st ++ [ptrs st.length q]).length = st.length + 1 := by simp
        rw [← hbase, List.getElem?_append_right (by rw [e3]; omega), e3, Nat.add_sub_cancel_left]
        unfold rootsSt
        rw [List.getElem?_map, List.getElem?_range hr]; rfl
      have gP : base[st.length]? = some (ptrs st.length q) := by rw [← hbase]; exact get_mid _ _ _
      refine loopW_inv (fun i s => s = base ++ [(pointsF q b i).map ptv]) (by simp [pointsF]) ?_ ?_
      · rintro i v s K' hv rfl hK
        obtain ⟨hi, rfl⟩ := ri_get hv
        have hi' : i < q := by omega
        refine ⟨trivial, ?_⟩
        have bx : Bd (0 + (i : Int)) := by unfold Bd; have : (2 : Nat) ^ 300 > 100 := by decide
                                           omega
        (repeat (first | (with_reducible first | refine ct_none ?_ | refine ct_some ?_ | refine ex_cons ?_ | refine ex_nil ?_ | refine ite_dec ?_ | refine ite_ndec ?_ | refine and_le rfl ?_ | refine and_tr ?_) | dsimp only [fnW, bindNames, bindNest, upd, look, Nat.reduceBEq, cond_true, cond_false, execW, evalW, evalsW, orW, andW, chainW, bt_name, bt_names, bt_swap, bt_nest, cw_eq, cw_ne, cw_lt, cw_le, cw_gt, cw_ge, cw_is_nn, cw_is_tn, cw_isnot_nn, cw_isnot_tn, bw_add, bw_sub, bw_mul, bw_mod, bw_fdiv, bw_pow, bw_lsh, bw_rsh, bw_and, tob_bool, toi_int, ite_tt, ite_ff, ln1, ln0, gd1, gd0, rev2, rev3, ap0, ap1, not_t, not_f, at_p, at_b, at_g, at_n, isCurve_curve, Nat.reduceAdd, sub_tup, pl0_2, pl1_2, pl0_3, pl1_3, pl2_3, gc1, gc0]))
        (repeat (first | (with_reducible refine And.intro (by first | with_reducible assumption | (refine Bn.small ?_; (repeat' first | (with_reducible refine Bn.base ?_; with_reducible assumption) | with_reducible refine Bn.mul ?_ ?_ | with_reducible refine Bn.add ?_ ?_ | with_reducible refine Bn.sub ?_ ?_ | with_reducible refine Bn.neg ?_ | (with_reducible refine Bn.mod ?_ (by with_reducible assumption); first | with_reducible assumption | omega) | exact Bn.lit (by decide)); done) | omega) ?_) | (with_reducible first | refine ct_none ?_ | refine ct_some ?_ | refine ex_cons ?_ | refine ex_nil ?_ | refine ite_dec ?_ | refine ite_ndec ?_ | refine and_le rfl ?_ | refine and_tr ?_) | dsimp only [fnW, bindNames, bindNest, upd, look, Nat.reduceBEq, cond_true, cond_false, execW, evalW, evalsW, orW, andW, chainW, bt_name, bt_names, bt_swap, bt_nest, cw_eq, cw_ne, cw_lt, cw_le, cw_gt, cw_ge, cw_is_nn, cw_is_tn, cw_isnot_nn, cw_isnot_tn, bw_add, bw_sub, bw_mul, bw_mod, bw_fdiv, bw_pow, bw_lsh, bw_rsh, bw_and, tob_bool, toi_int, ite_tt, ite_ff, ln1, ln0, gd1, gd0, rev2, rev3, ap0, ap1, not_t, not_f, at_p, at_b, at_g, at_n, isCurve_curve, Nat.reduceAdd, sub_tup, pl0_2, pl1_2, pl0_3, pl1_3, pl2_3, gc1, gc0]))
        rw [Int.zero_add]
        have r0 : 0 ≤ ((i : Int) * i * i + b) % q := Int.emod_nonneg _ (Int.ne_of_gt hq0)
        have r1 : ((i : Int) * i * i + b) % q < q := Int.emod_lt_of_pos _ hq0
        have r2 : (((i : Int) * i * i + b) % q).toNat < q := by omega
        have gg := fun (l : List AV) => getElem?_prefix (r := [l]) (gR _ r2)
        refine sub_lst (getElem?_prefix gP) (place_nat r0 (by unfold ptrs; simp; omega) (by unfold ptrs; simp; omega)) (d := .lst (st.length + 1 + (((i : Int) * i * i + b) % q).toNat)) (by unfold ptrs; simp [r2]) ?_
        unfold seqW
        simp only [gg]
        have hrl := roots_len q q (((i : Int) * i * i + b) % q).toNat
        have hps := hlen (i + 1) hi'
        rw [points_succ, List.length_append, List.length_map] at hps
        refine loopW_inv (fun j s => s = base ++ [(pointsF q b i ++ ((rootsN q q (((i : Int) * i * i + b) % q).toNat).take j).map fun (y : Nat) => ((i : Int), (y : Int))).map ptv]) (by simp) ?_ ?_
        · rintro j u s K2 hu rfl hK2
          refine ⟨gg _, ?_⟩
          (repeat (first | (with_reducible first | refine ct_none ?_ | refine ct_some ?_ | refine ex_cons ?_ | refine ex_nil ?_ | refine ite_dec ?_ | refine ite_ndec ?_ | refine and_le rfl ?_ | refine and_tr ?_) | dsimp only [fnW, bindNames, bindNest, upd, look, Nat.reduceBEq, cond_true, cond_false, execW, evalW, evalsW, orW, andW, chainW, bt_name, bt_names, bt_swap, bt_nest, cw_eq, cw_ne, cw_lt, cw_le, cw_gt, cw_ge, cw_is_nn, cw_is_tn, cw_isnot_nn, cw_isnot_tn, bw_add, bw_sub, bw_mul, bw_mod, bw_fdiv, bw_pow, bw_lsh, bw_rsh, bw_and, tob_bool, toi_int, ite_tt, ite_ff, ln1, ln0, gd1, gd0, rev2, rev3, ap0, ap1, not_t, not_f, at_p, at_b, at_g, at_n, isCurve_curve, Nat.reduceAdd, sub_tup, pl0_2, pl1_2, pl0_3, pl1_3, pl2_3, gc1, gc0]))
          (repeat (first | (with_reducible refine And.intro (by first | with_reducible assumption | (refine Bn.small ?_; (repeat' first | (with_reducible refine Bn.base ?_; with_reducible assumption) | with_reducible refine Bn.mul ?_ ?_ | with_reducible refine Bn.add ?_ ?_ | with_reducible refine Bn.sub ?_ ?_ | with_reducible refine Bn.neg ?_ | (with_reducible refine Bn.mod ?_ (by with_reducible assumption); first | with_reducible assumption | omega) | exact Bn.lit (by decide)); done) | omega) ?_) | (with_reducible first | refine ct_none ?_ | refine ct_some ?_ | refine ex_cons ?_ | refine ex_nil ?_ | refine ite_dec ?_ | refine ite_ndec ?_ | refine and_le rfl ?_ | refine and_tr ?_) | dsimp only [fnW, bindNames, bindNest, upd, look, Nat.reduceBEq, cond_true, cond_false, execW, evalW, evalsW, orW, andW, chainW, bt_name, bt_names, bt_swap, bt_nest, cw_eq, cw_ne, cw_lt, cw_le, cw_gt, cw_ge, cw_is_nn, cw_is_tn, cw_isnot_nn, cw_isnot_tn, bw_add, bw_sub, bw_mul, bw_mod, bw_fdiv, bw_pow, bw_lsh, bw_rsh, bw_and, tob_bool, toi_int, ite_tt, ite_ff, ln1, ln0, gd1, gd0, rev2, rev3, ap0, ap1, not_t, not_f, at_p, at_b, at_g, at_n, isCurve_curve, Nat.reduceAdd, sub_tup, pl0_2, pl1_2, pl0_3, pl1_3, pl2_3, gc1, gc0]))
          have hj : j < (rootsN q q (((i : Int) * i * i + b) % q).toNat).length := by
            have := (List.getElem?_eq_some_iff.mp hu).1
            unfold rootsV at this
            simpa using this
          have hu' : u = AV.int ((rootsN q q (((i : Int) * i * i + b) % q).toNat)[j] : Nat) := by
            unfold rootsV at hu
            rw [List.getElem?_map, List.getElem?_eq_getElem hj] at hu
            exact (Option.some.inj hu).symm
          subst hu'
          refine ap_lst (gl _ _) (by rw [List.length_map, List.length_append, List.length_map, List.length_take]; omega) (hK2 _ ?_)
          rw [sl, List.take_add_one, List.getElem?_eq_getElem hj]
          simp only [Option.toList_some, List.map_append, List.map_cons, List.map_nil, List.append_assoc, ptv]
        · rintro s rfl
          refine ⟨gg _, hK _ ?_⟩
          have e5 : (rootsV q q (((i : Int) * i * i + b) % q).toNat).length = (rootsN q q (((i : Int) * i * i + b) % q).toNat).length := by unfold rootsV; simp
          rw [e5, List.take_length, points_succ]
      · rintro s rfl
        rw [ri_len, e0]
        refine ⟨trivial, ?_⟩
        refine h _ _ ⟨[ptrs st.length q] ++ rootsSt q q ++ [(pointsF q b q).map ptv], by rw [← hbase]; simp⟩ ?_ (by omega)
        exact gl _ _
end Mine
set_option maxRecDepth 100000
set_option maxHeartbeats 4000000
set_option linter.unusedSimpArgs false
set_option linter.unusedVariables false
set_option exponentiation.threshold 300
namespace Mine
open PySem PySem.W PyProof.Rows

theorem eqO_pt (st : St) (A : Pt) : eqO st (pt A) (pt A) = some true := by
  match A with
  | Option.none => rfl
  | some (x, y) =>
    rw [eqO_eq]; unfold eqO0
    simp only [pt, dataO, flatPD, intsO, PyData.eqv, PyData.eqvAll, List.map_cons, List.map_nil, beq_self_eq_true, Bool.and_self]
theorem cw_eq_pt {st : St} {k : Bool → Prop} (A : Pt) : cmpW .Eq (pt A) (pt A) st k = k true := by unfold cmpW cmpO; rw [eqO_pt]
theorem cw_ne_pt {st : St} {k : Bool → Prop} (A : Pt) : cmpW .NotEq (pt A) (pt A) st k = k false := by unfold cmpW cmpO; rw [eqO_pt]; rfl
theorem cw_notin01 {st : St} {k : Bool → Prop} (a : Int) : cmpW .NotIn (.int a) (.tup [.int 0, .int 1]) st k = k (!(decide (a = 0) || decide (a = 1))) := by
  unfold cmpW cmpO inO
  simp only [flatPD, dataO, intsO, List.map_cons, List.map_nil, List.any_cons, List.any_nil, eqv_int, Bool.or_false, Option.map_some]
  have e0 : decide ((0 : Int) = a) = decide (a = 0) := by simp [eq_comm]
  have e1 : decide ((1 : Int) = a) = decide (a = 1) := by simp [eq_comm]
  rw [e0, e1]
theorem cw_in01 {st : St} {k : Bool → Prop} (a : Int) : cmpW .In (.int a) (.tup [.int 0, .int 1]) st k = k (decide (a = 0) || decide (a = 1)) := by
  unfold cmpW cmpO inO
  simp only [flatPD, dataO, intsO, List.map_cons, List.map_nil, List.any_cons, List.any_nil, eqv_int, Bool.or_false, Option.map_some]
  have e0 : decide ((0 : Int) = a) = decide (a = 0) := by simp [eq_comm]
  have e1 : decide ((1 : Int) = a) = decide (a = 1) := by simp [eq_comm]
  rw [e0, e1]

theorem bdp_narrow {p x y z : Int} (hp : 0 < p) (bp : Bd p) : BdP (narrow p x y z) := by
  unfold narrow
  split
  · trivial
  · exact ⟨bd_mod hp bp, bd_mod hp bp⟩
theorem bdp_times {p m k : Int} (hp : 0 < p) (bp : Bd p) : ∀ {P : Pt}, BdP (timesF p m k P)
  | Option.none => trivial
  | some (x, y) => bdp_narrow hp bp
theorem bdp_lift {p b x parity : Int} (hp : 1 < p) (bp : Bd p) (bx : Bd x) : BdP (liftF p b x parity) := by
  unfold liftF
  split
  · trivial
  · dsimp only
    split
    · trivial
    · have h1 := pmod_lo ((x * x * x + b) % p) ((p + 1) / 4) p
      have h2 := pmod_hi (a := (x * x * x + b) % p) (e := (p + 1) / 4) hp
      generalize pmod ((x * x * x + b) % p) ((p + 1) / 4) p = y at *
      split <;> (try split) <;> first | trivial | (refine ⟨bx, ?_⟩; unfold Bd at *; omega)
noncomputable def sigV : Option (Int × Int × Int) → AV
  | Option.none => .none
  | some (a, b, c) => .tup [.int a, .int b, .int c]
noncomputable def sigG (m secret word k : Int) : Pt → Option (Int × Int × Int)
  | Option.none => Option.none
  | some (r, y) => if ¬ (0 < secret ∧ secret < m) then Option.none else
    let s := (word + r * secret) * pmod k (m - 2) m % m
    if ¬ (0 < r ∧ r < m) then Option.none else if s = 0 then Option.none else
    if s > m / 2 then some (1 - y % 2, r, m - s) else some (y % 2, r, s)
theorem c_signature (n : Nat) {p b m secret word k : Int} {G : Pt} {st : St} {Q : AV → St → Prop} (hp : 1 < p) (bp : Bd p) (hm : 1 < m) (bm : Bd m) (bG : BdP G) (b1 : Bd secret) (b2 : Bd word) (b3 : Bd k)
    (h : Q (sigV (sigG m secret word k (timesF p m k G))) st) : callW (n + 4) 9 [.curve p b (pt G) m, .int secret, .int word, .int k] st Q := by
  refine callW_fn (by decide) (by decide) (by decide) rfl ?_
  delta a_signature b_signature
  have hp0 : 0 < p := by omega
  have hm0 : 0 < m := by omega
  (repeat (first | (with_reducible first | refine ct_none ?_ | refine ct_some ?_ | refine ex_cons ?_ | refine ex_nil ?_ | refine ite_dec ?_ | refine ite_ndec ?_ | refine and_le rfl ?_ | refine and_tr ?_) | dsimp only [fnW, bindNames, bindNest, upd, look, Nat.reduceBEq, cond_true, cond_false, execW, evalW, evalsW, orW, andW, chainW, bt_name, bt_names, bt_swap, bt_nest, cw_eq, cw_ne, cw_lt, cw_le, cw_gt, cw_ge, cw_is_nn, cw_is_tn, cw_isnot_nn, cw_isnot_tn, bw_add, bw_sub, bw_mul, bw_mod, bw_fdiv, bw_pow, bw_lsh, bw_rsh, bw_and, tob_bool, toi_int, ite_tt, ite_ff, ln1, ln0, gd1, gd0, rev2, rev3, ap0, ap1, not_t, not_f, at_p, at_b, at_g, at_n, isCurve_curve, Nat.reduceAdd, sub_tup, pl0_2, pl1_2, pl0_3, pl1_3, pl2_3, gc1, gc0]))
  refine c_times n hp bp bG hm0 bm ?_
  have bT := bdp_times (m := m) (k := k) (P := G) hp0 bp
  generalize timesF p m k G = P at bT h ⊢
  match P, bT, h with
  | Option.none, _, h =>
    (repeat (first | (with_reducible first | refine ct_none ?_ | refine ct_some ?_ | refine ex_cons ?_ | refine ex_nil ?_ | refine ite_dec ?_ | refine ite_ndec ?_ | refine and_le rfl ?_ | refine and_tr ?_) | dsimp only [fnW, bindNames, bindNest, upd, look, Nat.reduceBEq, cond_true, cond_false, execW, evalW, evalsW, orW, andW, chainW, bt_name, bt_names, bt_swap, bt_nest, cw_eq, cw_ne, cw_lt, cw_le, cw_gt, cw_ge, cw_is_nn, cw_is_tn, cw_isnot_nn, cw_isnot_tn, bw_add, bw_sub, bw_mul, bw_mod, bw_fdiv, bw_pow, bw_lsh, bw_rsh, bw_and, tob_bool, toi_int, ite_tt, ite_ff, ln1, ln0, gd1, gd0, rev2, rev3, ap0, ap1, not_t, not_f, at_p, at_b, at_g, at_n, isCurve_curve, Nat.reduceAdd, sub_tup, pl0_2, pl1_2, pl0_3, pl1_3, pl2_3, gc1, gc0, pt_none]))
    exact h
  | some (x, y), ⟨bx, by'⟩, h =>
    (repeat (first | (with_reducible first | refine ct_none ?_ | refine ct_some ?_ | refine ex_cons ?_ | refine ex_nil ?_ | refine ite_dec ?_ | refine ite_ndec ?_ | refine and_le rfl ?_ | refine and_tr ?_) | dsimp only [fnW, bindNames, bindNest, upd, look, Nat.reduceBEq, cond_true, cond_false, execW, evalW, evalsW, orW, andW, chainW, bt_name, bt_names, bt_swap, bt_nest, cw_eq, cw_ne, cw_lt, cw_le, cw_gt, cw_ge, cw_is_nn, cw_is_tn, cw_isnot_nn, cw_isnot_tn, bw_add, bw_sub, bw_mul, bw_mod, bw_fdiv, bw_pow, bw_lsh, bw_rsh, bw_and, tob_bool, toi_int, ite_tt, ite_ff, ln1, ln0, gd1, gd0, rev2, rev3, ap0, ap1, not_t, not_f, at_p, at_b, at_g, at_n, isCurve_curve, Nat.reduceAdd, sub_tup, pl0_2, pl1_2, pl0_3, pl1_3, pl2_3, gc1, gc0, pt_some]))
    unfold sigG at h
    dsimp only at h
    by_cases h1 : 0 < secret
    · refine br_t (h1) ?_; (repeat (first | (with_reducible first | refine ct_none ?_ | refine ct_some ?_ | refine ex_cons ?_ | refine ex_nil ?_ | refine ite_dec ?_ | refine ite_ndec ?_ | refine and_le rfl ?_ | refine and_tr ?_) | dsimp only [fnW, bindNames, bindNest, upd, look, Nat.reduceBEq, cond_true, cond_false, execW, evalW, evalsW, orW, andW, chainW, bt_name, bt_names, bt_swap, bt_nest, cw_eq, cw_ne, cw_lt, cw_le, cw_gt, cw_ge, cw_is_nn, cw_is_tn, cw_isnot_nn, cw_isnot_tn, bw_add, bw_sub, bw_mul, bw_mod, bw_fdiv, bw_pow, bw_lsh, bw_rsh, bw_and, tob_bool, toi_int, ite_tt, ite_ff, ln1, ln0, gd1, gd0, rev2, rev3, ap0, ap1, not_t, not_f, at_p, at_b, at_g, at_n, isCurve_curve, Nat.reduceAdd, sub_tup, pl0_2, pl1_2, pl0_3, pl1_3, pl2_3, gc1, gc0]))
      by_cases h2 : secret < m
      · rw [if_neg (fun q => q ⟨h1, h2⟩)] at h
        refine br_t (h2) ?_; (repeat (first | (with_reducible first | refine ct_none ?_ | refine ct_some ?_ | refine ex_cons ?_ | refine ex_nil ?_ | refine ite_dec ?_ | refine ite_ndec ?_ | refine and_le rfl ?_ | refine and_tr ?_) | dsimp only [fnW, bindNames, bindNest, upd, look, Nat.reduceBEq, cond_true, cond_false, execW, evalW, evalsW, orW, andW, chainW, bt_name, bt_names, bt_swap, bt_nest, cw_eq, cw_ne, cw_lt, cw_le, cw_gt, cw_ge, cw_is_nn, cw_is_tn, cw_isnot_nn, cw_isnot_tn, bw_add, bw_sub, bw_mul, bw_mod, bw_fdiv, bw_pow, bw_lsh, bw_rsh, bw_and, tob_bool, toi_int, ite_tt, ite_ff, ln1, ln0, gd1, gd0, rev2, rev3, ap0, ap1, not_t, not_f, at_p, at_b, at_g, at_n, isCurve_curve, Nat.reduceAdd, sub_tup, pl0_2, pl1_2, pl0_3, pl1_3, pl2_3, gc1, gc0]))
        (repeat (first | (with_reducible refine And.intro (by first | with_reducible assumption | (refine Bn.small ?_; (repeat' first | (with_reducible refine Bn.base ?_; with_reducible assumption) | with_reducible refine Bn.mul ?_ ?_ | with_reducible refine Bn.add ?_ ?_ | with_reducible refine Bn.sub ?_ ?_ | with_reducible refine Bn.neg ?_ | (with_reducible refine Bn.mod ?_ (by with_reducible assumption); first | with_reducible assumption | omega) | exact Bn.lit (by decide)); done) | omega) ?_) | (with_reducible first | refine ct_none ?_ | refine ct_some ?_ | refine ex_cons ?_ | refine ex_nil ?_ | refine ite_dec ?_ | refine ite_ndec ?_ | refine and_le rfl ?_ | refine and_tr ?_) | dsimp only [fnW, bindNames, bindNest, upd, look, Nat.reduceBEq, cond_true, cond_false, execW, evalW, evalsW, orW, andW, chainW, bt_name, bt_names, bt_swap, bt_nest, cw_eq, cw_ne, cw_lt, cw_le, cw_gt, cw_ge, cw_is_nn, cw_is_tn, cw_isnot_nn, cw_isnot_tn, bw_add, bw_sub, bw_mul, bw_mod, bw_fdiv, bw_pow, bw_lsh, bw_rsh, bw_and, tob_bool, toi_int, ite_tt, ite_ff, ln1, ln0, gd1, gd0, rev2, rev3, ap0, ap1, not_t, not_f, at_p, at_b, at_g, at_n, isCurve_curve, Nat.reduceAdd, sub_tup, pl0_2, pl1_2, pl0_3, pl1_3, pl2_3, gc1, gc0]))
        refine c_pow (n + 2) (by omega) hm ?_
        have bb := bd_pmod (a := k) (e := m - 2) hm bm
        (repeat (first | (with_reducible first | refine ct_none ?_ | refine ct_some ?_ | refine ex_cons ?_ | refine ex_nil ?_ | refine ite_dec ?_ | refine ite_ndec ?_ | refine and_le rfl ?_ | refine and_tr ?_) | dsimp only [fnW, bindNames, bindNest, upd, look, Nat.reduceBEq, cond_true, cond_false, execW, evalW, evalsW, orW, andW, chainW, bt_name, bt_names, bt_swap, bt_nest, cw_eq, cw_ne, cw_lt, cw_le, cw_gt, cw_ge, cw_is_nn, cw_is_tn, cw_isnot_nn, cw_isnot_tn, bw_add, bw_sub, bw_mul, bw_mod, bw_fdiv, bw_pow, bw_lsh, bw_rsh, bw_and, tob_bool, toi_int, ite_tt, ite_ff, ln1, ln0, gd1, gd0, rev2, rev3, ap0, ap1, not_t, not_f, at_p, at_b, at_g, at_n, isCurve_curve, Nat.reduceAdd, sub_tup, pl0_2, pl1_2, pl0_3, pl1_3, pl2_3, gc1, gc0]))
        (repeat (first | (with_reducible refine And.intro (by first | with_reducible assumption | (refine Bn.small ?_; (repeat' first | (with_reducible refine Bn.base ?_; with_reducible assumption) | with_reducible refine Bn.mul ?_ ?_ | with_reducible refine Bn.add ?_ ?_ | with_reducible refine Bn.sub ?_ ?_ | with_reducible refine Bn.neg ?_ | (with_reducible refine Bn.mod ?_ (by with_reducible assumption); first | with_reducible assumption | omega) | exact Bn.lit (by decide)); done) | omega) ?_) | (with_reducible first | refine ct_none ?_ | refine ct_some ?_ | refine ex_cons ?_ | refine ex_nil ?_ | refine ite_dec ?_ | refine ite_ndec ?_ | refine and_le rfl ?_ | refine and_tr ?_) | dsimp only [fnW, bindNames, bindNest, upd, look, Nat.reduceBEq, cond_true, cond_false, execW, evalW, evalsW, orW, andW, chainW, bt_name, bt_names, bt_swap, bt_nest, cw_eq, cw_ne, cw_lt, cw_le, cw_gt, cw_ge, cw_is_nn, cw_is_tn, cw_isnot_nn, cw_isnot_tn, bw_add, bw_sub, bw_mul, bw_mod, bw_fdiv, bw_pow, bw_lsh, bw_rsh, bw_and, tob_bool, toi_int, ite_tt, ite_ff, ln1, ln0, gd1, gd0, rev2, rev3, ap0, ap1, not_t, not_f, at_p, at_b, at_g, at_n, isCurve_curve, Nat.reduceAdd, sub_tup, pl0_2, pl1_2, pl0_3, pl1_3, pl2_3, gc1, gc0]))
        generalize (word + x * secret) * pmod k (m - 2) m % m = s at h ⊢
        by_cases h3 : 0 < x
        · refine br_t (h3) ?_; (repeat (first | (with_reducible first | refine ct_none ?_ | refine ct_some ?_ | refine ex_cons ?_ | refine ex_nil ?_ | refine ite_dec ?_ | refine ite_ndec ?_ | refine and_le rfl ?_ | refine and_tr ?_) | dsimp only [fnW, bindNames, bindNest, upd, look, Nat.reduceBEq, cond_true, cond_false, execW, evalW, evalsW, orW, andW, chainW, bt_name, bt_names, bt_swap, bt_nest, cw_eq, cw_ne, cw_lt, cw_le, cw_gt, cw_ge, cw_is_nn, cw_is_tn, cw_isnot_nn, cw_isnot_tn, bw_add, bw_sub, bw_mul, bw_mod, bw_fdiv, bw_pow, bw_lsh, bw_rsh, bw_and, tob_bool, toi_int, ite_tt, ite_ff, ln1, ln0, gd1, gd0, rev2, rev3, ap0, ap1, not_t, not_f, at_p, at_b, at_g, at_n, isCurve_curve, Nat.reduceAdd, sub_tup, pl0_2, pl1_2, pl0_3, pl1_3, pl2_3, gc1, gc0]))
          by_cases h4 : x < m
          · rw [if_neg (fun q => q ⟨h3, h4⟩)] at h
            refine br_t (h4) ?_; (repeat (first | (with_reducible first | refine ct_none ?_ | refine ct_some ?_ | refine ex_cons ?_ | refine ex_nil ?_ | refine ite_dec ?_ | refine ite_ndec ?_ | refine and_le rfl ?_ | refine and_tr ?_) | dsimp only [fnW, bindNames, bindNest, upd, look, Nat.reduceBEq, cond_true, cond_false, execW, evalW, evalsW, orW, andW, chainW, bt_name, bt_names, bt_swap, bt_nest, cw_eq, cw_ne, cw_lt, cw_le, cw_gt, cw_ge, cw_is_nn, cw_is_tn, cw_isnot_nn, cw_isnot_tn, bw_add, bw_sub, bw_mul, bw_mod, bw_fdiv, bw_pow, bw_lsh, bw_rsh, bw_and, tob_bool, toi_int, ite_tt, ite_ff, ln1, ln0, gd1, gd0, rev2, rev3, ap0, ap1, not_t, not_f, at_p, at_b, at_g, at_n, isCurve_curve, Nat.reduceAdd, sub_tup, pl0_2, pl1_2, pl0_3, pl1_3, pl2_3, gc1, gc0]))
            by_cases h5 : s = 0
            · rw [if_pos h5] at h; refine br_t (h5) ?_; (repeat (first | (with_reducible first | refine ct_none ?_ | refine ct_some ?_ | refine ex_cons ?_ | refine ex_nil ?_ | refine ite_dec ?_ | refine ite_ndec ?_ | refine and_le rfl ?_ | refine and_tr ?_) | dsimp only [fnW, bindNames, bindNest, upd, look, Nat.reduceBEq, cond_true, cond_false, execW, evalW, evalsW, orW, andW, chainW, bt_name, bt_names, bt_swap, bt_nest, cw_eq, cw_ne, cw_lt, cw_le, cw_gt, cw_ge, cw_is_nn, cw_is_tn, cw_isnot_nn, cw_isnot_tn, bw_add, bw_sub, bw_mul, bw_mod, bw_fdiv, bw_pow, bw_lsh, bw_rsh, bw_and, tob_bool, toi_int, ite_tt, ite_ff, ln1, ln0, gd1, gd0, rev2, rev3, ap0, ap1, not_t, not_f, at_p, at_b, at_g, at_n, isCurve_curve, Nat.reduceAdd, sub_tup, pl0_2, pl1_2, pl0_3, pl1_3, pl2_3, gc1, gc0])); exact h
            · rw [if_neg h5] at h; refine br_f (h5) ?_; (repeat (first | (with_reducible first | refine ct_none ?_ | refine ct_some ?_ | refine ex_cons ?_ | refine ex_nil ?_ | refine ite_dec ?_ | refine ite_ndec ?_ | refine and_le rfl ?_ | refine and_tr ?_) | dsimp only [fnW, bindNames, bindNest, upd, look, Nat.reduceBEq, cond_true, cond_false, execW, evalW, evalsW, orW, andW, chainW, bt_name, bt_names, bt_swap, bt_nest, cw_eq, cw_ne, cw_lt, cw_le, cw_gt, cw_ge, cw_is_nn, cw_is_tn, cw_isnot_nn, cw_isnot_tn, bw_add, bw_sub, bw_mul, bw_mod, bw_fdiv, bw_pow, bw_lsh, bw_rsh, bw_and, tob_bool, toi_int, ite_tt, ite_ff, ln1, ln0, gd1, gd0, rev2, rev3, ap0, ap1, not_t, not_f, at_p, at_b, at_g, at_n, isCurve_curve, Nat.reduceAdd, sub_tup, pl0_2, pl1_2, pl0_3, pl1_3, pl2_3, gc1, gc0]))
              (repeat (first | (with_reducible refine And.intro (by first | with_reducible assumption | (refine Bn.small ?_; (repeat' first | (with_reducible refine Bn.base ?_; with_reducible assumption) | with_reducible refine Bn.mul ?_ ?_ | with_reducible refine Bn.add ?_ ?_ | with_reducible refine Bn.sub ?_ ?_ | with_reducible refine Bn.neg ?_ | (with_reducible refine Bn.mod ?_ (by with_reducible assumption); first | with_reducible assumption | omega) | exact Bn.lit (by decide)); done) | omega) ?_) | (with_reducible first | refine ct_none ?_ | refine ct_some ?_ | refine ex_cons ?_ | refine ex_nil ?_ | refine ite_dec ?_ | refine ite_ndec ?_ | refine and_le rfl ?_ | refine and_tr ?_) | dsimp only [fnW, bindNames, bindNest, upd, look, Nat.reduceBEq, cond_true, cond_false, execW, evalW, evalsW, orW, andW, chainW, bt_name, bt_names, bt_swap, bt_nest, cw_eq, cw_ne, cw_lt, cw_le, cw_gt, cw_ge, cw_is_nn, cw_is_tn, cw_isnot_nn, cw_isnot_tn, bw_add, bw_sub, bw_mul, bw_mod, bw_fdiv, bw_pow, bw_lsh, bw_rsh, bw_and, tob_bool, toi_int, ite_tt, ite_ff, ln1, ln0, gd1, gd0, rev2, rev3, ap0, ap1, not_t, not_f, at_p, at_b, at_g, at_n, isCurve_curve, Nat.reduceAdd, sub_tup, pl0_2, pl1_2, pl0_3, pl1_3, pl2_3, gc1, gc0]))
              by_cases h6 : s > m / 2
              · rw [if_pos h6] at h; refine br_t (h6) ?_; (repeat (first | (with_reducible first | refine ct_none ?_ | refine ct_some ?_ | refine ex_cons ?_ | refine ex_nil ?_ | refine ite_dec ?_ | refine ite_ndec ?_ | refine and_le rfl ?_ | refine and_tr ?_) | dsimp only [fnW, bindNames, bindNest, upd, look, Nat.reduceBEq, cond_true, cond_false, execW, evalW, evalsW, orW, andW, chainW, bt_name, bt_names, bt_swap, bt_nest, cw_eq, cw_ne, cw_lt, cw_le, cw_gt, cw_ge, cw_is_nn, cw_is_tn, cw_isnot_nn, cw_isnot_tn, bw_add, bw_sub, bw_mul, bw_mod, bw_fdiv, bw_pow, bw_lsh, bw_rsh, bw_and, tob_bool, toi_int, ite_tt, ite_ff, ln1, ln0, gd1, gd0, rev2, rev3, ap0, ap1, not_t, not_f, at_p, at_b, at_g, at_n, isCurve_curve, Nat.reduceAdd, sub_tup, pl0_2, pl1_2, pl0_3, pl1_3, pl2_3, gc1, gc0])); (repeat (first | (with_reducible refine And.intro (by first | with_reducible assumption | (refine Bn.small ?_; (repeat' first | (with_reducible refine Bn.base ?_; with_reducible assumption) | with_reducible refine Bn.mul ?_ ?_ | with_reducible refine Bn.add ?_ ?_ | with_reducible refine Bn.sub ?_ ?_ | with_reducible refine Bn.neg ?_ | (with_reducible refine Bn.mod ?_ (by with_reducible assumption); first | with_reducible assumption | omega) | exact Bn.lit (by decide)); done) | omega) ?_) | (with_reducible first | refine ct_none ?_ | refine ct_some ?_ | refine ex_cons ?_ | refine ex_nil ?_ | refine ite_dec ?_ | refine ite_ndec ?_ | refine and_le rfl ?_ | refine and_tr ?_) | dsimp only [fnW, bindNames, bindNest, upd, look, Nat.reduceBEq, cond_true, cond_false, execW, evalW, evalsW, orW, andW, chainW, bt_name, bt_names, bt_swap, bt_nest, cw_eq, cw_ne, cw_lt, cw_le, cw_gt, cw_ge, cw_is_nn, cw_is_tn, cw_isnot_nn, cw_isnot_tn, bw_add, bw_sub, bw_mul, bw_mod, bw_fdiv, bw_pow, bw_lsh, bw_rsh, bw_and, tob_bool, toi_int, ite_tt, ite_ff, ln1, ln0, gd1, gd0, rev2, rev3, ap0, ap1, not_t, not_f, at_p, at_b, at_g, at_n, isCurve_curve, Nat.reduceAdd, sub_tup, pl0_2, pl1_2, pl0_3, pl1_3, pl2_3, gc1, gc0]))
                exact h
              · rw [if_neg h6] at h; refine br_f (h6) ?_; (repeat (first | (with_reducible first | refine ct_none ?_ | refine ct_some ?_ | refine ex_cons ?_ | refine ex_nil ?_ | refine ite_dec ?_ | refine ite_ndec ?_ | refine and_le rfl ?_ | refine and_tr ?_) | dsimp only [fnW, bindNames, bindNest, upd, look, Nat.reduceBEq, cond_true, cond_false, execW, evalW, evalsW, orW, andW, chainW, bt_name, bt_names, bt_swap, bt_nest, cw_eq, cw_ne, cw_lt, cw_le, cw_gt, cw_ge, cw_is_nn, cw_is_tn, cw_isnot_nn, cw_isnot_tn, bw_add, bw_sub, bw_mul, bw_mod, bw_fdiv, bw_pow, bw_lsh, bw_rsh, bw_and, tob_bool, toi_int, ite_tt, ite_ff, ln1, ln0, gd1, gd0, rev2, rev3, ap0, ap1, not_t, not_f, at_p, at_b, at_g, at_n, isCurve_curve, Nat.reduceAdd, sub_tup, pl0_2, pl1_2, pl0_3, pl1_3, pl2_3, gc1, gc0])); exact h
          · rw [if_pos (fun q => h4 q.2)] at h; refine br_f (h4) ?_; (repeat (first | (with_reducible first | refine ct_none ?_ | refine ct_some ?_ | refine ex_cons ?_ | refine ex_nil ?_ | refine ite_dec ?_ | refine ite_ndec ?_ | refine and_le rfl ?_ | refine and_tr ?_) | dsimp only [fnW, bindNames, bindNest, upd, look, Nat.reduceBEq, cond_true, cond_false, execW, evalW, evalsW, orW, andW, chainW, bt_name, bt_names, bt_swap, bt_nest, cw_eq, cw_ne, cw_lt, cw_le, cw_gt, cw_ge, cw_is_nn, cw_is_tn, cw_isnot_nn, cw_isnot_tn, bw_add, bw_sub, bw_mul, bw_mod, bw_fdiv, bw_pow, bw_lsh, bw_rsh, bw_and, tob_bool, toi_int, ite_tt, ite_ff, ln1, ln0, gd1, gd0, rev2, rev3, ap0, ap1, not_t, not_f, at_p, at_b, at_g, at_n, isCurve_curve, Nat.reduceAdd, sub_tup, pl0_2, pl1_2, pl0_3, pl1_3, pl2_3, gc1, gc0])); exact h
        · rw [if_pos (fun q => h3 q.1)] at h; refine br_f (h3) ?_; (repeat (first | (with_reducible first | refine ct_none ?_ | refine ct_some ?_ | refine ex_cons ?_ | refine ex_nil ?_ | refine ite_dec ?_ | refine ite_ndec ?_ | refine and_le rfl ?_ | refine and_tr ?_) | dsimp only [fnW, bindNames, bindNest, upd, look, Nat.reduceBEq, cond_true, cond_false, execW, evalW, evalsW, orW, andW, chainW, bt_name, bt_names, bt_swap, bt_nest, cw_eq, cw_ne, cw_lt, cw_le, cw_gt, cw_ge, cw_is_nn, cw_is_tn, cw_isnot_nn, cw_isnot_tn, bw_add, bw_sub, bw_mul, bw_mod, bw_fdiv, bw_pow, bw_lsh, bw_rsh, bw_and, tob_bool, toi_int, ite_tt, ite_ff, ln1, ln0, gd1, gd0, rev2, rev3, ap0, ap1, not_t, not_f, at_p, at_b, at_g, at_n, isCurve_curve, Nat.reduceAdd, sub_tup, pl0_2, pl1_2, pl0_3, pl1_3, pl2_3, gc1, gc0])); exact h
      · rw [if_pos (fun q => h2 q.2)] at h; refine br_f (h2) ?_; (repeat (first | (with_reducible first | refine ct_none ?_ | refine ct_some ?_ | refine ex_cons ?_ | refine ex_nil ?_ | refine ite_dec ?_ | refine ite_ndec ?_ | refine and_le rfl ?_ | refine and_tr ?_) | dsimp only [fnW, bindNames, bindNest, upd, look, Nat.reduceBEq, cond_true, cond_false, execW, evalW, evalsW, orW, andW, chainW, bt_name, bt_names, bt_swap, bt_nest, cw_eq, cw_ne, cw_lt, cw_le, cw_gt, cw_ge, cw_is_nn, cw_is_tn, cw_isnot_nn, cw_isnot_tn, bw_add, bw_sub, bw_mul, bw_mod, bw_fdiv, bw_pow, bw_lsh, bw_rsh, bw_and, tob_bool, toi_int, ite_tt, ite_ff, ln1, ln0, gd1, gd0, rev2, rev3, ap0, ap1, not_t, not_f, at_p, at_b, at_g, at_n, isCurve_curve, Nat.reduceAdd, sub_tup, pl0_2, pl1_2, pl0_3, pl1_3, pl2_3, gc1, gc0])); exact h
    · rw [if_pos (fun q => h1 q.1)] at h; refine br_f (h1) ?_; (repeat (first | (with_reducible first | refine ct_none ?_ | refine ct_some ?_ | refine ex_cons ?_ | refine ex_nil ?_ | refine ite_dec ?_ | refine ite_ndec ?_ | refine and_le rfl ?_ | refine and_tr ?_) | dsimp only [fnW, bindNames, bindNest, upd, look, Nat.reduceBEq, cond_true, cond_false, execW, evalW, evalsW, orW, andW, chainW, bt_name, bt_names, bt_swap, bt_nest, cw_eq, cw_ne, cw_lt, cw_le, cw_gt, cw_ge, cw_is_nn, cw_is_tn, cw_isnot_nn, cw_isnot_tn, bw_add, bw_sub, bw_mul, bw_mod, bw_fdiv, bw_pow, bw_lsh, bw_rsh, bw_and, tob_bool, toi_int, ite_tt, ite_ff, ln1, ln0, gd1, gd0, rev2, rev3, ap0, ap1, not_t, not_f, at_p, at_b, at_g, at_n, isCurve_curve, Nat.reduceAdd, sub_tup, pl0_2, pl1_2, pl0_3, pl1_3, pl2_3, gc1, gc0])); exact h
noncomputable def recG (p b m : Int) (G : Pt) (word parity r s : Int) : Pt :=
  if ¬ (parity = 0 ∨ parity = 1) ∨ ¬ (0 < r ∧ r < m) ∨ ¬ (0 < s ∧ s < m) then Option.none else
  match liftF p b r parity with
  | Option.none => Option.none
  | some P => addF p (timesF p m (s * pmod r (m - 2) m) (some P)) (timesF p m (-word * pmod r (m - 2) m) G)
theorem c_recovered (n : Nat) {p b m word parity r s : Int} {G : Pt} {st : St} {Q : AV → St → Prop} (hp : 1 < p) (bp : Bd p) (hm : 1 < m) (bm : Bd m) (bG : BdP G) (b1 : Bd word)
    (h : Q (pt (recG p b m G word parity r s)) st) : callW (n + 4) 10 [.curve p b (pt G) m, .int word, .int parity, .int r, .int s] st Q := by
  refine callW_fn (by decide) (by decide) (by decide) rfl ?_
  delta a_recovered b_recovered
  have hp0 : 0 < p := by omega
  have hm0 : 0 < m := by omega
  (repeat (first | (with_reducible first | refine ct_none ?_ | refine ct_some ?_ | refine ex_cons ?_ | refine ex_nil ?_ | refine ite_dec ?_ | refine ite_ndec ?_ | refine and_le rfl ?_ | refine and_tr ?_) | dsimp only [fnW, bindNames, bindNest, upd, look, Nat.reduceBEq, cond_true, cond_false, execW, evalW, evalsW, orW, andW, chainW, bt_name, bt_names, bt_swap, bt_nest, cw_eq, cw_ne, cw_lt, cw_le, cw_gt, cw_ge, cw_is_nn, cw_is_tn, cw_isnot_nn, cw_isnot_tn, bw_add, bw_sub, bw_mul, bw_mod, bw_fdiv, bw_pow, bw_lsh, bw_rsh, bw_and, tob_bool, toi_int, ite_tt, ite_ff, ln1, ln0, gd1, gd0, rev2, rev3, ap0, ap1, not_t, not_f, at_p, at_b, at_g, at_n, isCurve_curve, Nat.reduceAdd, sub_tup, pl0_2, pl1_2, pl0_3, pl1_3, pl2_3, gc1, gc0] | simp only [cw_notin01]))
  unfold recG at h
  by_cases h1 : parity = 0 ∨ parity = 1
  · by_cases h2 : 0 < r ∧ r < m
    · by_cases h3 : 0 < s ∧ s < m
      · have br := bd_small (Int.le_of_lt h2.1) h2.2 bm
        have bs := bd_small (Int.le_of_lt h3.1) h3.2 bm
        have d1 : (decide (parity = 0) || decide (parity = 1)) = true := by rcases h1 with rfl | rfl <;> rfl
        rw [if_neg (fun q => q.elim (fun x => x h1) (fun q => q.elim (fun x => x h2) (fun x => x h3)))] at h
        rw [d1]; (repeat (first | (with_reducible first | refine ct_none ?_ | refine ct_some ?_ | refine ex_cons ?_ | refine ex_nil ?_ | refine ite_dec ?_ | refine ite_ndec ?_ | refine and_le rfl ?_ | refine and_tr ?_) | dsimp only [fnW, bindNames, bindNest, upd, look, Nat.reduceBEq, cond_true, cond_false, execW, evalW, evalsW, orW, andW, chainW, bt_name, bt_names, bt_swap, bt_nest, cw_eq, cw_ne, cw_lt, cw_le, cw_gt, cw_ge, cw_is_nn, cw_is_tn, cw_isnot_nn, cw_isnot_tn, bw_add, bw_sub, bw_mul, bw_mod, bw_fdiv, bw_pow, bw_lsh, bw_rsh, bw_and, tob_bool, toi_int, ite_tt, ite_ff, ln1, ln0, gd1, gd0, rev2, rev3, ap0, ap1, not_t, not_f, at_p, at_b, at_g, at_n, isCurve_curve, Nat.reduceAdd, sub_tup, pl0_2, pl1_2, pl0_3, pl1_3, pl2_3, gc1, gc0]))
        refine br_t (h2.1) ?_; (repeat (first | (with_reducible first | refine ct_none ?_ | refine ct_some ?_ | refine ex_cons ?_ | refine ex_nil ?_ | refine ite_dec ?_ | refine ite_ndec ?_ | refine and_le rfl ?_ | refine and_tr ?_) | dsimp only [fnW, bindNames, bindNest, upd, look, Nat.reduceBEq, cond_true, cond_false, execW, evalW, evalsW, orW, andW, chainW, bt_name, bt_names, bt_swap, bt_nest, cw_eq, cw_ne, cw_lt, cw_le, cw_gt, cw_ge, cw_is_nn, cw_is_tn, cw_isnot_nn, cw_isnot_tn, bw_add, bw_sub, bw_mul, bw_mod, bw_fdiv, bw_pow, bw_lsh, bw_rsh, bw_and, tob_bool, toi_int, ite_tt, ite_ff, ln1, ln0, gd1, gd0, rev2, rev3, ap0, ap1, not_t, not_f, at_p, at_b, at_g, at_n, isCurve_curve, Nat.reduceAdd, sub_tup, pl0_2, pl1_2, pl0_3, pl1_3, pl2_3, gc1, gc0])); refine br_t (h2.2) ?_; (repeat (first | (with_reducible first | refine ct_none ?_ | refine ct_some ?_ | refine ex_cons ?_ | refine ex_nil ?_ | refine ite_dec ?_ | refine ite_ndec ?_ | refine and_le rfl ?_ | refine and_tr ?_) | dsimp only [fnW, bindNames, bindNest, upd, look, Nat.reduceBEq, cond_true, cond_false, execW, evalW, evalsW, orW, andW, chainW, bt_name, bt_names, bt_swap, bt_nest, cw_eq, cw_ne, cw_lt, cw_le, cw_gt, cw_ge, cw_is_nn, cw_is_tn, cw_isnot_nn, cw_isnot_tn, bw_add, bw_sub, bw_mul, bw_mod, bw_fdiv, bw_pow, bw_lsh, bw_rsh, bw_and, tob_bool, toi_int, ite_tt, ite_ff, ln1, ln0, gd1, gd0, rev2, rev3, ap0, ap1, not_t, not_f, at_p, at_b, at_g, at_n, isCurve_curve, Nat.reduceAdd, sub_tup, pl0_2, pl1_2, pl0_3, pl1_3, pl2_3, gc1, gc0])); refine br_t (h3.1) ?_; (repeat (first | (with_reducible first | refine ct_none ?_ | refine ct_some ?_ | refine ex_cons ?_ | refine ex_nil ?_ | refine ite_dec ?_ | refine ite_ndec ?_ | refine and_le rfl ?_ | refine and_tr ?_) | dsimp only [fnW, bindNames, bindNest, upd, look, Nat.reduceBEq, cond_true, cond_false, execW, evalW, evalsW, orW, andW, chainW, bt_name, bt_names, bt_swap, bt_nest, cw_eq, cw_ne, cw_lt, cw_le, cw_gt, cw_ge, cw_is_nn, cw_is_tn, cw_isnot_nn, cw_isnot_tn, bw_add, bw_sub, bw_mul, bw_mod, bw_fdiv, bw_pow, bw_lsh, bw_rsh, bw_and, tob_bool, toi_int, ite_tt, ite_ff, ln1, ln0, gd1, gd0, rev2, rev3, ap0, ap1, not_t, not_f, at_p, at_b, at_g, at_n, isCurve_curve, Nat.reduceAdd, sub_tup, pl0_2, pl1_2, pl0_3, pl1_3, pl2_3, gc1, gc0])); refine br_t (h3.2) ?_; (repeat (first | (with_reducible first | refine ct_none ?_ | refine ct_some ?_ | refine ex_cons ?_ | refine ex_nil ?_ | refine ite_dec ?_ | refine ite_ndec ?_ | refine and_le rfl ?_ | refine and_tr ?_) | dsimp only [fnW, bindNames, bindNest, upd, look, Nat.reduceBEq, cond_true, cond_false, execW, evalW, evalsW, orW, andW, chainW, bt_name, bt_names, bt_swap, bt_nest, cw_eq, cw_ne, cw_lt, cw_le, cw_gt, cw_ge, cw_is_nn, cw_is_tn, cw_isnot_nn, cw_isnot_tn, bw_add, bw_sub, bw_mul, bw_mod, bw_fdiv, bw_pow, bw_lsh, bw_rsh, bw_and, tob_bool, toi_int, ite_tt, ite_ff, ln1, ln0, gd1, gd0, rev2, rev3, ap0, ap1, not_t, not_f, at_p, at_b, at_g, at_n, isCurve_curve, Nat.reduceAdd, sub_tup, pl0_2, pl1_2, pl0_3, pl1_3, pl2_3, gc1, gc0]))
        refine c_lifted (n + 1) hp bp br ?_
        have bL := bdp_lift (b := b) (parity := parity) hp bp br
        generalize liftF p b r parity = P at bL h ⊢
        match P, bL, h with
        | Option.none, _, h =>
          (repeat (first | (with_reducible first | refine ct_none ?_ | refine ct_some ?_ | refine ex_cons ?_ | refine ex_nil ?_ | refine ite_dec ?_ | refine ite_ndec ?_ | refine and_le rfl ?_ | refine and_tr ?_) | dsimp only [fnW, bindNames, bindNest, upd, look, Nat.reduceBEq, cond_true, cond_false, execW, evalW, evalsW, orW, andW, chainW, bt_name, bt_names, bt_swap, bt_nest, cw_eq, cw_ne, cw_lt, cw_le, cw_gt, cw_ge, cw_is_nn, cw_is_tn, cw_isnot_nn, cw_isnot_tn, bw_add, bw_sub, bw_mul, bw_mod, bw_fdiv, bw_pow, bw_lsh, bw_rsh, bw_and, tob_bool, toi_int, ite_tt, ite_ff, ln1, ln0, gd1, gd0, rev2, rev3, ap0, ap1, not_t, not_f, at_p, at_b, at_g, at_n, isCurve_curve, Nat.reduceAdd, sub_tup, pl0_2, pl1_2, pl0_3, pl1_3, pl2_3, gc1, gc0, pt_none]))
          exact h
        | some (x, y), bL, h =>
          (repeat (first | (with_reducible first | refine ct_none ?_ | refine ct_some ?_ | refine ex_cons ?_ | refine ex_nil ?_ | refine ite_dec ?_ | refine ite_ndec ?_ | refine and_le rfl ?_ | refine and_tr ?_) | dsimp only [fnW, bindNames, bindNest, upd, look, Nat.reduceBEq, cond_true, cond_false, execW, evalW, evalsW, orW, andW, chainW, bt_name, bt_names, bt_swap, bt_nest, cw_eq, cw_ne, cw_lt, cw_le, cw_gt, cw_ge, cw_is_nn, cw_is_tn, cw_isnot_nn, cw_isnot_tn, bw_add, bw_sub, bw_mul, bw_mod, bw_fdiv, bw_pow, bw_lsh, bw_rsh, bw_and, tob_bool, toi_int, ite_tt, ite_ff, ln1, ln0, gd1, gd0, rev2, rev3, ap0, ap1, not_t, not_f, at_p, at_b, at_g, at_n, isCurve_curve, Nat.reduceAdd, sub_tup, pl0_2, pl1_2, pl0_3, pl1_3, pl2_3, gc1, gc0, pt_some]))
          refine c_pow (n + 2) (by omega) hm ?_
          have bb := bd_pmod (a := r) (e := m - 2) hm bm
          generalize pmod r (m - 2) m = back at bb h ⊢
          (repeat (first | (with_reducible first | refine ct_none ?_ | refine ct_some ?_ | refine ex_cons ?_ | refine ex_nil ?_ | refine ite_dec ?_ | refine ite_ndec ?_ | refine and_le rfl ?_ | refine and_tr ?_) | dsimp only [fnW, bindNames, bindNest, upd, look, Nat.reduceBEq, cond_true, cond_false, execW, evalW, evalsW, orW, andW, chainW, bt_name, bt_names, bt_swap, bt_nest, cw_eq, cw_ne, cw_lt, cw_le, cw_gt, cw_ge, cw_is_nn, cw_is_tn, cw_isnot_nn, cw_isnot_tn, bw_add, bw_sub, bw_mul, bw_mod, bw_fdiv, bw_pow, bw_lsh, bw_rsh, bw_and, tob_bool, toi_int, ite_tt, ite_ff, ln1, ln0, gd1, gd0, rev2, rev3, ap0, ap1, not_t, not_f, at_p, at_b, at_g, at_n, isCurve_curve, Nat.reduceAdd, sub_tup, pl0_2, pl1_2, pl0_3, pl1_3, pl2_3, gc1, gc0]))
          (repeat (first | (with_reducible refine And.intro (by first | with_reducible assumption | (refine Bn.small ?_; (repeat' first | (with_reducible refine Bn.base ?_; with_reducible assumption) | with_reducible refine Bn.mul ?_ ?_ | with_reducible refine Bn.add ?_ ?_ | with_reducible refine Bn.sub ?_ ?_ | with_reducible refine Bn.neg ?_ | (with_reducible refine Bn.mod ?_ (by with_reducible assumption); first | with_reducible assumption | omega) | exact Bn.lit (by decide)); done) | omega) ?_) | (with_reducible first | refine ct_none ?_ | refine ct_some ?_ | refine ex_cons ?_ | refine ex_nil ?_ | refine ite_dec ?_ | refine ite_ndec ?_ | refine and_le rfl ?_ | refine and_tr ?_) | dsimp only [fnW, bindNames, bindNest, upd, look, Nat.reduceBEq, cond_true, cond_false, execW, evalW, evalsW, orW, andW, chainW, bt_name, bt_names, bt_swap, bt_nest, cw_eq, cw_ne, cw_lt, cw_le, cw_gt, cw_ge, cw_is_nn, cw_is_tn, cw_isnot_nn, cw_isnot_tn, bw_add, bw_sub, bw_mul, bw_mod, bw_fdiv, bw_pow, bw_lsh, bw_rsh, bw_and, tob_bool, toi_int, ite_tt, ite_ff, ln1, ln0, gd1, gd0, rev2, rev3, ap0, ap1, not_t, not_f, at_p, at_b, at_g, at_n, isCurve_curve, Nat.reduceAdd, sub_tup, pl0_2, pl1_2, pl0_3, pl1_3, pl2_3, gc1, gc0]))
          refine c_times n (P := some (x, y)) hp bp bL hm0 bm ?_
          (repeat (first | (with_reducible first | refine ct_none ?_ | refine ct_some ?_ | refine ex_cons ?_ | refine ex_nil ?_ | refine ite_dec ?_ | refine ite_ndec ?_ | refine and_le rfl ?_ | refine and_tr ?_) | dsimp only [fnW, bindNames, bindNest, upd, look, Nat.reduceBEq, cond_true, cond_false, execW, evalW, evalsW, orW, andW, chainW, bt_name, bt_names, bt_swap, bt_nest, cw_eq, cw_ne, cw_lt, cw_le, cw_gt, cw_ge, cw_is_nn, cw_is_tn, cw_isnot_nn, cw_isnot_tn, bw_add, bw_sub, bw_mul, bw_mod, bw_fdiv, bw_pow, bw_lsh, bw_rsh, bw_and, tob_bool, toi_int, ite_tt, ite_ff, ln1, ln0, gd1, gd0, rev2, rev3, ap0, ap1, not_t, not_f, at_p, at_b, at_g, at_n, isCurve_curve, Nat.reduceAdd, sub_tup, pl0_2, pl1_2, pl0_3, pl1_3, pl2_3, gc1, gc0]))
          (repeat (first | (with_reducible refine And.intro (by first | with_reducible assumption | (refine Bn.small ?_; (repeat' first | (with_reducible refine Bn.base ?_; with_reducible assumption) | with_reducible refine Bn.mul ?_ ?_ | with_reducible refine Bn.add ?_ ?_ | with_reducible refine Bn.sub ?_ ?_ | with_reducible refine Bn.neg ?_ | (with_reducible refine Bn.mod ?_ (by with_reducible assumption); first | with_reducible assumption | omega) | exact Bn.lit (by decide)); done) | omega) ?_) | (with_reducible first | refine ct_none ?_ | refine ct_some ?_ | refine ex_cons ?_ | refine ex_nil ?_ | refine ite_dec ?_ | refine ite_ndec ?_ | refine and_le rfl ?_ | refine and_tr ?_) | dsimp only [fnW, bindNames, bindNest, upd, look, Nat.reduceBEq, cond_true, cond_false, execW, evalW, evalsW, orW, andW, chainW, bt_name, bt_names, bt_swap, bt_nest, cw_eq, cw_ne, cw_lt, cw_le, cw_gt, cw_ge, cw_is_nn, cw_is_tn, cw_isnot_nn, cw_isnot_tn, bw_add, bw_sub, bw_mul, bw_mod, bw_fdiv, bw_pow, bw_lsh, bw_rsh, bw_and, tob_bool, toi_int, ite_tt, ite_ff, ln1, ln0, gd1, gd0, rev2, rev3, ap0, ap1, not_t, not_f, at_p, at_b, at_g, at_n, isCurve_curve, Nat.reduceAdd, sub_tup, pl0_2, pl1_2, pl0_3, pl1_3, pl2_3, gc1, gc0]))
          refine c_times n (P := G) hp bp bG hm0 bm ?_
          (repeat (first | (with_reducible first | refine ct_none ?_ | refine ct_some ?_ | refine ex_cons ?_ | refine ex_nil ?_ | refine ite_dec ?_ | refine ite_ndec ?_ | refine and_le rfl ?_ | refine and_tr ?_) | dsimp only [fnW, bindNames, bindNest, upd, look, Nat.reduceBEq, cond_true, cond_false, execW, evalW, evalsW, orW, andW, chainW, bt_name, bt_names, bt_swap, bt_nest, cw_eq, cw_ne, cw_lt, cw_le, cw_gt, cw_ge, cw_is_nn, cw_is_tn, cw_isnot_nn, cw_isnot_tn, bw_add, bw_sub, bw_mul, bw_mod, bw_fdiv, bw_pow, bw_lsh, bw_rsh, bw_and, tob_bool, toi_int, ite_tt, ite_ff, ln1, ln0, gd1, gd0, rev2, rev3, ap0, ap1, not_t, not_f, at_p, at_b, at_g, at_n, isCurve_curve, Nat.reduceAdd, sub_tup, pl0_2, pl1_2, pl0_3, pl1_3, pl2_3, gc1, gc0]))
          refine c_added n hp bp (bdp_times hp0 bp) (bdp_times hp0 bp) ?_
          exact h
      · have hh : (if ¬(parity = 0 ∨ parity = 1) ∨ ¬(0 < r ∧ r < m) ∨ ¬(0 < s ∧ s < m) then (Option.none : Pt) else match liftF p b r parity with
            | Option.none => Option.none
            | some P => addF p (timesF p m (s * pmod r (m - 2) m) (some P)) (timesF p m (-word * pmod r (m - 2) m) G)) = Option.none := if_pos (.inr (.inr h3))
        rw [hh] at h
        have d1 : (decide (parity = 0) || decide (parity = 1)) = true := by rcases h1 with rfl | rfl <;> rfl
        rw [d1]; (repeat (first | (with_reducible first | refine ct_none ?_ | refine ct_some ?_ | refine ex_cons ?_ | refine ex_nil ?_ | refine ite_dec ?_ | refine ite_ndec ?_ | refine and_le rfl ?_ | refine and_tr ?_) | dsimp only [fnW, bindNames, bindNest, upd, look, Nat.reduceBEq, cond_true, cond_false, execW, evalW, evalsW, orW, andW, chainW, bt_name, bt_names, bt_swap, bt_nest, cw_eq, cw_ne, cw_lt, cw_le, cw_gt, cw_ge, cw_is_nn, cw_is_tn, cw_isnot_nn, cw_isnot_tn, bw_add, bw_sub, bw_mul, bw_mod, bw_fdiv, bw_pow, bw_lsh, bw_rsh, bw_and, tob_bool, toi_int, ite_tt, ite_ff, ln1, ln0, gd1, gd0, rev2, rev3, ap0, ap1, not_t, not_f, at_p, at_b, at_g, at_n, isCurve_curve, Nat.reduceAdd, sub_tup, pl0_2, pl1_2, pl0_3, pl1_3, pl2_3, gc1, gc0]))
        refine br_t (h2.1) ?_; (repeat (first | (with_reducible first | refine ct_none ?_ | refine ct_some ?_ | refine ex_cons ?_ | refine ex_nil ?_ | refine ite_dec ?_ | refine ite_ndec ?_ | refine and_le rfl ?_ | refine and_tr ?_) | dsimp only [fnW, bindNames, bindNest, upd, look, Nat.reduceBEq, cond_true, cond_false, execW, evalW, evalsW, orW, andW, chainW, bt_name, bt_names, bt_swap, bt_nest, cw_eq, cw_ne, cw_lt, cw_le, cw_gt, cw_ge, cw_is_nn, cw_is_tn, cw_isnot_nn, cw_isnot_tn, bw_add, bw_sub, bw_mul, bw_mod, bw_fdiv, bw_pow, bw_lsh, bw_rsh, bw_and, tob_bool, toi_int, ite_tt, ite_ff, ln1, ln0, gd1, gd0, rev2, rev3, ap0, ap1, not_t, not_f, at_p, at_b, at_g, at_n, isCurve_curve, Nat.reduceAdd, sub_tup, pl0_2, pl1_2, pl0_3, pl1_3, pl2_3, gc1, gc0])); refine br_t (h2.2) ?_; (repeat (first | (with_reducible first | refine ct_none ?_ | refine ct_some ?_ | refine ex_cons ?_ | refine ex_nil ?_ | refine ite_dec ?_ | refine ite_ndec ?_ | refine and_le rfl ?_ | refine and_tr ?_) | dsimp only [fnW, bindNames, bindNest, upd, look, Nat.reduceBEq, cond_true, cond_false, execW, evalW, evalsW, orW, andW, chainW, bt_name, bt_names, bt_swap, bt_nest, cw_eq, cw_ne, cw_lt, cw_le, cw_gt, cw_ge, cw_is_nn, cw_is_tn, cw_isnot_nn, cw_isnot_tn, bw_add, bw_sub, bw_mul, bw_mod, bw_fdiv, bw_pow, bw_lsh, bw_rsh, bw_and, tob_bool, toi_int, ite_tt, ite_ff, ln1, ln0, gd1, gd0, rev2, rev3, ap0, ap1, not_t, not_f, at_p, at_b, at_g, at_n, isCurve_curve, Nat.reduceAdd, sub_tup, pl0_2, pl1_2, pl0_3, pl1_3, pl2_3, gc1, gc0]))
        by_cases h4 : 0 < s
        · have h5 : ¬ s < m := fun q => h3 ⟨h4, q⟩
          refine br_t (h4) ?_; (repeat (first | (with_reducible first | refine ct_none ?_ | refine ct_some ?_ | refine ex_cons ?_ | refine ex_nil ?_ | refine ite_dec ?_ | refine ite_ndec ?_ | refine and_le rfl ?_ | refine and_tr ?_) | dsimp only [fnW, bindNames, bindNest, upd, look, Nat.reduceBEq, cond_true, cond_false, execW, evalW, evalsW, orW, andW, chainW, bt_name, bt_names, bt_swap, bt_nest, cw_eq, cw_ne, cw_lt, cw_le, cw_gt, cw_ge, cw_is_nn, cw_is_tn, cw_isnot_nn, cw_isnot_tn, bw_add, bw_sub, bw_mul, bw_mod, bw_fdiv, bw_pow, bw_lsh, bw_rsh, bw_and, tob_bool, toi_int, ite_tt, ite_ff, ln1, ln0, gd1, gd0, rev2, rev3, ap0, ap1, not_t, not_f, at_p, at_b, at_g, at_n, isCurve_curve, Nat.reduceAdd, sub_tup, pl0_2, pl1_2, pl0_3, pl1_3, pl2_3, gc1, gc0])); refine br_f (h5) ?_; (repeat (first | (with_reducible first | refine ct_none ?_ | refine ct_some ?_ | refine ex_cons ?_ | refine ex_nil ?_ | refine ite_dec ?_ | refine ite_ndec ?_ | refine and_le rfl ?_ | refine and_tr ?_) | dsimp only [fnW, bindNames, bindNest, upd, look, Nat.reduceBEq, cond_true, cond_false, execW, evalW, evalsW, orW, andW, chainW, bt_name, bt_names, bt_swap, bt_nest, cw_eq, cw_ne, cw_lt, cw_le, cw_gt, cw_ge, cw_is_nn, cw_is_tn, cw_isnot_nn, cw_isnot_tn, bw_add, bw_sub, bw_mul, bw_mod, bw_fdiv, bw_pow, bw_lsh, bw_rsh, bw_and, tob_bool, toi_int, ite_tt, ite_ff, ln1, ln0, gd1, gd0, rev2, rev3, ap0, ap1, not_t, not_f, at_p, at_b, at_g, at_n, isCurve_curve, Nat.reduceAdd, sub_tup, pl0_2, pl1_2, pl0_3, pl1_3, pl2_3, gc1, gc0]))
          exact h
        · refine br_f (h4) ?_; (repeat (first | (with_reducible first | refine ct_none ?_ | refine ct_some ?_ | refine ex_cons ?_ | refine ex_nil ?_ | refine ite_dec ?_ | refine ite_ndec ?_ | refine and_le rfl ?_ | refine and_tr ?_) | dsimp only [fnW, bindNames, bindNest, upd, look, Nat.reduceBEq, cond_true, cond_false, execW, evalW, evalsW, orW, andW, chainW, bt_name, bt_names, bt_swap, bt_nest, cw_eq, cw_ne, cw_lt, cw_le, cw_gt, cw_ge, cw_is_nn, cw_is_tn, cw_isnot_nn, cw_isnot_tn, bw_add, bw_sub, bw_mul, bw_mod, bw_fdiv, bw_pow, bw_lsh, bw_rsh, bw_and, tob_bool, toi_int, ite_tt, ite_ff, ln1, ln0, gd1, gd0, rev2, rev3, ap0, ap1, not_t, not_f, at_p, at_b, at_g, at_n, isCurve_curve, Nat.reduceAdd, sub_tup, pl0_2, pl1_2, pl0_3, pl1_3, pl2_3, gc1, gc0]))
          exact h
    · have hh : (if ¬(parity = 0 ∨ parity = 1) ∨ ¬(0 < r ∧ r < m) ∨ ¬(0 < s ∧ s < m) then (Option.none : Pt) else match liftF p b r parity with
            | Option.none => Option.none
            | some P => addF p (timesF p m (s * pmod r (m - 2) m) (some P)) (timesF p m (-word * pmod r (m - 2) m) G)) = Option.none := if_pos (.inr (.inl h2))
      rw [hh] at h
      have d1 : (decide (parity = 0) || decide (parity = 1)) = true := by rcases h1 with rfl | rfl <;> rfl
      rw [d1]; (repeat (first | (with_reducible first | refine ct_none ?_ | refine ct_some ?_ | refine ex_cons ?_ | refine ex_nil ?_ | refine ite_dec ?_ | refine ite_ndec ?_ | refine and_le rfl ?_ | refine and_tr ?_) | dsimp only [fnW, bindNames, bindNest, upd, look, Nat.reduceBEq, cond_true, cond_false, execW, evalW, evalsW, orW, andW, chainW, bt_name, bt_names, bt_swap, bt_nest, cw_eq, cw_ne, cw_lt, cw_le, cw_gt, cw_ge, cw_is_nn, cw_is_tn, cw_isnot_nn, cw_isnot_tn, bw_add, bw_sub, bw_mul, bw_mod, bw_fdiv, bw_pow, bw_lsh, bw_rsh, bw_and, tob_bool, toi_int, ite_tt, ite_ff, ln1, ln0, gd1, gd0, rev2, rev3, ap0, ap1, not_t, not_f, at_p, at_b, at_g, at_n, isCurve_curve, Nat.reduceAdd, sub_tup, pl0_2, pl1_2, pl0_3, pl1_3, pl2_3, gc1, gc0]))
      by_cases h4 : 0 < r
      · have h5 : ¬ r < m := fun q => h2 ⟨h4, q⟩
        refine br_t (h4) ?_; (repeat (first | (with_reducible first | refine ct_none ?_ | refine ct_some ?_ | refine ex_cons ?_ | refine ex_nil ?_ | refine ite_dec ?_ | refine ite_ndec ?_ | refine and_le rfl ?_ | refine and_tr ?_) | dsimp only [fnW, bindNames, bindNest, upd, look, Nat.reduceBEq, cond_true, cond_false, execW, evalW, evalsW, orW, andW, chainW, bt_name, bt_names, bt_swap, bt_nest, cw_eq, cw_ne, cw_lt, cw_le, cw_gt, cw_ge, cw_is_nn, cw_is_tn, cw_isnot_nn, cw_isnot_tn, bw_add, bw_sub, bw_mul, bw_mod, bw_fdiv, bw_pow, bw_lsh, bw_rsh, bw_and, tob_bool, toi_int, ite_tt, ite_ff, ln1, ln0, gd1, gd0, rev2, rev3, ap0, ap1, not_t, not_f, at_p, at_b, at_g, at_n, isCurve_curve, Nat.reduceAdd, sub_tup, pl0_2, pl1_2, pl0_3, pl1_3, pl2_3, gc1, gc0])); refine br_f (h5) ?_; (repeat (first | (with_reducible first | refine ct_none ?_ | refine ct_some ?_ | refine ex_cons ?_ | refine ex_nil ?_ | refine ite_dec ?_ | refine ite_ndec ?_ | refine and_le rfl ?_ | refine and_tr ?_) | dsimp only [fnW, bindNames, bindNest, upd, look, Nat.reduceBEq, cond_true, cond_false, execW, evalW, evalsW, orW, andW, chainW, bt_name, bt_names, bt_swap, bt_nest, cw_eq, cw_ne, cw_lt, cw_le, cw_gt, cw_ge, cw_is_nn, cw_is_tn, cw_isnot_nn, cw_isnot_tn, bw_add, bw_sub, bw_mul, bw_mod, bw_fdiv, bw_pow, bw_lsh, bw_rsh, bw_and, tob_bool, toi_int, ite_tt, ite_ff, ln1, ln0, gd1, gd0, rev2, rev3, ap0, ap1, not_t, not_f, at_p, at_b, at_g, at_n, isCurve_curve, Nat.reduceAdd, sub_tup, pl0_2, pl1_2, pl0_3, pl1_3, pl2_3, gc1, gc0]))
        exact h
      · refine br_f (h4) ?_; (repeat (first | (with_reducible first | refine ct_none ?_ | refine ct_some ?_ | refine ex_cons ?_ | refine ex_nil ?_ | refine ite_dec ?_ | refine ite_ndec ?_ | refine and_le rfl ?_ | refine and_tr ?_) | dsimp only [fnW, bindNames, bindNest, upd, look, Nat.reduceBEq, cond_true, cond_false, execW, evalW, evalsW, orW, andW, chainW, bt_name, bt_names, bt_swap, bt_nest, cw_eq, cw_ne, cw_lt, cw_le, cw_gt, cw_ge, cw_is_nn, cw_is_tn, cw_isnot_nn, cw_isnot_tn, bw_add, bw_sub, bw_mul, bw_mod, bw_fdiv, bw_pow, bw_lsh, bw_rsh, bw_and, tob_bool, toi_int, ite_tt, ite_ff, ln1, ln0, gd1, gd0, rev2, rev3, ap0, ap1, not_t, not_f, at_p, at_b, at_g, at_n, isCurve_curve, Nat.reduceAdd, sub_tup, pl0_2, pl1_2, pl0_3, pl1_3, pl2_3, gc1, gc0]))
        exact h
  · have hh : (if ¬(parity = 0 ∨ parity = 1) ∨ ¬(0 < r ∧ r < m) ∨ ¬(0 < s ∧ s < m) then (Option.none : Pt) else match liftF p b r parity with
            | Option.none => Option.none
            | some P => addF p (timesF p m (s * pmod r (m - 2) m) (some P)) (timesF p m (-word * pmod r (m - 2) m) G)) = Option.none := if_pos (.inl h1)
    rw [hh] at h
    have d1 : (decide (parity = 0) || decide (parity = 1)) = false := by simpa using h1
    rw [d1]; (repeat (first | (with_reducible first | refine ct_none ?_ | refine ct_some ?_ | refine ex_cons ?_ | refine ex_nil ?_ | refine ite_dec ?_ | refine ite_ndec ?_ | refine and_le rfl ?_ | refine and_tr ?_) | dsimp only [fnW, bindNames, bindNest, upd, look, Nat.reduceBEq, cond_true, cond_false, execW, evalW, evalsW, orW, andW, chainW, bt_name, bt_names, bt_swap, bt_nest, cw_eq, cw_ne, cw_lt, cw_le, cw_gt, cw_ge, cw_is_nn, cw_is_tn, cw_isnot_nn, cw_isnot_tn, bw_add, bw_sub, bw_mul, bw_mod, bw_fdiv, bw_pow, bw_lsh, bw_rsh, bw_and, tob_bool, toi_int, ite_tt, ite_ff, ln1, ln0, gd1, gd0, rev2, rev3, ap0, ap1, not_t, not_f, at_p, at_b, at_g, at_n, isCurve_curve, Nat.reduceAdd, sub_tup, pl0_2, pl1_2, pl0_3, pl1_3, pl2_3, gc1, gc0]))
    exact h
noncomputable def pGreat : Int := 115792089237316195423570985008687907853269984665640564039457584007908834671663
noncomputable def nGreat : Int := 115792089237316195423570985008687907852837564279074904382605163141518161494337
noncomputable def gGreat : Pt := some (55066263022277343669578718895168534326250603453777594175500187360389116729240, 32670510020758816978083085130507043184471273380659243275938904335757337482424)
theorem c_secp (n : Nat) {st : St} {Q : AV → St → Prop} (h : Q (.curve pGreat 7 (pt gGreat) nGreat) st) : callW (n + 2) 11 [] st Q := by
  refine callW_fn (by decide) (by decide) (by decide) rfl ?_
  delta a_secp256k1 b_secp256k1
  (repeat (first | (with_reducible first | refine ct_none ?_ | refine ct_some ?_ | refine ex_cons ?_ | refine ex_nil ?_ | refine ite_dec ?_ | refine ite_ndec ?_ | refine and_le rfl ?_ | refine and_tr ?_) | dsimp only [fnW, bindNames, bindNest, upd, look, Nat.reduceBEq, cond_true, cond_false, execW, evalW, evalsW, orW, andW, chainW, bt_name, bt_names, bt_swap, bt_nest, cw_eq, cw_ne, cw_lt, cw_le, cw_gt, cw_ge, cw_is_nn, cw_is_tn, cw_isnot_nn, cw_isnot_tn, bw_add, bw_sub, bw_mul, bw_mod, bw_fdiv, bw_pow, bw_lsh, bw_rsh, bw_and, tob_bool, toi_int, ite_tt, ite_ff, ln1, ln0, gd1, gd0, rev2, rev3, ap0, ap1, not_t, not_f, at_p, at_b, at_g, at_n, isCurve_curve, Nat.reduceAdd, sub_tup, pl0_2, pl1_2, pl0_3, pl1_3, pl2_3, gc1, gc0]))
  refine ⟨by decide, by decide, by decide, by decide, by decide, by decide, ?_⟩
  (repeat (first | (with_reducible first | refine ct_none ?_ | refine ct_some ?_ | refine ex_cons ?_ | refine ex_nil ?_ | refine ite_dec ?_ | refine ite_ndec ?_ | refine and_le rfl ?_ | refine and_tr ?_) | dsimp only [fnW, bindNames, bindNest, upd, look, Nat.reduceBEq, cond_true, cond_false, execW, evalW, evalsW, orW, andW, chainW, bt_name, bt_names, bt_swap, bt_nest, cw_eq, cw_ne, cw_lt, cw_le, cw_gt, cw_ge, cw_is_nn, cw_is_tn, cw_isnot_nn, cw_isnot_tn, bw_add, bw_sub, bw_mul, bw_mod, bw_fdiv, bw_pow, bw_lsh, bw_rsh, bw_and, tob_bool, toi_int, ite_tt, ite_ff, ln1, ln0, gd1, gd0, rev2, rev3, ap0, ap1, not_t, not_f, at_p, at_b, at_g, at_n, isCurve_curve, Nat.reduceAdd, sub_tup, pl0_2, pl1_2, pl0_3, pl1_3, pl2_3, gc1, gc0]))
  refine c_curve n ?_
  have e : ((1 : Int) * 2 ^ (256 : Int).toNat - 1 * 2 ^ (32 : Int).toNat - 977) = pGreat := by decide
  rw [e]
  exact h
theorem c_small (n : Nat) {st : St} {Q : AV → St → Prop} (h : Q (.curve 67 7 (pt (some (2, 22))) 79) st) : callW (n + 2) 12 [] st Q := by
  refine callW_fn (by decide) (by decide) (by decide) rfl ?_
  delta a_small_curve b_small_curve
  (repeat (first | (with_reducible first | refine ct_none ?_ | refine ct_some ?_ | refine ex_cons ?_ | refine ex_nil ?_ | refine ite_dec ?_ | refine ite_ndec ?_ | refine and_le rfl ?_ | refine and_tr ?_) | dsimp only [fnW, bindNames, bindNest, upd, look, Nat.reduceBEq, cond_true, cond_false, execW, evalW, evalsW, orW, andW, chainW, bt_name, bt_names, bt_swap, bt_nest, cw_eq, cw_ne, cw_lt, cw_le, cw_gt, cw_ge, cw_is_nn, cw_is_tn, cw_isnot_nn, cw_isnot_tn, bw_add, bw_sub, bw_mul, bw_mod, bw_fdiv, bw_pow, bw_lsh, bw_rsh, bw_and, tob_bool, toi_int, ite_tt, ite_ff, ln1, ln0, gd1, gd0, rev2, rev3, ap0, ap1, not_t, not_f, at_p, at_b, at_g, at_n, isCurve_curve, Nat.reduceAdd, sub_tup, pl0_2, pl1_2, pl0_3, pl1_3, pl2_3, gc1, gc0]))
  refine c_curve n ?_
  exact h
end Mine
set_option maxRecDepth 100000
set_option maxHeartbeats 4000000
set_option linter.unusedSimpArgs false
set_option linter.unusedVariables false
set_option exponentiation.threshold 300
namespace Mine
open PySem PySem.W PyProof.Rows

noncomputable def filt (pts : List (Int × Int)) (x par : Int) : List (Int × Int) := pts.filter fun q => decide (q.1 = x) && decide (q.2 % 2 = par)
structure Pts (p b : Nat) (pts : List (Int × Int)) : Prop where
  p3 : 3 ≤ p
  p100 : p ≤ 100
  b100 : b ≤ 100
  rng : ∀ q ∈ pts, 0 ≤ q.1 ∧ q.1 < p ∧ 0 ≤ q.2 ∧ q.2 < p
  lift : ∀ x : Int, 0 ≤ x → x < p → ∀ par : Int, 0 ≤ par → par < 2 → liftF p b x par = (filt pts x par).head?
  on : ∀ x y, onF p b (some (x, y)) = decide ((x, y) ∈ pts)
  len : pts.length ≤ 200
  pos : 0 < pts.length
structure Tab (p b m : Nat) (pts : List (Int × Int)) (T : Nat → Pt) : Prop where
  p3 : 3 ≤ p
  p100 : p ≤ 100
  podd : p % 2 = 1
  b100 : b ≤ 100
  m3 : 3 ≤ m
  m100 : m ≤ 100
  modd : m % 2 = 1
  zero : T 0 = Option.none
  som : ∀ i, 0 < i → i < m → ∃ x y : Nat, T i = some ((x : Int), (y : Int)) ∧ x < p ∧ y < p
  add : ∀ i, i < m → ∀ j, j < m → addF p (T i) (T j) = T ((i + j) % m)
  dbl : ∀ i, i < m → dblF p (T i) = T (2 * i % m)
  mul : ∀ i, i < m → ∀ k : Nat, k < m → timesF p m k (T i) = T (k * i % m)
  mem : ∀ i, 0 < i → i < m → ∀ q, T i = some q → q ∈ pts
  all : ∀ q ∈ pts, ∃ i, 0 < i ∧ i < m ∧ T i = some q
  pts : Pts p b pts
  uniq : ∀ i, i < m → ∀ j, j < m → ∀ x y z, T i = some (x, y) → T j = some (x, z) → y % 2 = z % 2 → i = j
  neg : ∀ i, 0 < i → i < m → ∀ x y, T i = some (x, y) → T (m - i) = some (x, p - y)
  powm : ∀ k : Nat, k < m → pmod k (m - 2) m = (invF m).getD k 0
  invm : ∀ k : Nat, 0 < k → k < m → (k : Int) * (invF m).getD k 0 % m = 1
theorem bd_int {a : Int} (h : -1000 ≤ a) (h2 : a ≤ 1000) : Bd a := by
  unfold Bd
  have : (2 : Nat) ^ 300 > 1000 := by decide
  omega
namespace Tab
variable {p b m : Nat} {pts : List (Int × Int)} {T : Nat → Pt} (X : Tab p b m pts T)
include X
theorem bp : Bd (p : Int) := bd_int (by omega) (by have := X.p100; omega)
theorem bb : Bd (b : Int) := bd_int (by omega) (by have := X.b100; omega)
theorem bm : Bd (m : Int) := bd_int (by omega) (by have := X.m100; omega)
theorem bdp {i : Nat} (h : i < m) : BdP (T i) := by
  by_cases h0 : i = 0
  · rw [h0, X.zero]; trivial
  · obtain ⟨x, y, e, h1, h2⟩ := X.som i (by omega) h
    have := X.p100
    rw [e]
    exact ⟨bd_int (by omega) (by omega), bd_int (by omega) (by omega)⟩
/-- times, of any number -/
theorem mulI {i : Nat} (hi : i < m) (k : Int) : timesF p m k (T i) = T ((k * i % m).toNat) := by
  have m0 : (0 : Int) < m := by have := X.m3; omega
  have k0 := Int.emod_nonneg k (Int.ne_of_gt m0)
  have k1 := Int.emod_lt_of_pos k m0
  have e1 : timesF p m k (T i) = timesF p m ((k % m).toNat : Nat) (T i) := by
    have e : ((k % (m : Int)).toNat : Int) % (m : Int) = k % m := by rw [Int.toNat_of_nonneg k0, Int.emod_emod]
    cases T i with
    | none => rfl
    | some q => obtain ⟨x, y⟩ := q; unfold timesF; rw [e]
  rw [e1, X.mul i hi _ (by omega)]
  congr 1
  have : (((k % m).toNat * i % m : Nat) : Int) = k * i % m := by
    rw [Int.natCast_emod, Int.natCast_mul, Int.toNat_of_nonneg k0, Int.mul_emod, Int.emod_emod, ← Int.mul_emod]
  omega
end Tab
noncomputable def tb (m : Nat) (T : Nat → Pt) : List AV := (List.range m).map fun i => pt (T i)
theorem tb_len (m : Nat) (T : Nat → Pt) : (tb m T).length = m := by unfold tb; simp
theorem sub_tb {m : Nat} {T : Nat → Pt} {t : Nat} {k : Int} {st : St} {Q : AV → St → Prop} (h : st[t]? = some (tb m T)) (h0 : 0 ≤ k) (h1 : k < m) (hm : m ≤ 100) (hQ : Q (pt (T k.toNat)) st) : subW (.lst t) (.int k) st Q := by
  refine sub_lst h (by rw [tb_len]; exact place_nat h0 h1 (by omega)) (d := pt (T k.toNat)) ?_ hQ
  unfold tb
  rw [List.getElem?_map, List.getElem?_range (by omega)]
  rfl
theorem c_sums (n : Nat) {p b m : Nat} {pts : List (Int × Int)} {T : Nat → Pt} (X : Tab p b m pts T) {w t : Nat} {G : Pt} {st : St} {Q : AV → St → Prop} (W : WellOk w st) (ht : st[t]? = some (tb m T)) (htw : t ≠ w)
    (h : ∀ st', WellOk w st' → Ext w st st' → Q (.bool true) st') : callW (n + 5) 20 [.lst w, .curve p b (pt G) m, .lst t] st Q := by
  have hm3 := X.m3
  have hm100 := X.m100
  have hp3 := X.p3
  have m0 : (0 : Int) < m := by omega
  refine callW_fn (by decide) (by decide) (by decide) rfl ?_
  delta a_law_sums_right b_law_sums_right
  (repeat (first | (with_reducible first | refine ct_none ?_ | refine ct_some ?_ | refine ex_cons ?_ | refine ex_nil ?_ | refine ite_dec ?_ | refine ite_ndec ?_ | refine and_le rfl ?_ | refine and_tr ?_) | dsimp only [fnW, bindNames, bindNest, upd, look, Nat.reduceBEq, cond_true, cond_false, execW, evalW, evalsW, orW, andW, chainW, bt_name, bt_names, bt_swap, bt_nest, cw_eq, cw_ne, cw_lt, cw_le, cw_gt, cw_ge, cw_is_nn, cw_is_tn, cw_isnot_nn, cw_isnot_tn, bw_add, bw_sub, bw_mul, bw_mod, bw_fdiv, bw_pow, bw_lsh, bw_rsh, bw_and, tob_bool, toi_int, ite_tt, ite_ff, ln1, ln0, gd1, gd0, rev2, rev3, ap0, ap1, not_t, not_f, at_p, at_b, at_g, at_n, isCurve_curve, Nat.reduceAdd, sub_tup, pl0_2, pl1_2, pl0_3, pl1_3, pl2_3, gc1, gc0]))
  refine c_len (n + 3) ht (by rw [tb_len]; omega) ?_
  rw [tb_len]
  (repeat (first | (with_reducible first | refine ct_none ?_ | refine ct_some ?_ | refine ex_cons ?_ | refine ex_nil ?_ | refine ite_dec ?_ | refine ite_ndec ?_ | refine and_le rfl ?_ | refine and_tr ?_) | dsimp only [fnW, bindNames, bindNest, upd, look, Nat.reduceBEq, cond_true, cond_false, execW, evalW, evalsW, orW, andW, chainW, bt_name, bt_names, bt_swap, bt_nest, cw_eq, cw_ne, cw_lt, cw_le, cw_gt, cw_ge, cw_is_nn, cw_is_tn, cw_isnot_nn, cw_isnot_tn, bw_add, bw_sub, bw_mul, bw_mod, bw_fdiv, bw_pow, bw_lsh, bw_rsh, bw_and, tob_bool, toi_int, ite_tt, ite_ff, ln1, ln0, gd1, gd0, rev2, rev3, ap0, ap1, not_t, not_f, at_p, at_b, at_g, at_n, isCurve_curve, Nat.reduceAdd, sub_tup, pl0_2, pl1_2, pl0_3, pl1_3, pl2_3, gc1, gc0]))
  refine c_draw (n + 2) W m0 fun one st1 o0 o1 W1 X1 _ => ?_
  (repeat (first | (with_reducible first | refine ct_none ?_ | refine ct_some ?_ | refine ex_cons ?_ | refine ex_nil ?_ | refine ite_dec ?_ | refine ite_ndec ?_ | refine and_le rfl ?_ | refine and_tr ?_) | dsimp only [fnW, bindNames, bindNest, upd, look, Nat.reduceBEq, cond_true, cond_false, execW, evalW, evalsW, orW, andW, chainW, bt_name, bt_names, bt_swap, bt_nest, cw_eq, cw_ne, cw_lt, cw_le, cw_gt, cw_ge, cw_is_nn, cw_is_tn, cw_isnot_nn, cw_isnot_tn, bw_add, bw_sub, bw_mul, bw_mod, bw_fdiv, bw_pow, bw_lsh, bw_rsh, bw_and, tob_bool, toi_int, ite_tt, ite_ff, ln1, ln0, gd1, gd0, rev2, rev3, ap0, ap1, not_t, not_f, at_p, at_b, at_g, at_n, isCurve_curve, Nat.reduceAdd, sub_tup, pl0_2, pl1_2, pl0_3, pl1_3, pl2_3, gc1, gc0]))
  refine c_draw (n + 2) W1 m0 fun other st2 q0 q1 W2 X2 _ => ?_
  (repeat (first | (with_reducible first | refine ct_none ?_ | refine ct_some ?_ | refine ex_cons ?_ | refine ex_nil ?_ | refine ite_dec ?_ | refine ite_ndec ?_ | refine and_le rfl ?_ | refine and_tr ?_) | dsimp only [fnW, bindNames, bindNest, upd, look, Nat.reduceBEq, cond_true, cond_false, execW, evalW, evalsW, orW, andW, chainW, bt_name, bt_names, bt_swap, bt_nest, cw_eq, cw_ne, cw_lt, cw_le, cw_gt, cw_ge, cw_is_nn, cw_is_tn, cw_isnot_nn, cw_isnot_tn, bw_add, bw_sub, bw_mul, bw_mod, bw_fdiv, bw_pow, bw_lsh, bw_rsh, bw_and, tob_bool, toi_int, ite_tt, ite_ff, ln1, ln0, gd1, gd0, rev2, rev3, ap0, ap1, not_t, not_f, at_p, at_b, at_g, at_n, isCurve_curve, Nat.reduceAdd, sub_tup, pl0_2, pl1_2, pl0_3, pl1_3, pl2_3, gc1, gc0]))
  (repeat (first | (with_reducible refine And.intro (by first | with_reducible assumption | (refine Bn.small ?_; (repeat' first | (with_reducible refine Bn.base ?_; with_reducible assumption) | with_reducible refine Bn.mul ?_ ?_ | with_reducible refine Bn.add ?_ ?_ | with_reducible refine Bn.sub ?_ ?_ | with_reducible refine Bn.neg ?_ | (with_reducible refine Bn.mod ?_ (by with_reducible assumption); first | with_reducible assumption | omega) | exact Bn.lit (by decide)); done) | omega) ?_) | (with_reducible first | refine ct_none ?_ | refine ct_some ?_ | refine ex_cons ?_ | refine ex_nil ?_ | refine ite_dec ?_ | refine ite_ndec ?_ | refine and_le rfl ?_ | refine and_tr ?_) | dsimp only [fnW, bindNames, bindNest, upd, look, Nat.reduceBEq, cond_true, cond_false, execW, evalW, evalsW, orW, andW, chainW, bt_name, bt_names, bt_swap, bt_nest, cw_eq, cw_ne, cw_lt, cw_le, cw_gt, cw_ge, cw_is_nn, cw_is_tn, cw_isnot_nn, cw_isnot_tn, bw_add, bw_sub, bw_mul, bw_mod, bw_fdiv, bw_pow, bw_lsh, bw_rsh, bw_and, tob_bool, toi_int, ite_tt, ite_ff, ln1, ln0, gd1, gd0, rev2, rev3, ap0, ap1, not_t, not_f, at_p, at_b, at_g, at_n, isCurve_curve, Nat.reduceAdd, sub_tup, pl0_2, pl1_2, pl0_3, pl1_3, pl2_3, gc1, gc0]))
  refine c_draw (n + 2) (W2.app _) (by decide) fun k st3 k0 k1 W3 X3 _ => ?_
  have g := X3 _ _ (W2.ne (Nat.le_refl _)) (gl st2 _)
  have X03 : Ext w st st3 := ((X1.trans X2).trans (Ext.app w st2 _)).trans X3
  have ht3 := X03 _ _ htw ht
  have key : ∀ o : Int, 0 ≤ o → o < m → (∀ F : AV → St → Prop, F = F → F (.int o) st3 → F (.int o) st3) := fun _ _ _ F _ h => h
  have hcase : k = 0 ∨ k = 1 ∨ k = 2 := by omega
  have go : ∃ o : Int, 0 ≤ o ∧ o < m ∧ ∃ a : Nat, place k 3 = some a ∧ ([AV.int other, .int one, .int ((m - one) % m)] : List AV)[a]? = some (.int o) := by
    rcases hcase with rfl | rfl | rfl
    · exact ⟨other, q0, q1, 0, pl0_3, rfl⟩
    · exact ⟨one, o0, o1, 1, pl1_3, rfl⟩
    · exact ⟨(m - one) % m, Int.emod_nonneg _ (Int.ne_of_gt m0), Int.emod_lt_of_pos _ m0, 2, pl2_3, rfl⟩
  obtain ⟨o, p0, p1, a, ha, hg⟩ := go
  refine sub_lst g ha hg ?_
  (repeat (first | (with_reducible first | refine ct_none ?_ | refine ct_some ?_ | refine ex_cons ?_ | refine ex_nil ?_ | refine ite_dec ?_ | refine ite_ndec ?_ | refine and_le rfl ?_ | refine and_tr ?_) | dsimp only [fnW, bindNames, bindNest, upd, look, Nat.reduceBEq, cond_true, cond_false, execW, evalW, evalsW, orW, andW, chainW, bt_name, bt_names, bt_swap, bt_nest, cw_eq, cw_ne, cw_lt, cw_le, cw_gt, cw_ge, cw_is_nn, cw_is_tn, cw_isnot_nn, cw_isnot_tn, bw_add, bw_sub, bw_mul, bw_mod, bw_fdiv, bw_pow, bw_lsh, bw_rsh, bw_and, tob_bool, toi_int, ite_tt, ite_ff, ln1, ln0, gd1, gd0, rev2, rev3, ap0, ap1, not_t, not_f, at_p, at_b, at_g, at_n, isCurve_curve, Nat.reduceAdd, sub_tup, pl0_2, pl1_2, pl0_3, pl1_3, pl2_3, gc1, gc0]))
  refine sub_tb ht3 o0 o1 hm100 ?_
  (repeat (first | (with_reducible first | refine ct_none ?_ | refine ct_some ?_ | refine ex_cons ?_ | refine ex_nil ?_ | refine ite_dec ?_ | refine ite_ndec ?_ | refine and_le rfl ?_ | refine and_tr ?_) | dsimp only [fnW, bindNames, bindNest, upd, look, Nat.reduceBEq, cond_true, cond_false, execW, evalW, evalsW, orW, andW, chainW, bt_name, bt_names, bt_swap, bt_nest, cw_eq, cw_ne, cw_lt, cw_le, cw_gt, cw_ge, cw_is_nn, cw_is_tn, cw_isnot_nn, cw_isnot_tn, bw_add, bw_sub, bw_mul, bw_mod, bw_fdiv, bw_pow, bw_lsh, bw_rsh, bw_and, tob_bool, toi_int, ite_tt, ite_ff, ln1, ln0, gd1, gd0, rev2, rev3, ap0, ap1, not_t, not_f, at_p, at_b, at_g, at_n, isCurve_curve, Nat.reduceAdd, sub_tup, pl0_2, pl1_2, pl0_3, pl1_3, pl2_3, gc1, gc0]))
  refine sub_tb ht3 p0 p1 hm100 ?_
  (repeat (first | (with_reducible first | refine ct_none ?_ | refine ct_some ?_ | refine ex_cons ?_ | refine ex_nil ?_ | refine ite_dec ?_ | refine ite_ndec ?_ | refine and_le rfl ?_ | refine and_tr ?_) | dsimp only [fnW, bindNames, bindNest, upd, look, Nat.reduceBEq, cond_true, cond_false, execW, evalW, evalsW, orW, andW, chainW, bt_name, bt_names, bt_swap, bt_nest, cw_eq, cw_ne, cw_lt, cw_le, cw_gt, cw_ge, cw_is_nn, cw_is_tn, cw_isnot_nn, cw_isnot_tn, bw_add, bw_sub, bw_mul, bw_mod, bw_fdiv, bw_pow, bw_lsh, bw_rsh, bw_and, tob_bool, toi_int, ite_tt, ite_ff, ln1, ln0, gd1, gd0, rev2, rev3, ap0, ap1, not_t, not_f, at_p, at_b, at_g, at_n, isCurve_curve, Nat.reduceAdd, sub_tup, pl0_2, pl1_2, pl0_3, pl1_3, pl2_3, gc1, gc0]))
  have hone : one.toNat < m := by omega
  have hoth : o.toNat < m := by omega
  refine c_added (n + 1) (by omega) X.bp (X.bdp hone) (X.bdp hoth) ?_
  (repeat (first | (with_reducible first | refine ct_none ?_ | refine ct_some ?_ | refine ex_cons ?_ | refine ex_nil ?_ | refine ite_dec ?_ | refine ite_ndec ?_ | refine and_le rfl ?_ | refine and_tr ?_) | dsimp only [fnW, bindNames, bindNest, upd, look, Nat.reduceBEq, cond_true, cond_false, execW, evalW, evalsW, orW, andW, chainW, bt_name, bt_names, bt_swap, bt_nest, cw_eq, cw_ne, cw_lt, cw_le, cw_gt, cw_ge, cw_is_nn, cw_is_tn, cw_isnot_nn, cw_isnot_tn, bw_add, bw_sub, bw_mul, bw_mod, bw_fdiv, bw_pow, bw_lsh, bw_rsh, bw_and, tob_bool, toi_int, ite_tt, ite_ff, ln1, ln0, gd1, gd0, rev2, rev3, ap0, ap1, not_t, not_f, at_p, at_b, at_g, at_n, isCurve_curve, Nat.reduceAdd, sub_tup, pl0_2, pl1_2, pl0_3, pl1_3, pl2_3, gc1, gc0]))
  refine ⟨m0, ?_⟩
  refine sub_tb ht3 (Int.emod_nonneg _ (Int.ne_of_gt m0)) (Int.emod_lt_of_pos _ m0) hm100 ?_
  have e1 : ((one + o) % m).toNat = (one.toNat + o.toNat) % m := by rw [Int.toNat_emod (by omega) (by omega), show (one + o).toNat = one.toNat + o.toNat by omega, Int.toNat_natCast]
  rw [X.add _ hone _ hoth, e1, cw_ne_pt]
  (repeat (first | (with_reducible first | refine ct_none ?_ | refine ct_some ?_ | refine ex_cons ?_ | refine ex_nil ?_ | refine ite_dec ?_ | refine ite_ndec ?_ | refine and_le rfl ?_ | refine and_tr ?_) | dsimp only [fnW, bindNames, bindNest, upd, look, Nat.reduceBEq, cond_true, cond_false, execW, evalW, evalsW, orW, andW, chainW, bt_name, bt_names, bt_swap, bt_nest, cw_eq, cw_ne, cw_lt, cw_le, cw_gt, cw_ge, cw_is_nn, cw_is_tn, cw_isnot_nn, cw_isnot_tn, bw_add, bw_sub, bw_mul, bw_mod, bw_fdiv, bw_pow, bw_lsh, bw_rsh, bw_and, tob_bool, toi_int, ite_tt, ite_ff, ln1, ln0, gd1, gd0, rev2, rev3, ap0, ap1, not_t, not_f, at_p, at_b, at_g, at_n, isCurve_curve, Nat.reduceAdd, sub_tup, pl0_2, pl1_2, pl0_3, pl1_3, pl2_3, gc1, gc0]))
  refine sub_tb ht3 o0 o1 hm100 ?_
  (repeat (first | (with_reducible first | refine ct_none ?_ | refine ct_some ?_ | refine ex_cons ?_ | refine ex_nil ?_ | refine ite_dec ?_ | refine ite_ndec ?_ | refine and_le rfl ?_ | refine and_tr ?_) | dsimp only [fnW, bindNames, bindNest, upd, look, Nat.reduceBEq, cond_true, cond_false, execW, evalW, evalsW, orW, andW, chainW, bt_name, bt_names, bt_swap, bt_nest, cw_eq, cw_ne, cw_lt, cw_le, cw_gt, cw_ge, cw_is_nn, cw_is_tn, cw_isnot_nn, cw_isnot_tn, bw_add, bw_sub, bw_mul, bw_mod, bw_fdiv, bw_pow, bw_lsh, bw_rsh, bw_and, tob_bool, toi_int, ite_tt, ite_ff, ln1, ln0, gd1, gd0, rev2, rev3, ap0, ap1, not_t, not_f, at_p, at_b, at_g, at_n, isCurve_curve, Nat.reduceAdd, sub_tup, pl0_2, pl1_2, pl0_3, pl1_3, pl2_3, gc1, gc0]))
  refine c_doubled (n + 2) (by omega) X.bp (X.bdp hone) ?_
  have b1 : Bd one := bd_int (by omega) (by omega)
  (repeat (first | (with_reducible first | refine ct_none ?_ | refine ct_some ?_ | refine ex_cons ?_ | refine ex_nil ?_ | refine ite_dec ?_ | refine ite_ndec ?_ | refine and_le rfl ?_ | refine and_tr ?_) | dsimp only [fnW, bindNames, bindNest, upd, look, Nat.reduceBEq, cond_true, cond_false, execW, evalW, evalsW, orW, andW, chainW, bt_name, bt_names, bt_swap, bt_nest, cw_eq, cw_ne, cw_lt, cw_le, cw_gt, cw_ge, cw_is_nn, cw_is_tn, cw_isnot_nn, cw_isnot_tn, bw_add, bw_sub, bw_mul, bw_mod, bw_fdiv, bw_pow, bw_lsh, bw_rsh, bw_and, tob_bool, toi_int, ite_tt, ite_ff, ln1, ln0, gd1, gd0, rev2, rev3, ap0, ap1, not_t, not_f, at_p, at_b, at_g, at_n, isCurve_curve, Nat.reduceAdd, sub_tup, pl0_2, pl1_2, pl0_3, pl1_3, pl2_3, gc1, gc0]))
  (repeat (first | (with_reducible refine And.intro (by first | with_reducible assumption | (refine Bn.small ?_; (repeat' first | (with_reducible refine Bn.base ?_; with_reducible assumption) | with_reducible refine Bn.mul ?_ ?_ | with_reducible refine Bn.add ?_ ?_ | with_reducible refine Bn.sub ?_ ?_ | with_reducible refine Bn.neg ?_ | (with_reducible refine Bn.mod ?_ (by with_reducible assumption); first | with_reducible assumption | omega) | exact Bn.lit (by decide)); done) | omega) ?_) | (with_reducible first | refine ct_none ?_ | refine ct_some ?_ | refine ex_cons ?_ | refine ex_nil ?_ | refine ite_dec ?_ | refine ite_ndec ?_ | refine and_le rfl ?_ | refine and_tr ?_) | dsimp only [fnW, bindNames, bindNest, upd, look, Nat.reduceBEq, cond_true, cond_false, execW, evalW, evalsW, orW, andW, chainW, bt_name, bt_names, bt_swap, bt_nest, cw_eq, cw_ne, cw_lt, cw_le, cw_gt, cw_ge, cw_is_nn, cw_is_tn, cw_isnot_nn, cw_isnot_tn, bw_add, bw_sub, bw_mul, bw_mod, bw_fdiv, bw_pow, bw_lsh, bw_rsh, bw_and, tob_bool, toi_int, ite_tt, ite_ff, ln1, ln0, gd1, gd0, rev2, rev3, ap0, ap1, not_t, not_f, at_p, at_b, at_g, at_n, isCurve_curve, Nat.reduceAdd, sub_tup, pl0_2, pl1_2, pl0_3, pl1_3, pl2_3, gc1, gc0]))
  refine sub_tb ht3 (Int.emod_nonneg _ (Int.ne_of_gt m0)) (Int.emod_lt_of_pos _ m0) hm100 ?_
  have e2 : (2 * one % m).toNat = 2 * one.toNat % m := by rw [Int.toNat_emod (by omega) (by omega), show (2 * one).toNat = 2 * one.toNat by omega, Int.toNat_natCast]
  rw [X.dbl _ hone, e2, cw_ne_pt]
  (repeat (first | (with_reducible first | refine ct_none ?_ | refine ct_some ?_ | refine ex_cons ?_ | refine ex_nil ?_ | refine ite_dec ?_ | refine ite_ndec ?_ | refine and_le rfl ?_ | refine and_tr ?_) | dsimp only [fnW, bindNames, bindNest, upd, look, Nat.reduceBEq, cond_true, cond_false, execW, evalW, evalsW, orW, andW, chainW, bt_name, bt_names, bt_swap, bt_nest, cw_eq, cw_ne, cw_lt, cw_le, cw_gt, cw_ge, cw_is_nn, cw_is_tn, cw_isnot_nn, cw_isnot_tn, bw_add, bw_sub, bw_mul, bw_mod, bw_fdiv, bw_pow, bw_lsh, bw_rsh, bw_and, tob_bool, toi_int, ite_tt, ite_ff, ln1, ln0, gd1, gd0, rev2, rev3, ap0, ap1, not_t, not_f, at_p, at_b, at_g, at_n, isCurve_curve, Nat.reduceAdd, sub_tup, pl0_2, pl1_2, pl0_3, pl1_3, pl2_3, gc1, gc0]))
  refine c_number (n + 1) W3 (by omega) (by omega) fun num st4 bn W4 X4 => ?_
  have ht4 := X4 _ _ htw ht3
  (repeat (first | (with_reducible first | refine ct_none ?_ | refine ct_some ?_ | refine ex_cons ?_ | refine ex_nil ?_ | refine ite_dec ?_ | refine ite_ndec ?_ | refine and_le rfl ?_ | refine and_tr ?_) | dsimp only [fnW, bindNames, bindNest, upd, look, Nat.reduceBEq, cond_true, cond_false, execW, evalW, evalsW, orW, andW, chainW, bt_name, bt_names, bt_swap, bt_nest, cw_eq, cw_ne, cw_lt, cw_le, cw_gt, cw_ge, cw_is_nn, cw_is_tn, cw_isnot_nn, cw_isnot_tn, bw_add, bw_sub, bw_mul, bw_mod, bw_fdiv, bw_pow, bw_lsh, bw_rsh, bw_and, tob_bool, toi_int, ite_tt, ite_ff, ln1, ln0, gd1, gd0, rev2, rev3, ap0, ap1, not_t, not_f, at_p, at_b, at_g, at_n, isCurve_curve, Nat.reduceAdd, sub_tup, pl0_2, pl1_2, pl0_3, pl1_3, pl2_3, gc1, gc0]))
  refine sub_tb ht4 o0 o1 hm100 ?_
  (repeat (first | (with_reducible first | refine ct_none ?_ | refine ct_some ?_ | refine ex_cons ?_ | refine ex_nil ?_ | refine ite_dec ?_ | refine ite_ndec ?_ | refine and_le rfl ?_ | refine and_tr ?_) | dsimp only [fnW, bindNames, bindNest, upd, look, Nat.reduceBEq, cond_true, cond_false, execW, evalW, evalsW, orW, andW, chainW, bt_name, bt_names, bt_swap, bt_nest, cw_eq, cw_ne, cw_lt, cw_le, cw_gt, cw_ge, cw_is_nn, cw_is_tn, cw_isnot_nn, cw_isnot_tn, bw_add, bw_sub, bw_mul, bw_mod, bw_fdiv, bw_pow, bw_lsh, bw_rsh, bw_and, tob_bool, toi_int, ite_tt, ite_ff, ln1, ln0, gd1, gd0, rev2, rev3, ap0, ap1, not_t, not_f, at_p, at_b, at_g, at_n, isCurve_curve, Nat.reduceAdd, sub_tup, pl0_2, pl1_2, pl0_3, pl1_3, pl2_3, gc1, gc0]))
  refine c_times (n + 1) (by omega) X.bp (X.bdp hone) m0 X.bm ?_
  (repeat (first | (with_reducible first | refine ct_none ?_ | refine ct_some ?_ | refine ex_cons ?_ | refine ex_nil ?_ | refine ite_dec ?_ | refine ite_ndec ?_ | refine and_le rfl ?_ | refine and_tr ?_) | dsimp only [fnW, bindNames, bindNest, upd, look, Nat.reduceBEq, cond_true, cond_false, execW, evalW, evalsW, orW, andW, chainW, bt_name, bt_names, bt_swap, bt_nest, cw_eq, cw_ne, cw_lt, cw_le, cw_gt, cw_ge, cw_is_nn, cw_is_tn, cw_isnot_nn, cw_isnot_tn, bw_add, bw_sub, bw_mul, bw_mod, bw_fdiv, bw_pow, bw_lsh, bw_rsh, bw_and, tob_bool, toi_int, ite_tt, ite_ff, ln1, ln0, gd1, gd0, rev2, rev3, ap0, ap1, not_t, not_f, at_p, at_b, at_g, at_n, isCurve_curve, Nat.reduceAdd, sub_tup, pl0_2, pl1_2, pl0_3, pl1_3, pl2_3, gc1, gc0]))
  (repeat (first | (with_reducible refine And.intro (by first | with_reducible assumption | (refine Bn.small ?_; (repeat' first | (with_reducible refine Bn.base ?_; with_reducible assumption) | with_reducible refine Bn.mul ?_ ?_ | with_reducible refine Bn.add ?_ ?_ | with_reducible refine Bn.sub ?_ ?_ | with_reducible refine Bn.neg ?_ | (with_reducible refine Bn.mod ?_ (by with_reducible assumption); first | with_reducible assumption | omega) | exact Bn.lit (by decide)); done) | omega) ?_) | (with_reducible first | refine ct_none ?_ | refine ct_some ?_ | refine ex_cons ?_ | refine ex_nil ?_ | refine ite_dec ?_ | refine ite_ndec ?_ | refine and_le rfl ?_ | refine and_tr ?_) | dsimp only [fnW, bindNames, bindNest, upd, look, Nat.reduceBEq, cond_true, cond_false, execW, evalW, evalsW, orW, andW, chainW, bt_name, bt_names, bt_swap, bt_nest, cw_eq, cw_ne, cw_lt, cw_le, cw_gt, cw_ge, cw_is_nn, cw_is_tn, cw_isnot_nn, cw_isnot_tn, bw_add, bw_sub, bw_mul, bw_mod, bw_fdiv, bw_pow, bw_lsh, bw_rsh, bw_and, tob_bool, toi_int, ite_tt, ite_ff, ln1, ln0, gd1, gd0, rev2, rev3, ap0, ap1, not_t, not_f, at_p, at_b, at_g, at_n, isCurve_curve, Nat.reduceAdd, sub_tup, pl0_2, pl1_2, pl0_3, pl1_3, pl2_3, gc1, gc0]))
  refine sub_tb ht4 (Int.emod_nonneg _ (Int.ne_of_gt m0)) (Int.emod_lt_of_pos _ m0) hm100 ?_
  rw [X.mulI hone, show ((one.toNat : Nat) : Int) = one by omega, cw_eq_pt]
  exact h _ W4 (X03.trans X4)
end Mine
set_option maxRecDepth 100000
set_option maxHeartbeats 4000000
set_option linter.unusedSimpArgs false
set_option linter.unusedVariables false
set_option exponentiation.threshold 300
namespace Mine
open PySem PySem.W PyProof.Rows

noncomputable def ptd (q : Int × Int) : PyData := .tuple [.int q.1, .int q.2]
theorem flat_ptv (q : Int × Int) : flatPD (ptv q) = some (ptd q) := rfl
theorem flats_ptv : ∀ l : List (Int × Int), flatsPD (l.map ptv) = some (l.map ptd)
  | [] => rfl
  | q :: r => by
    rw [List.map_cons, flatsPD, flat_ptv, flats_ptv r]
    rfl
theorem cw_ne_nil {st : St} {k : Bool → Prop} {i j : Nat} {l : List (Int × Int)} (h1 : st[i]? = some (l.map ptv)) (h2 : st[j]? = some []) : cmpW .NotEq (.lst i) (.lst j) st k = k (!l.isEmpty) := by
  have : eqO st (.lst i) (.lst j) = some l.isEmpty := by
    rw [eqO_eq]; unfold eqO0 dataO
    simp only [h1, h2, flats_ptv, Option.map_some]
    cases l with
    | nil => rfl
    | cons q r => rfl
  unfold cmpW cmpO
  rw [this]
  rfl
theorem eqb (a b x y : Int) : (a == x && b == y) = decide ((x, y) = (a, b)) := by
  rw [Bool.eq_iff_iff]
  simp only [Bool.and_eq_true, beq_iff_eq, decide_eq_true_eq, Prod.mk.injEq]
  constructor <;> (rintro ⟨rfl, rfl⟩; exact ⟨rfl, rfl⟩)
theorem cw_in_pts {st : St} {k : Bool → Prop} {i : Nat} {x y : Int} {l : List (Int × Int)} (h1 : st[i]? = some (l.map ptv)) : cmpW .In (.tup [.int x, .int y]) (.lst i) st k = k (decide ((x, y) ∈ l)) := by
  have : inO st (.tup [.int x, .int y]) (.lst i) = some (decide ((x, y) ∈ l)) := by
    unfold inO dataO
    simp only [h1, flats_ptv, Option.map_some, flatPD, intsO, List.map_cons, List.map_nil]
    congr 1
    induction l with
    | nil => rfl
    | cons q r ih =>
      have hi : (List.map ptd (q :: r)).any (fun z => PyData.eqv z (.tuple [.int x, .int y])) = (PyData.eqv (ptd q) (.tuple [.int x, .int y]) || (List.map ptd r).any (fun z => PyData.eqv z (.tuple [.int x, .int y]))) := rfl
      have e1 : PyData.eqv (ptd q) (.tuple [.int x, .int y]) = decide ((x, y) = q) := by
        obtain ⟨a, b⟩ := q
        simp only [ptd, PyData.eqv, PyData.eqvAll, Bool.and_true]
        exact eqb a b x y
      rw [hi, e1]
      have ih' : (List.map ptd r).any (fun z => PyData.eqv z (.tuple [.int x, .int y])) = decide ((x, y) ∈ r) := by
        clear h1 hi e1 ih
        induction r with
        | nil => rfl
        | cons q r ih =>
          have e1 : PyData.eqv (ptd q) (.tuple [.int x, .int y]) = decide ((x, y) = q) := by
            obtain ⟨a, b⟩ := q
            simp only [ptd, PyData.eqv, PyData.eqvAll, Bool.and_true]
            exact eqb a b x y
          rw [List.map_cons, List.any_cons, ih, e1]
          simp
      rw [ih']
      simp
  unfold cmpW cmpO
  rw [this]
theorem sq_lst {i : Nat} {l : List AV} {st : St} {Q : List AV → Option Nat → St → Prop} (h : st[i]? = some l) (k : Q l (some i) st) : seqW (.lst i) st Q := by
  exact lm_l (K := fun l => Q l (some i) st) h k
theorem cw_eq_bool {st : St} {k : Bool → Prop} (a : Bool) : cmpW .Eq (.bool a) (.bool a) st k = k true := by
  cases a <;> rfl
theorem filt_snoc (l : List (Int × Int)) (q : Int × Int) (x par : Int) : filt (l ++ [q]) x par = filt l x par ++ (if q.1 = x ∧ q.2 % 2 = par then [q] else []) := by
  unfold filt
  rw [List.filter_append]
  congr 1
  by_cases h : q.1 = x ∧ q.2 % 2 = par
  · rw [if_pos h]; simp [h.1, h.2]
  · rw [if_neg h]
    simp only [List.filter_cons, List.filter_nil]
    rw [if_neg (by simpa using h)]
theorem take_snoc {α : Type} {l : List α} {i : Nat} {q : α} (h : l[i]? = some q) : l.take (i + 1) = l.take i ++ [q] := by
  rw [List.take_add_one, h]; rfl
theorem Pts.liftAny {p b : Nat} {pts : List (Int × Int)} (X : Pts p b pts) {x par : Int} (h0 : 0 ≤ par) (h1 : par < 2) : liftF p b x par = (filt pts x par).head? := by
  by_cases hx : 0 ≤ x ∧ x < p
  · exact X.lift x hx.1 hx.2 par h0 h1
  · have e : filt pts x par = [] := by
      unfold filt
      rw [List.filter_eq_nil_iff]
      intro q hq
      have := X.rng q hq
      simp only [Bool.and_eq_true, decide_eq_true_eq, not_and]
      rintro rfl
      exact absurd ⟨this.1, this.2.1⟩ hx
    rw [e]
    unfold liftF
    rw [if_pos hx]
    rfl
theorem pt_head (l : List (Int × Int)) : pt l.head? = (match l with | [] => .none | q :: _ => ptv q) := by
  cases l <;> rfl
noncomputable def places_tail : PSs := (.cons (.assignC 7 (.comp1 [26, 54] 28 (.seq (.var 29)) (.cons (.and (.cons (.cmp (.sub (.var 28) (.int 0)) [.Eq] (.cons (.var 54) .nil)) (.cons (.cmp (.bin .Mod (.sub (.var 28) (.int 1)) (.int 2)) [.Eq] (.cons (.var 26) .nil)) .nil))) .nil) (.var 28))) (.cons (.ite (.cmp (.meth 5 (.var 6) (.cons (.var 54) (.cons (.var 26) .nil))) [.NotEq] (.cons (.ite (.cmp (.var 7) [.NotEq] (.cons (.list .nil) .nil)) (.sub (.var 7) (.int 0)) .none) .nil)) (.cons (.ret (.bool false)) .nil) .nil) (.cons (.ret (.and (.cons (.cmp (.meth 1 (.var 6) (.cons (.tup (.cons (.var 54) (.cons (.var 55) .nil))) .nil)) [.Eq] (.cons (.cmp (.tup (.cons (.var 54) (.cons (.var 55) .nil))) [.In] (.cons (.var 29) .nil)) .nil)) (.cons (.meth 1 (.var 6) (.cons .none .nil)) .nil)))) .nil)))
theorem places_end (n : Nat) {p b m : Nat} {pts : List (Int × Int)} (X : Pts p b pts) {w u : Nat} {G : Pt} {st : St} {x y par : Int} {loc : Loc} {Q : Ends} (W : WellOk w st) (hu : st[u]? = some (pts.map ptv)) (huw : u ≠ w)
    (hx : -1 ≤ x ∧ x ≤ 1000) (hy : -1 ≤ y ∧ y ≤ 1000) (p0 : 0 ≤ par) (p1 : par < 2)
    (l6 : look loc 6 = some (.curve p b (pt G) m)) (l29 : look loc 29 = some (.lst u)) (l54 : look loc 54 = some (.int x)) (l55 : look loc 55 = some (.int y)) (l26 : look loc 26 = some (.int par))
    (h : ∀ loc st', WellOk w st' → Ext w st st' → Q (some (.bool true)) loc st') : execsW ⟨callW (n + 4), globV⟩ places_tail loc st Q := by
  have hp3 := X.p3
  have hp100 := X.p100
  have hlen := X.len
  have bp : Bd (p : Int) := bd_int (by omega) (by omega)
  unfold places_tail
  (repeat (first | (with_reducible first | refine ct_none ?_ | refine ct_some ?_ | refine ex_cons ?_ | refine ex_nil ?_ | refine ite_dec ?_ | refine ite_ndec ?_ | refine and_le rfl ?_ | refine and_tr ?_) | dsimp only [fnW, bindNames, bindNest, upd, look, Nat.reduceBEq, cond_true, cond_false, execW, evalW, evalsW, orW, andW, chainW, bt_name, bt_names, bt_swap, bt_nest, cw_eq, cw_ne, cw_lt, cw_le, cw_gt, cw_ge, cw_is_nn, cw_is_tn, cw_isnot_nn, cw_isnot_tn, bw_add, bw_sub, bw_mul, bw_mod, bw_fdiv, bw_pow, bw_lsh, bw_rsh, bw_and, tob_bool, toi_int, ite_tt, ite_ff, ln1, ln0, gd1, gd0, rev2, rev3, ap0, ap1, not_t, not_f, at_p, at_b, at_g, at_n, isCurve_curve, Nat.reduceAdd, sub_tup, pl0_2, pl1_2, pl0_3, pl1_3, pl2_3, gc1, gc0, itW] | (refine' lk_m ?lk ?_; (case lk => (repeat' first | (show look _ _ = _; with_reducible assumption) | exact lk_eq | exact rfl | refine' lk_ne ?_ (by rfl)))) | (refine' lc_m ?cp ?_; (case cp => first | exact cap_cons (by first | with_reducible assumption | exact lk_eq | exact lk_ne (by with_reducible assumption) (by rfl) | rfl) (cap_cons (by first | with_reducible assumption | exact lk_eq | exact lk_ne (by with_reducible assumption) (by rfl) | rfl) (rfl)) | exact cap_cons (by first | with_reducible assumption | exact lk_eq | exact lk_ne (by with_reducible assumption) (by rfl) | rfl) (cap_cons (by first | with_reducible assumption | exact lk_eq | exact lk_ne (by with_reducible assumption) (by rfl) | rfl) (cap_cons (by first | with_reducible assumption | exact lk_eq | exact lk_ne (by with_reducible assumption) (by rfl) | rfl) (rfl)))))))
  refine sq_lst hu ?_
  (repeat (first | (with_reducible first | refine ct_none ?_ | refine ct_some ?_ | refine ex_cons ?_ | refine ex_nil ?_ | refine ite_dec ?_ | refine ite_ndec ?_ | refine and_le rfl ?_ | refine and_tr ?_) | dsimp only [fnW, bindNames, bindNest, upd, look, Nat.reduceBEq, cond_true, cond_false, execW, evalW, evalsW, orW, andW, chainW, bt_name, bt_names, bt_swap, bt_nest, cw_eq, cw_ne, cw_lt, cw_le, cw_gt, cw_ge, cw_is_nn, cw_is_tn, cw_isnot_nn, cw_isnot_tn, bw_add, bw_sub, bw_mul, bw_mod, bw_fdiv, bw_pow, bw_lsh, bw_rsh, bw_and, tob_bool, toi_int, ite_tt, ite_ff, ln1, ln0, gd1, gd0, rev2, rev3, ap0, ap1, not_t, not_f, at_p, at_b, at_g, at_n, isCurve_curve, Nat.reduceAdd, sub_tup, pl0_2, pl1_2, pl0_3, pl1_3, pl2_3, gc1, gc0, itW] | (refine' lk_m ?lk ?_; (case lk => (repeat' first | (show look _ _ = _; with_reducible assumption) | exact lk_eq | exact rfl | refine' lk_ne ?_ (by rfl)))) | (refine' lc_m ?cp ?_; (case cp => first | exact cap_cons (by first | with_reducible assumption | exact lk_eq | exact lk_ne (by with_reducible assumption) (by rfl) | rfl) (cap_cons (by first | with_reducible assumption | exact lk_eq | exact lk_ne (by with_reducible assumption) (by rfl) | rfl) (rfl)) | exact cap_cons (by first | with_reducible assumption | exact lk_eq | exact lk_ne (by with_reducible assumption) (by rfl) | rfl) (cap_cons (by first | with_reducible assumption | exact lk_eq | exact lk_ne (by with_reducible assumption) (by rfl) | rfl) (cap_cons (by first | with_reducible assumption | exact lk_eq | exact lk_ne (by with_reducible assumption) (by rfl) | rfl) (rfl)))))))
  refine loopW_inv (fun i s => s = st ++ [(filt (pts.take i) x par).map ptv]) (by simp [filt]) ?_ ?_
  · rintro i v s K' hv rfl hK
    refine ⟨getElem?_prefix hu, ?_⟩
    obtain ⟨q, hq, rfl⟩ : ∃ q, pts[i]? = some q ∧ ptv q = v := by
      rw [List.getElem?_map] at hv
      exact Option.map_eq_some_iff.mp hv
    have hs := filt_snoc (pts.take i) q x par
    rw [← take_snoc hq] at hs
    have hfl : (filt (pts.take i) x par).length ≤ 200 := by
      refine Nat.le_trans (List.length_filter_le _ _) ?_
      rw [List.length_take]; omega
    have e : ptv q = .tup [.int q.1, .int q.2] := rfl
    (repeat (first | (with_reducible first | refine ct_none ?_ | refine ct_some ?_ | refine ex_cons ?_ | refine ex_nil ?_ | refine ite_dec ?_ | refine ite_ndec ?_ | refine and_le rfl ?_ | refine and_tr ?_) | dsimp only [fnW, bindNames, bindNest, upd, look, Nat.reduceBEq, cond_true, cond_false, execW, evalW, evalsW, orW, andW, chainW, bt_name, bt_names, bt_swap, bt_nest, cw_eq, cw_ne, cw_lt, cw_le, cw_gt, cw_ge, cw_is_nn, cw_is_tn, cw_isnot_nn, cw_isnot_tn, bw_add, bw_sub, bw_mul, bw_mod, bw_fdiv, bw_pow, bw_lsh, bw_rsh, bw_and, tob_bool, toi_int, ite_tt, ite_ff, ln1, ln0, gd1, gd0, rev2, rev3, ap0, ap1, not_t, not_f, at_p, at_b, at_g, at_n, isCurve_curve, Nat.reduceAdd, sub_tup, pl0_2, pl1_2, pl0_3, pl1_3, pl2_3, gc1, gc0, andW', ptv]))
    by_cases c1 : q.1 = x
    · refine br_t (c1) ?_; (repeat (first | (with_reducible first | refine ct_none ?_ | refine ct_some ?_ | refine ex_cons ?_ | refine ex_nil ?_ | refine ite_dec ?_ | refine ite_ndec ?_ | refine and_le rfl ?_ | refine and_tr ?_) | dsimp only [fnW, bindNames, bindNest, upd, look, Nat.reduceBEq, cond_true, cond_false, execW, evalW, evalsW, orW, andW, chainW, bt_name, bt_names, bt_swap, bt_nest, cw_eq, cw_ne, cw_lt, cw_le, cw_gt, cw_ge, cw_is_nn, cw_is_tn, cw_isnot_nn, cw_isnot_tn, bw_add, bw_sub, bw_mul, bw_mod, bw_fdiv, bw_pow, bw_lsh, bw_rsh, bw_and, tob_bool, toi_int, ite_tt, ite_ff, ln1, ln0, gd1, gd0, rev2, rev3, ap0, ap1, not_t, not_f, at_p, at_b, at_g, at_n, isCurve_curve, Nat.reduceAdd, sub_tup, pl0_2, pl1_2, pl0_3, pl1_3, pl2_3, gc1, gc0]))
      (repeat (first | (with_reducible refine And.intro (by first | with_reducible assumption | (refine Bn.small ?_; (repeat' first | (with_reducible refine Bn.base ?_; with_reducible assumption) | with_reducible refine Bn.mul ?_ ?_ | with_reducible refine Bn.add ?_ ?_ | with_reducible refine Bn.sub ?_ ?_ | with_reducible refine Bn.neg ?_ | (with_reducible refine Bn.mod ?_ (by with_reducible assumption); first | with_reducible assumption | omega) | exact Bn.lit (by decide)); done) | omega) ?_) | (with_reducible first | refine ct_none ?_ | refine ct_some ?_ | refine ex_cons ?_ | refine ex_nil ?_ | refine ite_dec ?_ | refine ite_ndec ?_ | refine and_le rfl ?_ | refine and_tr ?_) | dsimp only [fnW, bindNames, bindNest, upd, look, Nat.reduceBEq, cond_true, cond_false, execW, evalW, evalsW, orW, andW, chainW, bt_name, bt_names, bt_swap, bt_nest, cw_eq, cw_ne, cw_lt, cw_le, cw_gt, cw_ge, cw_is_nn, cw_is_tn, cw_isnot_nn, cw_isnot_tn, bw_add, bw_sub, bw_mul, bw_mod, bw_fdiv, bw_pow, bw_lsh, bw_rsh, bw_and, tob_bool, toi_int, ite_tt, ite_ff, ln1, ln0, gd1, gd0, rev2, rev3, ap0, ap1, not_t, not_f, at_p, at_b, at_g, at_n, isCurve_curve, Nat.reduceAdd, sub_tup, pl0_2, pl1_2, pl0_3, pl1_3, pl2_3, gc1, gc0]))
      by_cases c2 : q.2 % 2 = par
      · refine br_t (c2) ?_; (repeat (first | (with_reducible first | refine ct_none ?_ | refine ct_some ?_ | refine ex_cons ?_ | refine ex_nil ?_ | refine ite_dec ?_ | refine ite_ndec ?_ | refine and_le rfl ?_ | refine and_tr ?_) | dsimp only [fnW, bindNames, bindNest, upd, look, Nat.reduceBEq, cond_true, cond_false, execW, evalW, evalsW, orW, andW, chainW, bt_name, bt_names, bt_swap, bt_nest, cw_eq, cw_ne, cw_lt, cw_le, cw_gt, cw_ge, cw_is_nn, cw_is_tn, cw_isnot_nn, cw_isnot_tn, bw_add, bw_sub, bw_mul, bw_mod, bw_fdiv, bw_pow, bw_lsh, bw_rsh, bw_and, tob_bool, toi_int, ite_tt, ite_ff, ln1, ln0, gd1, gd0, rev2, rev3, ap0, ap1, not_t, not_f, at_p, at_b, at_g, at_n, isCurve_curve, Nat.reduceAdd, sub_tup, pl0_2, pl1_2, pl0_3, pl1_3, pl2_3, gc1, gc0]))
        refine ap_lst (gl _ _) (by rw [List.length_map]; omega) (hK _ ?_)
        rw [sl, hs, if_pos ⟨c1, c2⟩, List.map_append]
        rw [← c1]
        rfl
      · refine br_f (c2) ?_; (repeat (first | (with_reducible first | refine ct_none ?_ | refine ct_some ?_ | refine ex_cons ?_ | refine ex_nil ?_ | refine ite_dec ?_ | refine ite_ndec ?_ | refine and_le rfl ?_ | refine and_tr ?_) | dsimp only [fnW, bindNames, bindNest, upd, look, Nat.reduceBEq, cond_true, cond_false, execW, evalW, evalsW, orW, andW, chainW, bt_name, bt_names, bt_swap, bt_nest, cw_eq, cw_ne, cw_lt, cw_le, cw_gt, cw_ge, cw_is_nn, cw_is_tn, cw_isnot_nn, cw_isnot_tn, bw_add, bw_sub, bw_mul, bw_mod, bw_fdiv, bw_pow, bw_lsh, bw_rsh, bw_and, tob_bool, toi_int, ite_tt, ite_ff, ln1, ln0, gd1, gd0, rev2, rev3, ap0, ap1, not_t, not_f, at_p, at_b, at_g, at_n, isCurve_curve, Nat.reduceAdd, sub_tup, pl0_2, pl1_2, pl0_3, pl1_3, pl2_3, gc1, gc0]))
        refine hK _ ?_
        rw [hs, if_neg (fun z => c2 z.2), List.append_nil]
    · refine br_f (c1) ?_; (repeat (first | (with_reducible first | refine ct_none ?_ | refine ct_some ?_ | refine ex_cons ?_ | refine ex_nil ?_ | refine ite_dec ?_ | refine ite_ndec ?_ | refine and_le rfl ?_ | refine and_tr ?_) | dsimp only [fnW, bindNames, bindNest, upd, look, Nat.reduceBEq, cond_true, cond_false, execW, evalW, evalsW, orW, andW, chainW, bt_name, bt_names, bt_swap, bt_nest, cw_eq, cw_ne, cw_lt, cw_le, cw_gt, cw_ge, cw_is_nn, cw_is_tn, cw_isnot_nn, cw_isnot_tn, bw_add, bw_sub, bw_mul, bw_mod, bw_fdiv, bw_pow, bw_lsh, bw_rsh, bw_and, tob_bool, toi_int, ite_tt, ite_ff, ln1, ln0, gd1, gd0, rev2, rev3, ap0, ap1, not_t, not_f, at_p, at_b, at_g, at_n, isCurve_curve, Nat.reduceAdd, sub_tup, pl0_2, pl1_2, pl0_3, pl1_3, pl2_3, gc1, gc0]))
      refine hK _ ?_
      rw [hs, if_neg (fun z => c1 z.1), List.append_nil]
  · rintro s rfl
    rw [List.length_map, List.take_length]
    have gu := fun (l : List AV) => getElem?_prefix (r := [l]) hu
    refine ⟨gu _, ?_⟩
    (repeat (first | (with_reducible first | refine ct_none ?_ | refine ct_some ?_ | refine ex_cons ?_ | refine ex_nil ?_ | refine ite_dec ?_ | refine ite_ndec ?_ | refine and_le rfl ?_ | refine and_tr ?_) | dsimp only [fnW, bindNames, bindNest, upd, look, Nat.reduceBEq, cond_true, cond_false, execW, evalW, evalsW, orW, andW, chainW, bt_name, bt_names, bt_swap, bt_nest, cw_eq, cw_ne, cw_lt, cw_le, cw_gt, cw_ge, cw_is_nn, cw_is_tn, cw_isnot_nn, cw_isnot_tn, bw_add, bw_sub, bw_mul, bw_mod, bw_fdiv, bw_pow, bw_lsh, bw_rsh, bw_and, tob_bool, toi_int, ite_tt, ite_ff, ln1, ln0, gd1, gd0, rev2, rev3, ap0, ap1, not_t, not_f, at_p, at_b, at_g, at_n, isCurve_curve, Nat.reduceAdd, sub_tup, pl0_2, pl1_2, pl0_3, pl1_3, pl2_3, gc1, gc0, itW] | (refine' lk_m ?lk ?_; (case lk => (repeat' first | (show look _ _ = _; with_reducible assumption) | exact lk_eq | exact rfl | refine' lk_ne ?_ (by rfl)))) | (refine' lc_m ?cp ?_; (case cp => first | exact cap_cons (by first | with_reducible assumption | exact lk_eq | exact lk_ne (by with_reducible assumption) (by rfl) | rfl) (cap_cons (by first | with_reducible assumption | exact lk_eq | exact lk_ne (by with_reducible assumption) (by rfl) | rfl) (rfl)) | exact cap_cons (by first | with_reducible assumption | exact lk_eq | exact lk_ne (by with_reducible assumption) (by rfl) | rfl) (cap_cons (by first | with_reducible assumption | exact lk_eq | exact lk_ne (by with_reducible assumption) (by rfl) | rfl) (cap_cons (by first | with_reducible assumption | exact lk_eq | exact lk_ne (by with_reducible assumption) (by rfl) | rfl) (rfl)))))))
    refine c_lifted (n + 2) (by omega) bp (bd_int (by omega) (by omega)) ?_
    (repeat (first | (with_reducible first | refine ct_none ?_ | refine ct_some ?_ | refine ex_cons ?_ | refine ex_nil ?_ | refine ite_dec ?_ | refine ite_ndec ?_ | refine and_le rfl ?_ | refine and_tr ?_) | dsimp only [fnW, bindNames, bindNest, upd, look, Nat.reduceBEq, cond_true, cond_false, execW, evalW, evalsW, orW, andW, chainW, bt_name, bt_names, bt_swap, bt_nest, cw_eq, cw_ne, cw_lt, cw_le, cw_gt, cw_ge, cw_is_nn, cw_is_tn, cw_isnot_nn, cw_isnot_tn, bw_add, bw_sub, bw_mul, bw_mod, bw_fdiv, bw_pow, bw_lsh, bw_rsh, bw_and, tob_bool, toi_int, ite_tt, ite_ff, ln1, ln0, gd1, gd0, rev2, rev3, ap0, ap1, not_t, not_f, at_p, at_b, at_g, at_n, isCurve_curve, Nat.reduceAdd, sub_tup, pl0_2, pl1_2, pl0_3, pl1_3, pl2_3, gc1, gc0, itW] | (refine' lk_m ?lk ?_; (case lk => (repeat' first | (show look _ _ = _; with_reducible assumption) | exact lk_eq | exact rfl | refine' lk_ne ?_ (by rfl)))) | (refine' lc_m ?cp ?_; (case cp => first | exact cap_cons (by first | with_reducible assumption | exact lk_eq | exact lk_ne (by with_reducible assumption) (by rfl) | rfl) (cap_cons (by first | with_reducible assumption | exact lk_eq | exact lk_ne (by with_reducible assumption) (by rfl) | rfl) (rfl)) | exact cap_cons (by first | with_reducible assumption | exact lk_eq | exact lk_ne (by with_reducible assumption) (by rfl) | rfl) (cap_cons (by first | with_reducible assumption | exact lk_eq | exact lk_ne (by with_reducible assumption) (by rfl) | rfl) (cap_cons (by first | with_reducible assumption | exact lk_eq | exact lk_ne (by with_reducible assumption) (by rfl) | rfl) (rfl)))))))
    (repeat (first | (with_reducible refine And.intro (by first | with_reducible assumption | (refine Bn.small ?_; (repeat' first | (with_reducible refine Bn.base ?_; with_reducible assumption) | with_reducible refine Bn.mul ?_ ?_ | with_reducible refine Bn.add ?_ ?_ | with_reducible refine Bn.sub ?_ ?_ | with_reducible refine Bn.neg ?_ | (with_reducible refine Bn.mod ?_ (by with_reducible assumption); first | with_reducible assumption | omega) | exact Bn.lit (by decide)); done) | omega) ?_) | (with_reducible first | refine ct_none ?_ | refine ct_some ?_ | refine ex_cons ?_ | refine ex_nil ?_ | refine ite_dec ?_ | refine ite_ndec ?_ | refine and_le rfl ?_ | refine and_tr ?_) | dsimp only [fnW, bindNames, bindNest, upd, look, Nat.reduceBEq, cond_true, cond_false, execW, evalW, evalsW, orW, andW, chainW, bt_name, bt_names, bt_swap, bt_nest, cw_eq, cw_ne, cw_lt, cw_le, cw_gt, cw_ge, cw_is_nn, cw_is_tn, cw_isnot_nn, cw_isnot_tn, bw_add, bw_sub, bw_mul, bw_mod, bw_fdiv, bw_pow, bw_lsh, bw_rsh, bw_and, tob_bool, toi_int, ite_tt, ite_ff, ln1, ln0, gd1, gd0, rev2, rev3, ap0, ap1, not_t, not_f, at_p, at_b, at_g, at_n, isCurve_curve, Nat.reduceAdd, sub_tup, pl0_2, pl1_2, pl0_3, pl1_3, pl2_3, gc1, gc0]))
    have g1 : ((st ++ [(filt pts x par).map ptv]) ++ [[]])[st.length]? = some ((filt pts x par).map ptv) := getElem?_prefix (gl _ _)
    have g2 : ((st ++ [(filt pts x par).map ptv]) ++ [[]])[(st ++ [(filt pts x par).map ptv]).length]? = some [] := gl _ _
    have gu2 : ((st ++ [(filt pts x par).map ptv]) ++ [[]])[u]? = some (pts.map ptv) := getElem?_prefix (gu _)
    rw [cw_ne_nil g1 g2, X.liftAny p0 p1]
    have W2 := (W.app [(filt pts x par).map ptv]).app [[]]
    have X2 : Ext w st ((st ++ [(filt pts x par).map ptv]) ++ [[]]) := (Ext.app w st _).trans (Ext.app w _ _)
    cases hf : filt pts x par with
    | nil =>
      rw [hf] at W2 X2 g1 gu2
      dsimp only [List.isEmpty_nil, not_t, ite_ff, List.head?_nil]
      (repeat (first | (with_reducible first | refine ct_none ?_ | refine ct_some ?_ | refine ex_cons ?_ | refine ex_nil ?_ | refine ite_dec ?_ | refine ite_ndec ?_ | refine and_le rfl ?_ | refine and_tr ?_) | dsimp only [fnW, bindNames, bindNest, upd, look, Nat.reduceBEq, cond_true, cond_false, execW, evalW, evalsW, orW, andW, chainW, bt_name, bt_names, bt_swap, bt_nest, cw_eq, cw_ne, cw_lt, cw_le, cw_gt, cw_ge, cw_is_nn, cw_is_tn, cw_isnot_nn, cw_isnot_tn, bw_add, bw_sub, bw_mul, bw_mod, bw_fdiv, bw_pow, bw_lsh, bw_rsh, bw_and, tob_bool, toi_int, ite_tt, ite_ff, ln1, ln0, gd1, gd0, rev2, rev3, ap0, ap1, not_t, not_f, at_p, at_b, at_g, at_n, isCurve_curve, Nat.reduceAdd, sub_tup, pl0_2, pl1_2, pl0_3, pl1_3, pl2_3, gc1, gc0] | (refine' lk_m ?lk ?_; (case lk => (repeat' first | (show look _ _ = _; with_reducible assumption) | exact lk_eq | exact rfl | refine' lk_ne ?_ (by rfl))))))
      refine c_is_on (n + 3) (P := some (x, y)) (by omega) ⟨bd_int (by omega) (by omega), bd_int (by omega) (by omega)⟩ ?_
      (repeat (first | (with_reducible first | refine ct_none ?_ | refine ct_some ?_ | refine ex_cons ?_ | refine ex_nil ?_ | refine ite_dec ?_ | refine ite_ndec ?_ | refine and_le rfl ?_ | refine and_tr ?_) | dsimp only [fnW, bindNames, bindNest, upd, look, Nat.reduceBEq, cond_true, cond_false, execW, evalW, evalsW, orW, andW, chainW, bt_name, bt_names, bt_swap, bt_nest, cw_eq, cw_ne, cw_lt, cw_le, cw_gt, cw_ge, cw_is_nn, cw_is_tn, cw_isnot_nn, cw_isnot_tn, bw_add, bw_sub, bw_mul, bw_mod, bw_fdiv, bw_pow, bw_lsh, bw_rsh, bw_and, tob_bool, toi_int, ite_tt, ite_ff, ln1, ln0, gd1, gd0, rev2, rev3, ap0, ap1, not_t, not_f, at_p, at_b, at_g, at_n, isCurve_curve, Nat.reduceAdd, sub_tup, pl0_2, pl1_2, pl0_3, pl1_3, pl2_3, gc1, gc0] | (refine' lk_m ?lk ?_; (case lk => (repeat' first | (show look _ _ = _; with_reducible assumption) | exact lk_eq | exact rfl | refine' lk_ne ?_ (by rfl))))))
      rw [X.on, cw_in_pts gu2, cw_eq_bool]
      (repeat (first | (with_reducible first | refine ct_none ?_ | refine ct_some ?_ | refine ex_cons ?_ | refine ex_nil ?_ | refine ite_dec ?_ | refine ite_ndec ?_ | refine and_le rfl ?_ | refine and_tr ?_) | dsimp only [fnW, bindNames, bindNest, upd, look, Nat.reduceBEq, cond_true, cond_false, execW, evalW, evalsW, orW, andW, chainW, bt_name, bt_names, bt_swap, bt_nest, cw_eq, cw_ne, cw_lt, cw_le, cw_gt, cw_ge, cw_is_nn, cw_is_tn, cw_isnot_nn, cw_isnot_tn, bw_add, bw_sub, bw_mul, bw_mod, bw_fdiv, bw_pow, bw_lsh, bw_rsh, bw_and, tob_bool, toi_int, ite_tt, ite_ff, ln1, ln0, gd1, gd0, rev2, rev3, ap0, ap1, not_t, not_f, at_p, at_b, at_g, at_n, isCurve_curve, Nat.reduceAdd, sub_tup, pl0_2, pl1_2, pl0_3, pl1_3, pl2_3, gc1, gc0] | (refine' lk_m ?lk ?_; (case lk => (repeat' first | (show look _ _ = _; with_reducible assumption) | exact lk_eq | exact rfl | refine' lk_ne ?_ (by rfl))))))
      refine c_is_on (n + 3) (P := Option.none) (by omega) trivial ?_
      (repeat (first | (with_reducible first | refine ct_none ?_ | refine ct_some ?_ | refine ex_cons ?_ | refine ex_nil ?_ | refine ite_dec ?_ | refine ite_ndec ?_ | refine and_le rfl ?_ | refine and_tr ?_) | dsimp only [fnW, bindNames, bindNest, upd, look, Nat.reduceBEq, cond_true, cond_false, execW, evalW, evalsW, orW, andW, chainW, bt_name, bt_names, bt_swap, bt_nest, cw_eq, cw_ne, cw_lt, cw_le, cw_gt, cw_ge, cw_is_nn, cw_is_tn, cw_isnot_nn, cw_isnot_tn, bw_add, bw_sub, bw_mul, bw_mod, bw_fdiv, bw_pow, bw_lsh, bw_rsh, bw_and, tob_bool, toi_int, ite_tt, ite_ff, ln1, ln0, gd1, gd0, rev2, rev3, ap0, ap1, not_t, not_f, at_p, at_b, at_g, at_n, isCurve_curve, Nat.reduceAdd, sub_tup, pl0_2, pl1_2, pl0_3, pl1_3, pl2_3, gc1, gc0] | (refine' lk_m ?lk ?_; (case lk => (repeat' first | (show look _ _ = _; with_reducible assumption) | exact lk_eq | exact rfl | refine' lk_ne ?_ (by rfl))))))
      exact h _ _ W2 X2
    | cons q r =>
      rw [hf] at W2 X2 g1 gu2
      dsimp only [List.isEmpty_cons, not_f, ite_tt, List.head?_cons]
      (repeat (first | (with_reducible first | refine ct_none ?_ | refine ct_some ?_ | refine ex_cons ?_ | refine ex_nil ?_ | refine ite_dec ?_ | refine ite_ndec ?_ | refine and_le rfl ?_ | refine and_tr ?_) | dsimp only [fnW, bindNames, bindNest, upd, look, Nat.reduceBEq, cond_true, cond_false, execW, evalW, evalsW, orW, andW, chainW, bt_name, bt_names, bt_swap, bt_nest, cw_eq, cw_ne, cw_lt, cw_le, cw_gt, cw_ge, cw_is_nn, cw_is_tn, cw_isnot_nn, cw_isnot_tn, bw_add, bw_sub, bw_mul, bw_mod, bw_fdiv, bw_pow, bw_lsh, bw_rsh, bw_and, tob_bool, toi_int, ite_tt, ite_ff, ln1, ln0, gd1, gd0, rev2, rev3, ap0, ap1, not_t, not_f, at_p, at_b, at_g, at_n, isCurve_curve, Nat.reduceAdd, sub_tup, pl0_2, pl1_2, pl0_3, pl1_3, pl2_3, gc1, gc0] | (refine' lk_m ?lk ?_; (case lk => (repeat' first | (show look _ _ = _; with_reducible assumption) | exact lk_eq | exact rfl | refine' lk_ne ?_ (by rfl))))))
      have h9 : (q :: r).length ≤ 200 := hf ▸ Nat.le_trans (List.length_filter_le _ _) hlen
      refine sub_lst g1 (place_nat (by decide) (by rw [List.length_map, List.length_cons]; omega) (by rw [List.length_map]; omega)) rfl ?_
      rw [show ptv q = pt (some q) from rfl, cw_ne_pt]
      (repeat (first | (with_reducible first | refine ct_none ?_ | refine ct_some ?_ | refine ex_cons ?_ | refine ex_nil ?_ | refine ite_dec ?_ | refine ite_ndec ?_ | refine and_le rfl ?_ | refine and_tr ?_) | dsimp only [fnW, bindNames, bindNest, upd, look, Nat.reduceBEq, cond_true, cond_false, execW, evalW, evalsW, orW, andW, chainW, bt_name, bt_names, bt_swap, bt_nest, cw_eq, cw_ne, cw_lt, cw_le, cw_gt, cw_ge, cw_is_nn, cw_is_tn, cw_isnot_nn, cw_isnot_tn, bw_add, bw_sub, bw_mul, bw_mod, bw_fdiv, bw_pow, bw_lsh, bw_rsh, bw_and, tob_bool, toi_int, ite_tt, ite_ff, ln1, ln0, gd1, gd0, rev2, rev3, ap0, ap1, not_t, not_f, at_p, at_b, at_g, at_n, isCurve_curve, Nat.reduceAdd, sub_tup, pl0_2, pl1_2, pl0_3, pl1_3, pl2_3, gc1, gc0] | (refine' lk_m ?lk ?_; (case lk => (repeat' first | (show look _ _ = _; with_reducible assumption) | exact lk_eq | exact rfl | refine' lk_ne ?_ (by rfl))))))
      refine c_is_on (n + 3) (P := some (x, y)) (by omega) ⟨bd_int (by omega) (by omega), bd_int (by omega) (by omega)⟩ ?_
      (repeat (first | (with_reducible first | refine ct_none ?_ | refine ct_some ?_ | refine ex_cons ?_ | refine ex_nil ?_ | refine ite_dec ?_ | refine ite_ndec ?_ | refine and_le rfl ?_ | refine and_tr ?_) | dsimp only [fnW, bindNames, bindNest, upd, look, Nat.reduceBEq, cond_true, cond_false, execW, evalW, evalsW, orW, andW, chainW, bt_name, bt_names, bt_swap, bt_nest, cw_eq, cw_ne, cw_lt, cw_le, cw_gt, cw_ge, cw_is_nn, cw_is_tn, cw_isnot_nn, cw_isnot_tn, bw_add, bw_sub, bw_mul, bw_mod, bw_fdiv, bw_pow, bw_lsh, bw_rsh, bw_and, tob_bool, toi_int, ite_tt, ite_ff, ln1, ln0, gd1, gd0, rev2, rev3, ap0, ap1, not_t, not_f, at_p, at_b, at_g, at_n, isCurve_curve, Nat.reduceAdd, sub_tup, pl0_2, pl1_2, pl0_3, pl1_3, pl2_3, gc1, gc0] | (refine' lk_m ?lk ?_; (case lk => (repeat' first | (show look _ _ = _; with_reducible assumption) | exact lk_eq | exact rfl | refine' lk_ne ?_ (by rfl))))))
      rw [X.on, cw_in_pts gu2, cw_eq_bool]
      (repeat (first | (with_reducible first | refine ct_none ?_ | refine ct_some ?_ | refine ex_cons ?_ | refine ex_nil ?_ | refine ite_dec ?_ | refine ite_ndec ?_ | refine and_le rfl ?_ | refine and_tr ?_) | dsimp only [fnW, bindNames, bindNest, upd, look, Nat.reduceBEq, cond_true, cond_false, execW, evalW, evalsW, orW, andW, chainW, bt_name, bt_names, bt_swap, bt_nest, cw_eq, cw_ne, cw_lt, cw_le, cw_gt, cw_ge, cw_is_nn, cw_is_tn, cw_isnot_nn, cw_isnot_tn, bw_add, bw_sub, bw_mul, bw_mod, bw_fdiv, bw_pow, bw_lsh, bw_rsh, bw_and, tob_bool, toi_int, ite_tt, ite_ff, ln1, ln0, gd1, gd0, rev2, rev3, ap0, ap1, not_t, not_f, at_p, at_b, at_g, at_n, isCurve_curve, Nat.reduceAdd, sub_tup, pl0_2, pl1_2, pl0_3, pl1_3, pl2_3, gc1, gc0] | (refine' lk_m ?lk ?_; (case lk => (repeat' first | (show look _ _ = _; with_reducible assumption) | exact lk_eq | exact rfl | refine' lk_ne ?_ (by rfl))))))
      refine c_is_on (n + 3) (P := Option.none) (by omega) trivial ?_
      (repeat (first | (with_reducible first | refine ct_none ?_ | refine ct_some ?_ | refine ex_cons ?_ | refine ex_nil ?_ | refine ite_dec ?_ | refine ite_ndec ?_ | refine and_le rfl ?_ | refine and_tr ?_) | dsimp only [fnW, bindNames, bindNest, upd, look, Nat.reduceBEq, cond_true, cond_false, execW, evalW, evalsW, orW, andW, chainW, bt_name, bt_names, bt_swap, bt_nest, cw_eq, cw_ne, cw_lt, cw_le, cw_gt, cw_ge, cw_is_nn, cw_is_tn, cw_isnot_nn, cw_isnot_tn, bw_add, bw_sub, bw_mul, bw_mod, bw_fdiv, bw_pow, bw_lsh, bw_rsh, bw_and, tob_bool, toi_int, ite_tt, ite_ff, ln1, ln0, gd1, gd0, rev2, rev3, ap0, ap1, not_t, not_f, at_p, at_b, at_g, at_n, isCurve_curve, Nat.reduceAdd, sub_tup, pl0_2, pl1_2, pl0_3, pl1_3, pl2_3, gc1, gc0] | (refine' lk_m ?lk ?_; (case lk => (repeat' first | (show look _ _ = _; with_reducible assumption) | exact lk_eq | exact rfl | refine' lk_ne ?_ (by rfl))))))
      exact h _ _ W2 X2
theorem c_places (n : Nat) {p b m : Nat} {pts : List (Int × Int)} (X : Pts p b pts) {w u : Nat} {G : Pt} {st : St} {Q : AV → St → Prop} (W : WellOk w st) (hu : st[u]? = some (pts.map ptv)) (huw : u ≠ w)
    (h : ∀ st', WellOk w st' → Ext w st st' → Q (.bool true) st') : callW (n + 5) 21 [.lst w, .curve p b (pt G) m, .lst u] st Q := by
  have hp3 := X.p3
  have hp100 := X.p100
  have bp : Bd (p : Int) := bd_int (by omega) (by omega)
  refine callW_fn (by decide) (by decide) (by decide) rfl ?_
  delta a_law_places_right b_law_places_right
  show fnW _ _ (.cons _ (.cons _ places_tail)) _ _ _
  (repeat (first | (with_reducible first | refine ct_none ?_ | refine ct_some ?_ | refine ex_cons ?_ | refine ex_nil ?_ | refine ite_dec ?_ | refine ite_ndec ?_ | refine and_le rfl ?_ | refine and_tr ?_) | dsimp only [fnW, bindNames, bindNest, upd, look, Nat.reduceBEq, cond_true, cond_false, execW, evalW, evalsW, orW, andW, chainW, bt_name, bt_names, bt_swap, bt_nest, cw_eq, cw_ne, cw_lt, cw_le, cw_gt, cw_ge, cw_is_nn, cw_is_tn, cw_isnot_nn, cw_isnot_tn, bw_add, bw_sub, bw_mul, bw_mod, bw_fdiv, bw_pow, bw_lsh, bw_rsh, bw_and, tob_bool, toi_int, ite_tt, ite_ff, ln1, ln0, gd1, gd0, rev2, rev3, ap0, ap1, not_t, not_f, at_p, at_b, at_g, at_n, isCurve_curve, Nat.reduceAdd, sub_tup, pl0_2, pl1_2, pl0_3, pl1_3, pl2_3, gc1, gc0]))
  refine c_draw (n + 2) W (by omega) fun x0 st1 x00 x01 W1 X1 _ => ?_
  (repeat (first | (with_reducible first | refine ct_none ?_ | refine ct_some ?_ | refine ex_cons ?_ | refine ex_nil ?_ | refine ite_dec ?_ | refine ite_ndec ?_ | refine and_le rfl ?_ | refine and_tr ?_) | dsimp only [fnW, bindNames, bindNest, upd, look, Nat.reduceBEq, cond_true, cond_false, execW, evalW, evalsW, orW, andW, chainW, bt_name, bt_names, bt_swap, bt_nest, cw_eq, cw_ne, cw_lt, cw_le, cw_gt, cw_ge, cw_is_nn, cw_is_tn, cw_isnot_nn, cw_isnot_tn, bw_add, bw_sub, bw_mul, bw_mod, bw_fdiv, bw_pow, bw_lsh, bw_rsh, bw_and, tob_bool, toi_int, ite_tt, ite_ff, ln1, ln0, gd1, gd0, rev2, rev3, ap0, ap1, not_t, not_f, at_p, at_b, at_g, at_n, isCurve_curve, Nat.reduceAdd, sub_tup, pl0_2, pl1_2, pl0_3, pl1_3, pl2_3, gc1, gc0]))
  refine c_draw (n + 2) W1 (by omega) fun y0 st2 y00 y01 W2 X2 _ => ?_
  (repeat (first | (with_reducible first | refine ct_none ?_ | refine ct_some ?_ | refine ex_cons ?_ | refine ex_nil ?_ | refine ite_dec ?_ | refine ite_ndec ?_ | refine and_le rfl ?_ | refine and_tr ?_) | dsimp only [fnW, bindNames, bindNest, upd, look, Nat.reduceBEq, cond_true, cond_false, execW, evalW, evalsW, orW, andW, chainW, bt_name, bt_names, bt_swap, bt_nest, cw_eq, cw_ne, cw_lt, cw_le, cw_gt, cw_ge, cw_is_nn, cw_is_tn, cw_isnot_nn, cw_isnot_tn, bw_add, bw_sub, bw_mul, bw_mod, bw_fdiv, bw_pow, bw_lsh, bw_rsh, bw_and, tob_bool, toi_int, ite_tt, ite_ff, ln1, ln0, gd1, gd0, rev2, rev3, ap0, ap1, not_t, not_f, at_p, at_b, at_g, at_n, isCurve_curve, Nat.reduceAdd, sub_tup, pl0_2, pl1_2, pl0_3, pl1_3, pl2_3, gc1, gc0]))
  refine c_draw (n + 2) W2 (by decide) fun par st3 p0 p1 W3 X3 _ => ?_
  (repeat (first | (with_reducible first | refine ct_none ?_ | refine ct_some ?_ | refine ex_cons ?_ | refine ex_nil ?_ | refine ite_dec ?_ | refine ite_ndec ?_ | refine and_le rfl ?_ | refine and_tr ?_) | dsimp only [fnW, bindNames, bindNest, upd, look, Nat.reduceBEq, cond_true, cond_false, execW, evalW, evalsW, orW, andW, chainW, bt_name, bt_names, bt_swap, bt_nest, cw_eq, cw_ne, cw_lt, cw_le, cw_gt, cw_ge, cw_is_nn, cw_is_tn, cw_isnot_nn, cw_isnot_tn, bw_add, bw_sub, bw_mul, bw_mod, bw_fdiv, bw_pow, bw_lsh, bw_rsh, bw_and, tob_bool, toi_int, ite_tt, ite_ff, ln1, ln0, gd1, gd0, rev2, rev3, ap0, ap1, not_t, not_f, at_p, at_b, at_g, at_n, isCurve_curve, Nat.reduceAdd, sub_tup, pl0_2, pl1_2, pl0_3, pl1_3, pl2_3, gc1, gc0]))
  refine c_draw (n + 2) W3 (by decide) fun flag st4 f0 f1 W4 X4 _ => ?_
  have X04 := ((X1.trans X2).trans X3).trans X4
  have hu4 := X04 _ _ huw hu
  have hlen := X.len
  have hpos := X.pos
  (repeat (first | (with_reducible first | refine ct_none ?_ | refine ct_some ?_ | refine ex_cons ?_ | refine ex_nil ?_ | refine ite_dec ?_ | refine ite_ndec ?_ | refine and_le rfl ?_ | refine and_tr ?_) | dsimp only [fnW, bindNames, bindNest, upd, look, Nat.reduceBEq, cond_true, cond_false, execW, evalW, evalsW, orW, andW, chainW, bt_name, bt_names, bt_swap, bt_nest, cw_eq, cw_ne, cw_lt, cw_le, cw_gt, cw_ge, cw_is_nn, cw_is_tn, cw_isnot_nn, cw_isnot_tn, bw_add, bw_sub, bw_mul, bw_mod, bw_fdiv, bw_pow, bw_lsh, bw_rsh, bw_and, tob_bool, toi_int, ite_tt, ite_ff, ln1, ln0, gd1, gd0, rev2, rev3, ap0, ap1, not_t, not_f, at_p, at_b, at_g, at_n, isCurve_curve, Nat.reduceAdd, sub_tup, pl0_2, pl1_2, pl0_3, pl1_3, pl2_3, gc1, gc0]))
  by_cases hfl : flag = 1
  · refine br_t (hfl) ?_; (repeat (first | (with_reducible first | refine ct_none ?_ | refine ct_some ?_ | refine ex_cons ?_ | refine ex_nil ?_ | refine ite_dec ?_ | refine ite_ndec ?_ | refine and_le rfl ?_ | refine and_tr ?_) | dsimp only [fnW, bindNames, bindNest, upd, look, Nat.reduceBEq, cond_true, cond_false, execW, evalW, evalsW, orW, andW, chainW, bt_name, bt_names, bt_swap, bt_nest, cw_eq, cw_ne, cw_lt, cw_le, cw_gt, cw_ge, cw_is_nn, cw_is_tn, cw_isnot_nn, cw_isnot_tn, bw_add, bw_sub, bw_mul, bw_mod, bw_fdiv, bw_pow, bw_lsh, bw_rsh, bw_and, tob_bool, toi_int, ite_tt, ite_ff, ln1, ln0, gd1, gd0, rev2, rev3, ap0, ap1, not_t, not_f, at_p, at_b, at_g, at_n, isCurve_curve, Nat.reduceAdd, sub_tup, pl0_2, pl1_2, pl0_3, pl1_3, pl2_3, gc1, gc0]))
    refine c_len (n + 3) hu4 (by rw [List.length_map]; omega) ?_
    rw [List.length_map]
    (repeat (first | (with_reducible first | refine ct_none ?_ | refine ct_some ?_ | refine ex_cons ?_ | refine ex_nil ?_ | refine ite_dec ?_ | refine ite_ndec ?_ | refine and_le rfl ?_ | refine and_tr ?_) | dsimp only [fnW, bindNames, bindNest, upd, look, Nat.reduceBEq, cond_true, cond_false, execW, evalW, evalsW, orW, andW, chainW, bt_name, bt_names, bt_swap, bt_nest, cw_eq, cw_ne, cw_lt, cw_le, cw_gt, cw_ge, cw_is_nn, cw_is_tn, cw_isnot_nn, cw_isnot_tn, bw_add, bw_sub, bw_mul, bw_mod, bw_fdiv, bw_pow, bw_lsh, bw_rsh, bw_and, tob_bool, toi_int, ite_tt, ite_ff, ln1, ln0, gd1, gd0, rev2, rev3, ap0, ap1, not_t, not_f, at_p, at_b, at_g, at_n, isCurve_curve, Nat.reduceAdd, sub_tup, pl0_2, pl1_2, pl0_3, pl1_3, pl2_3, gc1, gc0]))
    have l0 : (0 : Int) < (pts.length : Int) := by omega
    (repeat (first | (with_reducible refine And.intro (by first | with_reducible assumption | (refine Bn.small ?_; (repeat' first | (with_reducible refine Bn.base ?_; with_reducible assumption) | with_reducible refine Bn.mul ?_ ?_ | with_reducible refine Bn.add ?_ ?_ | with_reducible refine Bn.sub ?_ ?_ | with_reducible refine Bn.neg ?_ | (with_reducible refine Bn.mod ?_ (by with_reducible assumption); first | with_reducible assumption | omega) | exact Bn.lit (by decide)); done) | omega) ?_) | (with_reducible first | refine ct_none ?_ | refine ct_some ?_ | refine ex_cons ?_ | refine ex_nil ?_ | refine ite_dec ?_ | refine ite_ndec ?_ | refine and_le rfl ?_ | refine and_tr ?_) | dsimp only [fnW, bindNames, bindNest, upd, look, Nat.reduceBEq, cond_true, cond_false, execW, evalW, evalsW, orW, andW, chainW, bt_name, bt_names, bt_swap, bt_nest, cw_eq, cw_ne, cw_lt, cw_le, cw_gt, cw_ge, cw_is_nn, cw_is_tn, cw_isnot_nn, cw_isnot_tn, bw_add, bw_sub, bw_mul, bw_mod, bw_fdiv, bw_pow, bw_lsh, bw_rsh, bw_and, tob_bool, toi_int, ite_tt, ite_ff, ln1, ln0, gd1, gd0, rev2, rev3, ap0, ap1, not_t, not_f, at_p, at_b, at_g, at_n, isCurve_curve, Nat.reduceAdd, sub_tup, pl0_2, pl1_2, pl0_3, pl1_3, pl2_3, gc1, gc0]))
    have a0 := Int.emod_nonneg (x0 - 1 + (y0 - 1)) (Int.ne_of_gt l0)
    have a1 := Int.emod_lt_of_pos (x0 - 1 + (y0 - 1)) l0
    generalize (x0 - 1 + (y0 - 1)) % (pts.length : Int) = k at a0 a1 ⊢
    have hk : k.toNat < pts.length := by omega
    refine sub_lst hu4 (place_nat a0 (by rw [List.length_map]; exact a1) (by rw [List.length_map]; omega)) (d := ptv pts[k.toNat]) (by rw [List.getElem?_map, List.getElem?_eq_getElem hk]; rfl) ?_
    have hr := X.rng _ (List.getElem_mem hk)
    generalize pts[k.toNat] = q at hr ⊢
    have e : ptv q = .tup [.int q.1, .int q.2] := rfl
    (repeat (first | (with_reducible first | refine ct_none ?_ | refine ct_some ?_ | refine ex_cons ?_ | refine ex_nil ?_ | refine ite_dec ?_ | refine ite_ndec ?_ | refine and_le rfl ?_ | refine and_tr ?_) | dsimp only [fnW, bindNames, bindNest, upd, look, Nat.reduceBEq, cond_true, cond_false, execW, evalW, evalsW, orW, andW, chainW, bt_name, bt_names, bt_swap, bt_nest, cw_eq, cw_ne, cw_lt, cw_le, cw_gt, cw_ge, cw_is_nn, cw_is_tn, cw_isnot_nn, cw_isnot_tn, bw_add, bw_sub, bw_mul, bw_mod, bw_fdiv, bw_pow, bw_lsh, bw_rsh, bw_and, tob_bool, toi_int, ite_tt, ite_ff, ln1, ln0, gd1, gd0, rev2, rev3, ap0, ap1, not_t, not_f, at_p, at_b, at_g, at_n, isCurve_curve, Nat.reduceAdd, sub_tup, pl0_2, pl1_2, pl0_3, pl1_3, pl2_3, gc1, gc0, ptv]))
    exact places_end n X W4 hu4 huw (by omega) (by omega) p0 p1 rfl rfl rfl rfl rfl fun _ st' W' X' => h st' W' (X04.trans X')
  · refine br_f (hfl) ?_; (repeat (first | (with_reducible first | refine ct_none ?_ | refine ct_some ?_ | refine ex_cons ?_ | refine ex_nil ?_ | refine ite_dec ?_ | refine ite_ndec ?_ | refine and_le rfl ?_ | refine and_tr ?_) | dsimp only [fnW, bindNames, bindNest, upd, look, Nat.reduceBEq, cond_true, cond_false, execW, evalW, evalsW, orW, andW, chainW, bt_name, bt_names, bt_swap, bt_nest, cw_eq, cw_ne, cw_lt, cw_le, cw_gt, cw_ge, cw_is_nn, cw_is_tn, cw_isnot_nn, cw_isnot_tn, bw_add, bw_sub, bw_mul, bw_mod, bw_fdiv, bw_pow, bw_lsh, bw_rsh, bw_and, tob_bool, toi_int, ite_tt, ite_ff, ln1, ln0, gd1, gd0, rev2, rev3, ap0, ap1, not_t, not_f, at_p, at_b, at_g, at_n, isCurve_curve, Nat.reduceAdd, sub_tup, pl0_2, pl1_2, pl0_3, pl1_3, pl2_3, gc1, gc0]))
    exact places_end n X W4 hu4 huw (by omega) (by omega) p0 p1 rfl rfl rfl rfl rfl fun _ st' W' X' => h st' W' (X04.trans X')
end Mine
set_option maxRecDepth 100000
set_option maxHeartbeats 4000000
set_option linter.unusedSimpArgs false
set_option linter.unusedVariables false
set_option exponentiation.threshold 300
namespace Mine
open PySem PySem.W PyProof.Rows

theorem rec_mod {s s0 w r σ K k B m j c1 c2 c3 c4 : Int} (h1 : s0 = (w + r * σ) * K - m * c1) (h2 : k * K = 1 + m * c2) (h3 : r * B = 1 + m * c3) (h4 : s * j = s0 * k + m * c4) :
    s * B * j + -w * B = σ + m * (σ * c3 + (w + r * σ) * B * c2 - c1 * B * k + c4 * B) := by
  have e1 : s * B * j = (s * j) * B := by rw [Int.mul_right_comm]
  rw [e1, h4, h1]
  have e2 : ((w + r * σ) * K - m * c1) * k = (w + r * σ) * (k * K) - m * c1 * k := by
    rw [Int.sub_mul, Int.mul_assoc, Int.mul_comm K k]
  rw [e2, h2]
  grind
theorem mod_ex {a m : Int} : ∃ c, a % m = a - m * c := ⟨a / m, by have := Int.mul_ediv_add_emod a m; omega⟩
theorem one_ex {a m : Int} (h : a % m = 1) : ∃ c, a = 1 + m * c := ⟨a / m, by have := Int.mul_ediv_add_emod a m; omega⟩
theorem mod_of_eq {a b m z : Int} (h : a = b + m * z) (h0 : 0 ≤ b) (h1 : b < m) : a % m = b := by
  rw [h, Int.add_mul_emod_self_left]; exact Int.emod_eq_of_lt h0 h1

namespace Tab
variable {p b m : Nat} {pts : List (Int × Int)} {T : Nat → Pt} (X : Tab p b m pts T)
include X
/-- the point with the wanted x and parity -/
theorem liftT {i : Nat} (h0 : 0 < i) (h1 : i < m) {x y : Int} (e : T i = some (x, y)) : liftF p b x (y % 2) = T i := by
  have hy := Int.emod_two_eq y
  rw [X.pts.liftAny (by omega) (by omega)]
  have hq := X.mem i h0 h1 _ e
  cases hf : filt pts x (y % 2) with
  | nil =>
    have : (x, y) ∈ filt pts x (y % 2) := by
      unfold filt
      rw [List.mem_filter]
      exact ⟨hq, by simp⟩
    rw [hf] at this; cases this
  | cons q r =>
    have hm : q ∈ filt pts x (y % 2) := by rw [hf]; exact List.mem_cons_self
    unfold filt at hm
    rw [List.mem_filter] at hm
    obtain ⟨hq1, hq2⟩ := hm
    simp only [Bool.and_eq_true, decide_eq_true_eq] at hq2
    obtain ⟨j, j0, j1, ej⟩ := X.all q hq1
    have : j = i := X.uniq j j1 i h1 x q.2 y (by rw [ej, ← hq2.1]) e hq2.2
    rw [List.head?_cons, ← ej, this]
theorem liftN {x par : Int} (h0 : 0 ≤ par) (h1 : par < 2) {q : Int × Int} (e : liftF p b x par = some q) : ∃ i, 0 < i ∧ i < m ∧ T i = some (x, q.2) ∧ q.2 % 2 = par := by
  rw [X.pts.liftAny h0 h1] at e
  cases hf : filt pts x par with
  | nil => rw [hf] at e; cases e
  | cons q' r =>
    rw [hf, List.head?_cons] at e
    cases e
    have hm : q ∈ filt pts x par := by rw [hf]; exact List.mem_cons_self
    unfold filt at hm
    rw [List.mem_filter] at hm
    obtain ⟨hq1, hq2⟩ := hm
    simp only [Bool.and_eq_true, decide_eq_true_eq] at hq2
    obtain ⟨j, j0, j1, ej⟩ := X.all q hq1
    exact ⟨j, j0, j1, by rw [ej, ← hq2.1], hq2.2⟩
theorem powI (k : Int) : pmod k (m - 2) m = (invF m).getD (k % m).toNat 0 := by
  have m0 : (0 : Int) < m := by have := X.m3; omega
  have k0 := Int.emod_nonneg k (Int.ne_of_gt m0)
  have k1 := Int.emod_lt_of_pos k m0
  have : pmod k (m - 2) m = pmod ((k % m).toNat : Nat) (m - 2) m := by
    unfold pmod
    rw [Int.toNat_of_nonneg k0, Int.emod_emod]
  rw [this, X.powm _ (by omega)]
theorem mul1 (c : Int) : timesF p m c (T 1) = T ((c % m).toNat) := by
  have := X.mulI (i := 1) (by have := X.m3; omega) c
  simpa using this
/-- the point told by two numbers -/
theorem recT {j : Nat} (hj : j < m) (a c : Int) {σ z : Int} (h : a * j + c = σ + m * z) (h0 : 0 ≤ σ) (h1 : σ < m) : addF p (timesF p m a (T j)) (timesF p m c (T 1)) = T σ.toNat := by
  have hm3 := X.m3
  have m0 : (0 : Int) < m := by omega
  have a0 := Int.emod_nonneg (a * j) (Int.ne_of_gt m0)
  have a1 := Int.emod_lt_of_pos (a * j) m0
  have b0 := Int.emod_nonneg c (Int.ne_of_gt m0)
  have b1 := Int.emod_lt_of_pos c m0
  rw [X.mulI hj, X.mul1, X.add _ (by omega) _ (by omega)]
  congr 1
  have e := mod_of_eq h h0 h1
  have e2 : ((((a * j % m).toNat + (c % m).toNat) % m : Nat) : Int) = (a * j + c) % m := by
    rw [Int.natCast_emod, Int.natCast_add, Int.toNat_of_nonneg a0, Int.toNat_of_nonneg b0, ← Int.add_emod]
  omega
theorem sig_rec {secret word k par r s : Int} (h : sigG m secret word k (T (k % m).toNat) = some (par, r, s)) : recG p b m (T 1) word par r s = T secret.toNat := by
  have hm3 := X.m3
  have modd := X.modd
  have m0 : (0 : Int) < m := by omega
  have k0 := Int.emod_nonneg k (Int.ne_of_gt m0)
  have k1 := Int.emod_lt_of_pos k m0
  have hkk : (k % m).toNat < m := by omega
  by_cases hz : (k % m).toNat = 0
  · rw [hz, X.zero] at h
    cases h
  · obtain ⟨x, y, e, hx, hy⟩ := X.som _ (by omega) hkk
    rw [e] at h
    unfold sigG at h
    dsimp only at h
    by_cases c1 : ¬ (0 < secret ∧ secret < m)
    · rw [if_pos c1] at h; cases h
    · rw [if_neg c1] at h
      have c1 := Classical.not_not.mp c1
      by_cases c2 : ¬ ((0 : Int) < x ∧ (x : Int) < m)
      · rw [if_pos c2] at h; cases h
      · rw [if_neg c2] at h
        have c2 := Classical.not_not.mp c2
        generalize hs0 : (word + x * secret) * pmod k (m - 2) m % m = s0 at h
        by_cases c3 : s0 = 0
        · rw [if_pos c3] at h; cases h
        · rw [if_neg c3] at h
          have s00 : 0 ≤ s0 := by rw [← hs0]; exact Int.emod_nonneg _ (Int.ne_of_gt m0)
          have s01 : s0 < m := by rw [← hs0]; exact Int.emod_lt_of_pos _ m0
          obtain ⟨d1, hd1⟩ := mod_ex (a := (word + x * secret) * pmod k (m - 2) m) (m := m)
          rw [hs0, X.powI k] at hd1
          obtain ⟨d2, hd2⟩ := one_ex (X.invm (k % m).toNat (by omega) hkk)
          have hr0 : (x : Int) % m = x := Int.emod_eq_of_lt (by omega) c2.2
          obtain ⟨d3, hd3⟩ := one_ex (X.invm x (by omega) (by omega))
          have hB : pmod (x : Int) (m - 2) m = (invF m).getD x 0 := X.powm x (by omega)
          by_cases c4 : s0 > m / 2
          · rw [if_pos c4] at h
            cases h
            have en := X.neg _ (by omega) hkk _ _ e
            have hp : ((p : Int) - y) % 2 = 1 - (y : Int) % 2 := by have := X.podd; omega
            have hl := X.liftT (i := m - (k % m).toNat) (by omega) (by omega) en
            rw [hp] at hl
            unfold recG
            rw [if_neg (by omega), hl, en]
            dsimp only
            rw [← en, hB]
            have e4 : ((m : Int) - s0) * ((m - (k % m).toNat : Nat) : Int) = s0 * ((k % m).toNat : Nat) + m * (m - s0 - (k % m).toNat) := by
              rw [Int.ofNat_sub (by omega)]
              grind
            exact X.recT (by omega) _ _ (rec_mod hd1 hd2 hd3 e4) (by omega) c1.2
          · rw [if_neg c4] at h
            cases h
            have hl := X.liftT (by omega) hkk e
            unfold recG
            rw [if_neg (by omega), hl, e]
            dsimp only
            rw [← e, hB]
            have e4 : s * (((k % m).toNat : Nat) : Int) = s * ((k % m).toNat : Nat) + m * 0 := by omega
            exact X.recT hkk _ _ (rec_mod hd1 hd2 hd3 e4) (by omega) c1.2
end Tab
end Mine
set_option maxRecDepth 100000
set_option maxHeartbeats 4000000
set_option linter.unusedSimpArgs false
set_option linter.unusedVariables false
set_option exponentiation.threshold 300
namespace Mine
open PySem PySem.W PyProof.Rows

theorem eqO_sig (st : St) (A : Option (Int × Int × Int)) : eqO st (sigV A) (sigV A) = some true := by
  match A with
  | Option.none => rfl
  | some (x, y, z) =>
    rw [eqO_eq]; unfold eqO0
    simp only [sigV, dataO, flatPD, intsO, PyData.eqv, PyData.eqvAll, List.map_cons, List.map_nil, beq_self_eq_true, Bool.and_self]
theorem cw_ne_sig {st : St} {k : Bool → Prop} (A : Option (Int × Int × Int)) : cmpW .NotEq (sigV A) (sigV A) st k = k false := by unfold cmpW cmpO; rw [eqO_sig]; rfl
noncomputable def dueG (m secret word k : Int) (inv : List Int) : Pt → Option (Int × Int × Int)
  | Option.none => Option.none
  | some (r, y) => if 0 < secret ∧ secret < m then (if 0 < r ∧ r < m then
      (let s := (word + r * secret) * inv.getD (k % m).toNat 0 % m
       if s > 0 then (if 2 * s < m then some (y % 2, r, s) else some (1 - y % 2, r, m - s)) else Option.none) else Option.none) else Option.none
theorem due_sig {m secret word k : Int} {inv : List Int} (hm : 0 < m) (hodd : m % 2 = 1) (hp : pmod k (m - 2) m = inv.getD (k % m).toNat 0) : ∀ P, dueG m secret word k inv P = sigG m secret word k P
  | Option.none => rfl
  | some (r, y) => by
    unfold dueG sigG
    dsimp only
    rw [hp]
    have s0 := Int.emod_nonneg ((word + r * secret) * inv.getD (k % m).toNat 0) (Int.ne_of_gt hm)
    generalize (word + r * secret) * inv.getD (k % m).toNat 0 % m = s at s0 ⊢
    by_cases c1 : 0 < secret ∧ secret < m
    · rw [if_pos c1, if_neg (Classical.not_not.mpr c1)]
      by_cases c2 : 0 < r ∧ r < m
      · rw [if_pos c2, if_neg (Classical.not_not.mpr c2)]
        by_cases c3 : s = 0
        · rw [if_pos c3, if_neg (by omega)]
        · rw [if_neg c3, if_pos (by omega)]
          by_cases c4 : s > m / 2
          · rw [if_pos c4, if_neg (by omega)]
          · rw [if_neg c4, if_pos (by omega)]
      · rw [if_neg c2, if_pos c2]
    · rw [if_neg c1, if_pos c1]
noncomputable def signed_tail : PSs := (.cons (.assign 45 (.call 9 (.cons (.var 6) (.cons (.var 37) (.cons (.var 53) (.cons (.var 17) .nil)))))) (.cons (.ite (.cmp (.var 45) [.NotEq] (.cons (.var 7) .nil)) (.cons (.ret (.bool false)) .nil) .nil) (.cons (.ret (.or (.cons (.cmp (.var 45) [.Is] (.cons .none .nil)) (.cons (.cmp (.call 10 (.cons (.var 6) (.cons (.var 53) (.cons (.sub (.var 45) (.int 0)) (.cons (.sub (.var 45) (.int 1)) (.cons (.sub (.var 45) (.int 2)) .nil)))))) [.Eq] (.cons (.sub (.var 44) (.var 37)) .nil)) .nil)))) .nil)))
theorem sig_at {m secret word k : Int} {P : Pt} {par r s : Int} (h : sigG m secret word k P = some (par, r, s)) : 0 < secret ∧ secret < m := by
  cases P with
  | none => cases h
  | some q =>
    unfold sigG at h
    dsimp only at h
    by_cases c1 : ¬ (0 < secret ∧ secret < m)
    · rw [if_pos c1] at h; cases h
    · exact Classical.not_not.mp c1
theorem signed_end (n : Nat) {p b m : Nat} {pts : List (Int × Int)} {T : Nat → Pt} (X : Tab p b m pts T) {w t : Nat} {st : St} {secret word k : Int} {loc : Loc} {Q : Ends} (W : WellOk w st) (ht : st[t]? = some (tb m T)) (htw : t ≠ w)
    (b1 : Bd secret) (b2 : Bd word) (b3 : Bd k)
    (l6 : look loc 6 = some (.curve p b (pt (T 1)) m)) (l44 : look loc 44 = some (.lst t)) (l37 : look loc 37 = some (.int secret)) (l53 : look loc 53 = some (.int word)) (l17 : look loc 17 = some (.int k))
    (l7 : look loc 7 = some (sigV (sigG m secret word k (T (k % m).toNat))))
    (h : ∀ loc st', WellOk w st' → Ext w st st' → Q (some (.bool true)) loc st') : execsW ⟨callW (n + 5), globV⟩ signed_tail loc st Q := by
  have hm3 := X.m3
  have hm100 := X.m100
  have hp3 := X.p3
  have m0 : (0 : Int) < m := by omega
  unfold signed_tail
  (repeat (first | (with_reducible first | refine ct_none ?_ | refine ct_some ?_ | refine ex_cons ?_ | refine ex_nil ?_ | refine ite_dec ?_ | refine ite_ndec ?_ | refine and_le rfl ?_ | refine and_tr ?_) | dsimp only [fnW, bindNames, bindNest, upd, look, Nat.reduceBEq, cond_true, cond_false, execW, evalW, evalsW, orW, andW, chainW, bt_name, bt_names, bt_swap, bt_nest, cw_eq, cw_ne, cw_lt, cw_le, cw_gt, cw_ge, cw_is_nn, cw_is_tn, cw_isnot_nn, cw_isnot_tn, bw_add, bw_sub, bw_mul, bw_mod, bw_fdiv, bw_pow, bw_lsh, bw_rsh, bw_and, tob_bool, toi_int, ite_tt, ite_ff, ln1, ln0, gd1, gd0, rev2, rev3, ap0, ap1, not_t, not_f, at_p, at_b, at_g, at_n, isCurve_curve, Nat.reduceAdd, sub_tup, pl0_2, pl1_2, pl0_3, pl1_3, pl2_3, gc1, gc0] | (refine' lk_m ?lk ?_; (case lk => (repeat' first | (show look _ _ = _; with_reducible assumption) | exact lk_eq | exact rfl | refine' lk_ne ?_ (by rfl))))))
  refine c_signature (n + 1) (by omega) X.bp (by omega) X.bm (X.bdp (by omega)) b1 b2 b3 ?_
  rw [X.mul1]
  (repeat (first | (with_reducible first | refine ct_none ?_ | refine ct_some ?_ | refine ex_cons ?_ | refine ex_nil ?_ | refine ite_dec ?_ | refine ite_ndec ?_ | refine and_le rfl ?_ | refine and_tr ?_) | dsimp only [fnW, bindNames, bindNest, upd, look, Nat.reduceBEq, cond_true, cond_false, execW, evalW, evalsW, orW, andW, chainW, bt_name, bt_names, bt_swap, bt_nest, cw_eq, cw_ne, cw_lt, cw_le, cw_gt, cw_ge, cw_is_nn, cw_is_tn, cw_isnot_nn, cw_isnot_tn, bw_add, bw_sub, bw_mul, bw_mod, bw_fdiv, bw_pow, bw_lsh, bw_rsh, bw_and, tob_bool, toi_int, ite_tt, ite_ff, ln1, ln0, gd1, gd0, rev2, rev3, ap0, ap1, not_t, not_f, at_p, at_b, at_g, at_n, isCurve_curve, Nat.reduceAdd, sub_tup, pl0_2, pl1_2, pl0_3, pl1_3, pl2_3, gc1, gc0] | (refine' lk_m ?lk ?_; (case lk => (repeat' first | (show look _ _ = _; with_reducible assumption) | exact lk_eq | exact rfl | refine' lk_ne ?_ (by rfl))))))
  rw [cw_ne_sig]
  (repeat (first | (with_reducible first | refine ct_none ?_ | refine ct_some ?_ | refine ex_cons ?_ | refine ex_nil ?_ | refine ite_dec ?_ | refine ite_ndec ?_ | refine and_le rfl ?_ | refine and_tr ?_) | dsimp only [fnW, bindNames, bindNest, upd, look, Nat.reduceBEq, cond_true, cond_false, execW, evalW, evalsW, orW, andW, chainW, bt_name, bt_names, bt_swap, bt_nest, cw_eq, cw_ne, cw_lt, cw_le, cw_gt, cw_ge, cw_is_nn, cw_is_tn, cw_isnot_nn, cw_isnot_tn, bw_add, bw_sub, bw_mul, bw_mod, bw_fdiv, bw_pow, bw_lsh, bw_rsh, bw_and, tob_bool, toi_int, ite_tt, ite_ff, ln1, ln0, gd1, gd0, rev2, rev3, ap0, ap1, not_t, not_f, at_p, at_b, at_g, at_n, isCurve_curve, Nat.reduceAdd, sub_tup, pl0_2, pl1_2, pl0_3, pl1_3, pl2_3, gc1, gc0] | (refine' lk_m ?lk ?_; (case lk => (repeat' first | (show look _ _ = _; with_reducible assumption) | exact lk_eq | exact rfl | refine' lk_ne ?_ (by rfl))))))
  cases hs : sigG m secret word k (T (k % m).toNat) with
  | none =>
    (repeat (first | (with_reducible first | refine ct_none ?_ | refine ct_some ?_ | refine ex_cons ?_ | refine ex_nil ?_ | refine ite_dec ?_ | refine ite_ndec ?_ | refine and_le rfl ?_ | refine and_tr ?_) | dsimp only [fnW, bindNames, bindNest, upd, look, Nat.reduceBEq, cond_true, cond_false, execW, evalW, evalsW, orW, andW, chainW, bt_name, bt_names, bt_swap, bt_nest, cw_eq, cw_ne, cw_lt, cw_le, cw_gt, cw_ge, cw_is_nn, cw_is_tn, cw_isnot_nn, cw_isnot_tn, bw_add, bw_sub, bw_mul, bw_mod, bw_fdiv, bw_pow, bw_lsh, bw_rsh, bw_and, tob_bool, toi_int, ite_tt, ite_ff, ln1, ln0, gd1, gd0, rev2, rev3, ap0, ap1, not_t, not_f, at_p, at_b, at_g, at_n, isCurve_curve, Nat.reduceAdd, sub_tup, pl0_2, pl1_2, pl0_3, pl1_3, pl2_3, gc1, gc0, sigV] | (refine' lk_m ?lk ?_; (case lk => (repeat' first | (show look _ _ = _; with_reducible assumption) | exact lk_eq | exact rfl | refine' lk_ne ?_ (by rfl))))))
    exact h _ _ W (Ext.refl _ _)
  | some q =>
    obtain ⟨par, r, s⟩ := q
    have hsec := sig_at hs
    (repeat (first | (with_reducible first | refine ct_none ?_ | refine ct_some ?_ | refine ex_cons ?_ | refine ex_nil ?_ | refine ite_dec ?_ | refine ite_ndec ?_ | refine and_le rfl ?_ | refine and_tr ?_) | dsimp only [fnW, bindNames, bindNest, upd, look, Nat.reduceBEq, cond_true, cond_false, execW, evalW, evalsW, orW, andW, chainW, bt_name, bt_names, bt_swap, bt_nest, cw_eq, cw_ne, cw_lt, cw_le, cw_gt, cw_ge, cw_is_nn, cw_is_tn, cw_isnot_nn, cw_isnot_tn, bw_add, bw_sub, bw_mul, bw_mod, bw_fdiv, bw_pow, bw_lsh, bw_rsh, bw_and, tob_bool, toi_int, ite_tt, ite_ff, ln1, ln0, gd1, gd0, rev2, rev3, ap0, ap1, not_t, not_f, at_p, at_b, at_g, at_n, isCurve_curve, Nat.reduceAdd, sub_tup, pl0_2, pl1_2, pl0_3, pl1_3, pl2_3, gc1, gc0, sigV] | (refine' lk_m ?lk ?_; (case lk => (repeat' first | (show look _ _ = _; with_reducible assumption) | exact lk_eq | exact rfl | refine' lk_ne ?_ (by rfl))))))
    refine c_recovered (n + 1) (by omega) X.bp (by omega) X.bm (X.bdp (by omega)) b2 ?_
    (repeat (first | (with_reducible first | refine ct_none ?_ | refine ct_some ?_ | refine ex_cons ?_ | refine ex_nil ?_ | refine ite_dec ?_ | refine ite_ndec ?_ | refine and_le rfl ?_ | refine and_tr ?_) | dsimp only [fnW, bindNames, bindNest, upd, look, Nat.reduceBEq, cond_true, cond_false, execW, evalW, evalsW, orW, andW, chainW, bt_name, bt_names, bt_swap, bt_nest, cw_eq, cw_ne, cw_lt, cw_le, cw_gt, cw_ge, cw_is_nn, cw_is_tn, cw_isnot_nn, cw_isnot_tn, bw_add, bw_sub, bw_mul, bw_mod, bw_fdiv, bw_pow, bw_lsh, bw_rsh, bw_and, tob_bool, toi_int, ite_tt, ite_ff, ln1, ln0, gd1, gd0, rev2, rev3, ap0, ap1, not_t, not_f, at_p, at_b, at_g, at_n, isCurve_curve, Nat.reduceAdd, sub_tup, pl0_2, pl1_2, pl0_3, pl1_3, pl2_3, gc1, gc0] | (refine' lk_m ?lk ?_; (case lk => (repeat' first | (show look _ _ = _; with_reducible assumption) | exact lk_eq | exact rfl | refine' lk_ne ?_ (by rfl))))))
    refine sub_tb ht (by omega) hsec.2 hm100 ?_
    (repeat (first | (with_reducible first | refine ct_none ?_ | refine ct_some ?_ | refine ex_cons ?_ | refine ex_nil ?_ | refine ite_dec ?_ | refine ite_ndec ?_ | refine and_le rfl ?_ | refine and_tr ?_) | dsimp only [fnW, bindNames, bindNest, upd, look, Nat.reduceBEq, cond_true, cond_false, execW, evalW, evalsW, orW, andW, chainW, bt_name, bt_names, bt_swap, bt_nest, cw_eq, cw_ne, cw_lt, cw_le, cw_gt, cw_ge, cw_is_nn, cw_is_tn, cw_isnot_nn, cw_isnot_tn, bw_add, bw_sub, bw_mul, bw_mod, bw_fdiv, bw_pow, bw_lsh, bw_rsh, bw_and, tob_bool, toi_int, ite_tt, ite_ff, ln1, ln0, gd1, gd0, rev2, rev3, ap0, ap1, not_t, not_f, at_p, at_b, at_g, at_n, isCurve_curve, Nat.reduceAdd, sub_tup, pl0_2, pl1_2, pl0_3, pl1_3, pl2_3, gc1, gc0] | (refine' lk_m ?lk ?_; (case lk => (repeat' first | (show look _ _ = _; with_reducible assumption) | exact lk_eq | exact rfl | refine' lk_ne ?_ (by rfl))))))
    rw [X.sig_rec hs, cw_eq_pt]
    (repeat (first | (with_reducible first | refine ct_none ?_ | refine ct_some ?_ | refine ex_cons ?_ | refine ex_nil ?_ | refine ite_dec ?_ | refine ite_ndec ?_ | refine and_le rfl ?_ | refine and_tr ?_) | dsimp only [fnW, bindNames, bindNest, upd, look, Nat.reduceBEq, cond_true, cond_false, execW, evalW, evalsW, orW, andW, chainW, bt_name, bt_names, bt_swap, bt_nest, cw_eq, cw_ne, cw_lt, cw_le, cw_gt, cw_ge, cw_is_nn, cw_is_tn, cw_isnot_nn, cw_isnot_tn, bw_add, bw_sub, bw_mul, bw_mod, bw_fdiv, bw_pow, bw_lsh, bw_rsh, bw_and, tob_bool, toi_int, ite_tt, ite_ff, ln1, ln0, gd1, gd0, rev2, rev3, ap0, ap1, not_t, not_f, at_p, at_b, at_g, at_n, isCurve_curve, Nat.reduceAdd, sub_tup, pl0_2, pl1_2, pl0_3, pl1_3, pl2_3, gc1, gc0] | (refine' lk_m ?lk ?_; (case lk => (repeat' first | (show look _ _ = _; with_reducible assumption) | exact lk_eq | exact rfl | refine' lk_ne ?_ (by rfl))))))
    exact h _ _ W (Ext.refl _ _)
theorem inv_len (q : Int) (h : 2 ≤ q) : (invF q).length = q.toNat := by unfold invF; rw [invUpto_len]; omega
theorem c_signed (n : Nat) {p b m : Nat} {pts : List (Int × Int)} {T : Nat → Pt} (X : Tab p b m pts T) {w t v : Nat} {st : St} {Q : AV → St → Prop} (W : WellOk w st) (ht : st[t]? = some (tb m T)) (htw : t ≠ w) (hv : st[v]? = some ((invF m).map .int)) (hvw : v ≠ w)
    (h : ∀ st', WellOk w st' → Ext w st st' → Q (.bool true) st') : callW (n + 6) 22 [.lst w, .curve p b (pt (T 1)) m, .lst t, .lst v] st Q := by
  have hm3 := X.m3
  have hm100 := X.m100
  have hp3 := X.p3
  have hp100 := X.p100
  have m0 : (0 : Int) < m := by omega
  refine callW_fn (by decide) (by decide) (by decide) rfl ?_
  delta a_law_signed_right b_law_signed_right
  show fnW _ _ (.cons _ (.cons _ (.cons _ (.cons _ signed_tail)))) _ _ _
  (repeat (first | (with_reducible first | refine ct_none ?_ | refine ct_some ?_ | refine ex_cons ?_ | refine ex_nil ?_ | refine ite_dec ?_ | refine ite_ndec ?_ | refine and_le rfl ?_ | refine and_tr ?_) | dsimp only [fnW, bindNames, bindNest, upd, look, Nat.reduceBEq, cond_true, cond_false, execW, evalW, evalsW, orW, andW, chainW, bt_name, bt_names, bt_swap, bt_nest, cw_eq, cw_ne, cw_lt, cw_le, cw_gt, cw_ge, cw_is_nn, cw_is_tn, cw_isnot_nn, cw_isnot_tn, bw_add, bw_sub, bw_mul, bw_mod, bw_fdiv, bw_pow, bw_lsh, bw_rsh, bw_and, tob_bool, toi_int, ite_tt, ite_ff, ln1, ln0, gd1, gd0, rev2, rev3, ap0, ap1, not_t, not_f, at_p, at_b, at_g, at_n, isCurve_curve, Nat.reduceAdd, sub_tup, pl0_2, pl1_2, pl0_3, pl1_3, pl2_3, gc1, gc0]))
  refine c_len (n + 4) ht (by rw [tb_len]; omega) ?_
  rw [tb_len]
  (repeat (first | (with_reducible first | refine ct_none ?_ | refine ct_some ?_ | refine ex_cons ?_ | refine ex_nil ?_ | refine ite_dec ?_ | refine ite_ndec ?_ | refine and_le rfl ?_ | refine and_tr ?_) | dsimp only [fnW, bindNames, bindNest, upd, look, Nat.reduceBEq, cond_true, cond_false, execW, evalW, evalsW, orW, andW, chainW, bt_name, bt_names, bt_swap, bt_nest, cw_eq, cw_ne, cw_lt, cw_le, cw_gt, cw_ge, cw_is_nn, cw_is_tn, cw_isnot_nn, cw_isnot_tn, bw_add, bw_sub, bw_mul, bw_mod, bw_fdiv, bw_pow, bw_lsh, bw_rsh, bw_and, tob_bool, toi_int, ite_tt, ite_ff, ln1, ln0, gd1, gd0, rev2, rev3, ap0, ap1, not_t, not_f, at_p, at_b, at_g, at_n, isCurve_curve, Nat.reduceAdd, sub_tup, pl0_2, pl1_2, pl0_3, pl1_3, pl2_3, gc1, gc0]))
  refine c_draw (n + 3) W (by omega) fun sc st1 s0 s1 W1 X1 _ => ?_
  (repeat (first | (with_reducible first | refine ct_none ?_ | refine ct_some ?_ | refine ex_cons ?_ | refine ex_nil ?_ | refine ite_dec ?_ | refine ite_ndec ?_ | refine and_le rfl ?_ | refine and_tr ?_) | dsimp only [fnW, bindNames, bindNest, upd, look, Nat.reduceBEq, cond_true, cond_false, execW, evalW, evalsW, orW, andW, chainW, bt_name, bt_names, bt_swap, bt_nest, cw_eq, cw_ne, cw_lt, cw_le, cw_gt, cw_ge, cw_is_nn, cw_is_tn, cw_isnot_nn, cw_isnot_tn, bw_add, bw_sub, bw_mul, bw_mod, bw_fdiv, bw_pow, bw_lsh, bw_rsh, bw_and, tob_bool, toi_int, ite_tt, ite_ff, ln1, ln0, gd1, gd0, rev2, rev3, ap0, ap1, not_t, not_f, at_p, at_b, at_g, at_n, isCurve_curve, Nat.reduceAdd, sub_tup, pl0_2, pl1_2, pl0_3, pl1_3, pl2_3, gc1, gc0]))
  refine c_number (n + 2) W1 (by omega) (by omega) fun k st2 bk W2 X2 => ?_
  (repeat (first | (with_reducible first | refine ct_none ?_ | refine ct_some ?_ | refine ex_cons ?_ | refine ex_nil ?_ | refine ite_dec ?_ | refine ite_ndec ?_ | refine and_le rfl ?_ | refine and_tr ?_) | dsimp only [fnW, bindNames, bindNest, upd, look, Nat.reduceBEq, cond_true, cond_false, execW, evalW, evalsW, orW, andW, chainW, bt_name, bt_names, bt_swap, bt_nest, cw_eq, cw_ne, cw_lt, cw_le, cw_gt, cw_ge, cw_is_nn, cw_is_tn, cw_isnot_nn, cw_isnot_tn, bw_add, bw_sub, bw_mul, bw_mod, bw_fdiv, bw_pow, bw_lsh, bw_rsh, bw_and, tob_bool, toi_int, ite_tt, ite_ff, ln1, ln0, gd1, gd0, rev2, rev3, ap0, ap1, not_t, not_f, at_p, at_b, at_g, at_n, isCurve_curve, Nat.reduceAdd, sub_tup, pl0_2, pl1_2, pl0_3, pl1_3, pl2_3, gc1, gc0]))
  refine c_word (n + 2) W2 (by omega) (by omega) fun word st3 bw W3 X3 => ?_
  have X03 := (X1.trans X2).trans X3
  have ht3 := X03 _ _ htw ht
  have hv3 := X03 _ _ hvw hv
  (repeat (first | (with_reducible first | refine ct_none ?_ | refine ct_some ?_ | refine ex_cons ?_ | refine ex_nil ?_ | refine ite_dec ?_ | refine ite_ndec ?_ | refine and_le rfl ?_ | refine and_tr ?_) | dsimp only [fnW, bindNames, bindNest, upd, look, Nat.reduceBEq, cond_true, cond_false, execW, evalW, evalsW, orW, andW, chainW, bt_name, bt_names, bt_swap, bt_nest, cw_eq, cw_ne, cw_lt, cw_le, cw_gt, cw_ge, cw_is_nn, cw_is_tn, cw_isnot_nn, cw_isnot_tn, bw_add, bw_sub, bw_mul, bw_mod, bw_fdiv, bw_pow, bw_lsh, bw_rsh, bw_and, tob_bool, toi_int, ite_tt, ite_ff, ln1, ln0, gd1, gd0, rev2, rev3, ap0, ap1, not_t, not_f, at_p, at_b, at_g, at_n, isCurve_curve, Nat.reduceAdd, sub_tup, pl0_2, pl1_2, pl0_3, pl1_3, pl2_3, gc1, gc0]))
  (repeat (first | (with_reducible refine And.intro (by first | with_reducible assumption | (refine Bn.small ?_; (repeat' first | (with_reducible refine Bn.base ?_; with_reducible assumption) | with_reducible refine Bn.mul ?_ ?_ | with_reducible refine Bn.add ?_ ?_ | with_reducible refine Bn.sub ?_ ?_ | with_reducible refine Bn.neg ?_ | (with_reducible refine Bn.mod ?_ (by with_reducible assumption); first | with_reducible assumption | omega) | exact Bn.lit (by decide)); done) | omega) ?_) | (with_reducible first | refine ct_none ?_ | refine ct_some ?_ | refine ex_cons ?_ | refine ex_nil ?_ | refine ite_dec ?_ | refine ite_ndec ?_ | refine and_le rfl ?_ | refine and_tr ?_) | dsimp only [fnW, bindNames, bindNest, upd, look, Nat.reduceBEq, cond_true, cond_false, execW, evalW, evalsW, orW, andW, chainW, bt_name, bt_names, bt_swap, bt_nest, cw_eq, cw_ne, cw_lt, cw_le, cw_gt, cw_ge, cw_is_nn, cw_is_tn, cw_isnot_nn, cw_isnot_tn, bw_add, bw_sub, bw_mul, bw_mod, bw_fdiv, bw_pow, bw_lsh, bw_rsh, bw_and, tob_bool, toi_int, ite_tt, ite_ff, ln1, ln0, gd1, gd0, rev2, rev3, ap0, ap1, not_t, not_f, at_p, at_b, at_g, at_n, isCurve_curve, Nat.reduceAdd, sub_tup, pl0_2, pl1_2, pl0_3, pl1_3, pl2_3, gc1, gc0]))
  have k0 := Int.emod_nonneg k (Int.ne_of_gt m0)
  have k1 := Int.emod_lt_of_pos k m0
  refine sub_tb ht3 k0 k1 hm100 ?_
  have bsec : Bd (sc - 1) := bd_int (by omega) (by omega)
  have hdue := due_sig (secret := sc - 1) (word := word) m0 (by have := X.modd; omega) (X.powI k) (T (k % m).toNat)
  have binv := bd_getD (invUpto_bd m0 X.bm (m - 2 : Int).toNat) (k % (m : Int)).toNat
  have fin := fun (loc : Loc) (b1 : Bd (sc - 1)) l6 l44 l37 l53 l17 l7 => signed_end n X (loc := loc) W3 ht3 htw b1 bw bk l6 l44 l37 l53 l17 l7 (Q := fun r _ st' => Q (r.getD .none) st') (fun _ st' W' X' => h st' W' (X03.trans X'))
  have klt : (k % (m : Int)).toNat < m := by omega
  rw [← hdue] at fin
  by_cases hz : (k % (m : Int)).toNat = 0
  · rw [hz, X.zero] at fin ⊢
    (repeat (first | (with_reducible first | refine ct_none ?_ | refine ct_some ?_ | refine ex_cons ?_ | refine ex_nil ?_ | refine ite_dec ?_ | refine ite_ndec ?_ | refine and_le rfl ?_ | refine and_tr ?_) | dsimp only [fnW, bindNames, bindNest, upd, look, Nat.reduceBEq, cond_true, cond_false, execW, evalW, evalsW, orW, andW, chainW, bt_name, bt_names, bt_swap, bt_nest, cw_eq, cw_ne, cw_lt, cw_le, cw_gt, cw_ge, cw_is_nn, cw_is_tn, cw_isnot_nn, cw_isnot_tn, bw_add, bw_sub, bw_mul, bw_mod, bw_fdiv, bw_pow, bw_lsh, bw_rsh, bw_and, tob_bool, toi_int, ite_tt, ite_ff, ln1, ln0, gd1, gd0, rev2, rev3, ap0, ap1, not_t, not_f, at_p, at_b, at_g, at_n, isCurve_curve, Nat.reduceAdd, sub_tup, pl0_2, pl1_2, pl0_3, pl1_3, pl2_3, gc1, gc0, pt_none]))
    exact fin _ bsec rfl rfl rfl rfl rfl rfl
  · obtain ⟨x, y, e, hx, hy⟩ := X.som _ (by omega) klt
    rw [e] at fin ⊢
    have bx : Bd (x : Int) := bd_int (by omega) (by omega)
    have by' : Bd (y : Int) := bd_int (by omega) (by omega)
    (repeat (first | (with_reducible first | refine ct_none ?_ | refine ct_some ?_ | refine ex_cons ?_ | refine ex_nil ?_ | refine ite_dec ?_ | refine ite_ndec ?_ | refine and_le rfl ?_ | refine and_tr ?_) | dsimp only [fnW, bindNames, bindNest, upd, look, Nat.reduceBEq, cond_true, cond_false, execW, evalW, evalsW, orW, andW, chainW, bt_name, bt_names, bt_swap, bt_nest, cw_eq, cw_ne, cw_lt, cw_le, cw_gt, cw_ge, cw_is_nn, cw_is_tn, cw_isnot_nn, cw_isnot_tn, bw_add, bw_sub, bw_mul, bw_mod, bw_fdiv, bw_pow, bw_lsh, bw_rsh, bw_and, tob_bool, toi_int, ite_tt, ite_ff, ln1, ln0, gd1, gd0, rev2, rev3, ap0, ap1, not_t, not_f, at_p, at_b, at_g, at_n, isCurve_curve, Nat.reduceAdd, sub_tup, pl0_2, pl1_2, pl0_3, pl1_3, pl2_3, gc1, gc0, pt_some]))
    unfold dueG at fin
    dsimp only at fin
    by_cases c1 : 0 < sc - 1
    · by_cases c2 : sc - 1 < m
      · rw [if_pos ⟨c1, c2⟩] at fin
        refine br_t (c1) ?_; (repeat (first | (with_reducible first | refine ct_none ?_ | refine ct_some ?_ | refine ex_cons ?_ | refine ex_nil ?_ | refine ite_dec ?_ | refine ite_ndec ?_ | refine and_le rfl ?_ | refine and_tr ?_) | dsimp only [fnW, bindNames, bindNest, upd, look, Nat.reduceBEq, cond_true, cond_false, execW, evalW, evalsW, orW, andW, chainW, bt_name, bt_names, bt_swap, bt_nest, cw_eq, cw_ne, cw_lt, cw_le, cw_gt, cw_ge, cw_is_nn, cw_is_tn, cw_isnot_nn, cw_isnot_tn, bw_add, bw_sub, bw_mul, bw_mod, bw_fdiv, bw_pow, bw_lsh, bw_rsh, bw_and, tob_bool, toi_int, ite_tt, ite_ff, ln1, ln0, gd1, gd0, rev2, rev3, ap0, ap1, not_t, not_f, at_p, at_b, at_g, at_n, isCurve_curve, Nat.reduceAdd, sub_tup, pl0_2, pl1_2, pl0_3, pl1_3, pl2_3, gc1, gc0])); refine br_t (c2) ?_; (repeat (first | (with_reducible first | refine ct_none ?_ | refine ct_some ?_ | refine ex_cons ?_ | refine ex_nil ?_ | refine ite_dec ?_ | refine ite_ndec ?_ | refine and_le rfl ?_ | refine and_tr ?_) | dsimp only [fnW, bindNames, bindNest, upd, look, Nat.reduceBEq, cond_true, cond_false, execW, evalW, evalsW, orW, andW, chainW, bt_name, bt_names, bt_swap, bt_nest, cw_eq, cw_ne, cw_lt, cw_le, cw_gt, cw_ge, cw_is_nn, cw_is_tn, cw_isnot_nn, cw_isnot_tn, bw_add, bw_sub, bw_mul, bw_mod, bw_fdiv, bw_pow, bw_lsh, bw_rsh, bw_and, tob_bool, toi_int, ite_tt, ite_ff, ln1, ln0, gd1, gd0, rev2, rev3, ap0, ap1, not_t, not_f, at_p, at_b, at_g, at_n, isCurve_curve, Nat.reduceAdd, sub_tup, pl0_2, pl1_2, pl0_3, pl1_3, pl2_3, gc1, gc0]))
        by_cases c3 : (0 : Int) < x
        · by_cases c4 : (x : Int) < m
          · rw [if_pos ⟨c3, c4⟩] at fin
            refine br_t (c3) ?_; (repeat (first | (with_reducible first | refine ct_none ?_ | refine ct_some ?_ | refine ex_cons ?_ | refine ex_nil ?_ | refine ite_dec ?_ | refine ite_ndec ?_ | refine and_le rfl ?_ | refine and_tr ?_) | dsimp only [fnW, bindNames, bindNest, upd, look, Nat.reduceBEq, cond_true, cond_false, execW, evalW, evalsW, orW, andW, chainW, bt_name, bt_names, bt_swap, bt_nest, cw_eq, cw_ne, cw_lt, cw_le, cw_gt, cw_ge, cw_is_nn, cw_is_tn, cw_isnot_nn, cw_isnot_tn, bw_add, bw_sub, bw_mul, bw_mod, bw_fdiv, bw_pow, bw_lsh, bw_rsh, bw_and, tob_bool, toi_int, ite_tt, ite_ff, ln1, ln0, gd1, gd0, rev2, rev3, ap0, ap1, not_t, not_f, at_p, at_b, at_g, at_n, isCurve_curve, Nat.reduceAdd, sub_tup, pl0_2, pl1_2, pl0_3, pl1_3, pl2_3, gc1, gc0])); refine br_t (c4) ?_; (repeat (first | (with_reducible first | refine ct_none ?_ | refine ct_some ?_ | refine ex_cons ?_ | refine ex_nil ?_ | refine ite_dec ?_ | refine ite_ndec ?_ | refine and_le rfl ?_ | refine and_tr ?_) | dsimp only [fnW, bindNames, bindNest, upd, look, Nat.reduceBEq, cond_true, cond_false, execW, evalW, evalsW, orW, andW, chainW, bt_name, bt_names, bt_swap, bt_nest, cw_eq, cw_ne, cw_lt, cw_le, cw_gt, cw_ge, cw_is_nn, cw_is_tn, cw_isnot_nn, cw_isnot_tn, bw_add, bw_sub, bw_mul, bw_mod, bw_fdiv, bw_pow, bw_lsh, bw_rsh, bw_and, tob_bool, toi_int, ite_tt, ite_ff, ln1, ln0, gd1, gd0, rev2, rev3, ap0, ap1, not_t, not_f, at_p, at_b, at_g, at_n, isCurve_curve, Nat.reduceAdd, sub_tup, pl0_2, pl1_2, pl0_3, pl1_3, pl2_3, gc1, gc0]))
            (repeat (first | (with_reducible refine And.intro (by first | with_reducible assumption | (refine Bn.small ?_; (repeat' first | (with_reducible refine Bn.base ?_; with_reducible assumption) | with_reducible refine Bn.mul ?_ ?_ | with_reducible refine Bn.add ?_ ?_ | with_reducible refine Bn.sub ?_ ?_ | with_reducible refine Bn.neg ?_ | (with_reducible refine Bn.mod ?_ (by with_reducible assumption); first | with_reducible assumption | omega) | exact Bn.lit (by decide)); done) | omega) ?_) | (with_reducible first | refine ct_none ?_ | refine ct_some ?_ | refine ex_cons ?_ | refine ex_nil ?_ | refine ite_dec ?_ | refine ite_ndec ?_ | refine and_le rfl ?_ | refine and_tr ?_) | dsimp only [fnW, bindNames, bindNest, upd, look, Nat.reduceBEq, cond_true, cond_false, execW, evalW, evalsW, orW, andW, chainW, bt_name, bt_names, bt_swap, bt_nest, cw_eq, cw_ne, cw_lt, cw_le, cw_gt, cw_ge, cw_is_nn, cw_is_tn, cw_isnot_nn, cw_isnot_tn, bw_add, bw_sub, bw_mul, bw_mod, bw_fdiv, bw_pow, bw_lsh, bw_rsh, bw_and, tob_bool, toi_int, ite_tt, ite_ff, ln1, ln0, gd1, gd0, rev2, rev3, ap0, ap1, not_t, not_f, at_p, at_b, at_g, at_n, isCurve_curve, Nat.reduceAdd, sub_tup, pl0_2, pl1_2, pl0_3, pl1_3, pl2_3, gc1, gc0]))
            refine sub_ints hv3 k0 (by rw [inv_len _ (by omega)]; omega) (by rw [inv_len _ (by omega)]; omega) ?_
            have binv' : Bd ((invF m).getD (k % (m : Int)).toNat 0) := binv
            (repeat (first | (with_reducible first | refine ct_none ?_ | refine ct_some ?_ | refine ex_cons ?_ | refine ex_nil ?_ | refine ite_dec ?_ | refine ite_ndec ?_ | refine and_le rfl ?_ | refine and_tr ?_) | dsimp only [fnW, bindNames, bindNest, upd, look, Nat.reduceBEq, cond_true, cond_false, execW, evalW, evalsW, orW, andW, chainW, bt_name, bt_names, bt_swap, bt_nest, cw_eq, cw_ne, cw_lt, cw_le, cw_gt, cw_ge, cw_is_nn, cw_is_tn, cw_isnot_nn, cw_isnot_tn, bw_add, bw_sub, bw_mul, bw_mod, bw_fdiv, bw_pow, bw_lsh, bw_rsh, bw_and, tob_bool, toi_int, ite_tt, ite_ff, ln1, ln0, gd1, gd0, rev2, rev3, ap0, ap1, not_t, not_f, at_p, at_b, at_g, at_n, isCurve_curve, Nat.reduceAdd, sub_tup, pl0_2, pl1_2, pl0_3, pl1_3, pl2_3, gc1, gc0]))
            (repeat (first | (with_reducible refine And.intro (by first | with_reducible assumption | (refine Bn.small ?_; (repeat' first | (with_reducible refine Bn.base ?_; with_reducible assumption) | with_reducible refine Bn.mul ?_ ?_ | with_reducible refine Bn.add ?_ ?_ | with_reducible refine Bn.sub ?_ ?_ | with_reducible refine Bn.neg ?_ | (with_reducible refine Bn.mod ?_ (by with_reducible assumption); first | with_reducible assumption | omega) | exact Bn.lit (by decide)); done) | omega) ?_) | (with_reducible first | refine ct_none ?_ | refine ct_some ?_ | refine ex_cons ?_ | refine ex_nil ?_ | refine ite_dec ?_ | refine ite_ndec ?_ | refine and_le rfl ?_ | refine and_tr ?_) | dsimp only [fnW, bindNames, bindNest, upd, look, Nat.reduceBEq, cond_true, cond_false, execW, evalW, evalsW, orW, andW, chainW, bt_name, bt_names, bt_swap, bt_nest, cw_eq, cw_ne, cw_lt, cw_le, cw_gt, cw_ge, cw_is_nn, cw_is_tn, cw_isnot_nn, cw_isnot_tn, bw_add, bw_sub, bw_mul, bw_mod, bw_fdiv, bw_pow, bw_lsh, bw_rsh, bw_and, tob_bool, toi_int, ite_tt, ite_ff, ln1, ln0, gd1, gd0, rev2, rev3, ap0, ap1, not_t, not_f, at_p, at_b, at_g, at_n, isCurve_curve, Nat.reduceAdd, sub_tup, pl0_2, pl1_2, pl0_3, pl1_3, pl2_3, gc1, gc0]))
            have bs := bd_mod (a := (word + (x : Int) * (sc - 1)) * (invF m).getD (k % (m : Int)).toNat 0) m0 X.bm
            generalize (word + (x : Int) * (sc - 1)) * (invF m).getD (k % (m : Int)).toNat 0 % m = s at fin bs ⊢
            by_cases c5 : s > 0
            · rw [if_pos c5] at fin; refine br_t (c5) ?_; (repeat (first | (with_reducible first | refine ct_none ?_ | refine ct_some ?_ | refine ex_cons ?_ | refine ex_nil ?_ | refine ite_dec ?_ | refine ite_ndec ?_ | refine and_le rfl ?_ | refine and_tr ?_) | dsimp only [fnW, bindNames, bindNest, upd, look, Nat.reduceBEq, cond_true, cond_false, execW, evalW, evalsW, orW, andW, chainW, bt_name, bt_names, bt_swap, bt_nest, cw_eq, cw_ne, cw_lt, cw_le, cw_gt, cw_ge, cw_is_nn, cw_is_tn, cw_isnot_nn, cw_isnot_tn, bw_add, bw_sub, bw_mul, bw_mod, bw_fdiv, bw_pow, bw_lsh, bw_rsh, bw_and, tob_bool, toi_int, ite_tt, ite_ff, ln1, ln0, gd1, gd0, rev2, rev3, ap0, ap1, not_t, not_f, at_p, at_b, at_g, at_n, isCurve_curve, Nat.reduceAdd, sub_tup, pl0_2, pl1_2, pl0_3, pl1_3, pl2_3, gc1, gc0]))
              by_cases c6 : 2 * s < m
              · rw [if_pos c6] at fin
                (repeat (first | (with_reducible refine And.intro (by first | with_reducible assumption | (refine Bn.small ?_; (repeat' first | (with_reducible refine Bn.base ?_; with_reducible assumption) | with_reducible refine Bn.mul ?_ ?_ | with_reducible refine Bn.add ?_ ?_ | with_reducible refine Bn.sub ?_ ?_ | with_reducible refine Bn.neg ?_ | (with_reducible refine Bn.mod ?_ (by with_reducible assumption); first | with_reducible assumption | omega) | exact Bn.lit (by decide)); done) | omega) ?_) | (with_reducible first | refine ct_none ?_ | refine ct_some ?_ | refine ex_cons ?_ | refine ex_nil ?_ | refine ite_dec ?_ | refine ite_ndec ?_ | refine and_le rfl ?_ | refine and_tr ?_) | dsimp only [fnW, bindNames, bindNest, upd, look, Nat.reduceBEq, cond_true, cond_false, execW, evalW, evalsW, orW, andW, chainW, bt_name, bt_names, bt_swap, bt_nest, cw_eq, cw_ne, cw_lt, cw_le, cw_gt, cw_ge, cw_is_nn, cw_is_tn, cw_isnot_nn, cw_isnot_tn, bw_add, bw_sub, bw_mul, bw_mod, bw_fdiv, bw_pow, bw_lsh, bw_rsh, bw_and, tob_bool, toi_int, ite_tt, ite_ff, ln1, ln0, gd1, gd0, rev2, rev3, ap0, ap1, not_t, not_f, at_p, at_b, at_g, at_n, isCurve_curve, Nat.reduceAdd, sub_tup, pl0_2, pl1_2, pl0_3, pl1_3, pl2_3, gc1, gc0]))
                refine br_t (c6) ?_; (repeat (first | (with_reducible first | refine ct_none ?_ | refine ct_some ?_ | refine ex_cons ?_ | refine ex_nil ?_ | refine ite_dec ?_ | refine ite_ndec ?_ | refine and_le rfl ?_ | refine and_tr ?_) | dsimp only [fnW, bindNames, bindNest, upd, look, Nat.reduceBEq, cond_true, cond_false, execW, evalW, evalsW, orW, andW, chainW, bt_name, bt_names, bt_swap, bt_nest, cw_eq, cw_ne, cw_lt, cw_le, cw_gt, cw_ge, cw_is_nn, cw_is_tn, cw_isnot_nn, cw_isnot_tn, bw_add, bw_sub, bw_mul, bw_mod, bw_fdiv, bw_pow, bw_lsh, bw_rsh, bw_and, tob_bool, toi_int, ite_tt, ite_ff, ln1, ln0, gd1, gd0, rev2, rev3, ap0, ap1, not_t, not_f, at_p, at_b, at_g, at_n, isCurve_curve, Nat.reduceAdd, sub_tup, pl0_2, pl1_2, pl0_3, pl1_3, pl2_3, gc1, gc0]))
                exact fin _ bsec rfl rfl rfl rfl rfl rfl
              · rw [if_neg c6] at fin
                (repeat (first | (with_reducible refine And.intro (by first | with_reducible assumption | (refine Bn.small ?_; (repeat' first | (with_reducible refine Bn.base ?_; with_reducible assumption) | with_reducible refine Bn.mul ?_ ?_ | with_reducible refine Bn.add ?_ ?_ | with_reducible refine Bn.sub ?_ ?_ | with_reducible refine Bn.neg ?_ | (with_reducible refine Bn.mod ?_ (by with_reducible assumption); first | with_reducible assumption | omega) | exact Bn.lit (by decide)); done) | omega) ?_) | (with_reducible first | refine ct_none ?_ | refine ct_some ?_ | refine ex_cons ?_ | refine ex_nil ?_ | refine ite_dec ?_ | refine ite_ndec ?_ | refine and_le rfl ?_ | refine and_tr ?_) | dsimp only [fnW, bindNames, bindNest, upd, look, Nat.reduceBEq, cond_true, cond_false, execW, evalW, evalsW, orW, andW, chainW, bt_name, bt_names, bt_swap, bt_nest, cw_eq, cw_ne, cw_lt, cw_le, cw_gt, cw_ge, cw_is_nn, cw_is_tn, cw_isnot_nn, cw_isnot_tn, bw_add, bw_sub, bw_mul, bw_mod, bw_fdiv, bw_pow, bw_lsh, bw_rsh, bw_and, tob_bool, toi_int, ite_tt, ite_ff, ln1, ln0, gd1, gd0, rev2, rev3, ap0, ap1, not_t, not_f, at_p, at_b, at_g, at_n, isCurve_curve, Nat.reduceAdd, sub_tup, pl0_2, pl1_2, pl0_3, pl1_3, pl2_3, gc1, gc0]))
                refine br_f (c6) ?_; (repeat (first | (with_reducible first | refine ct_none ?_ | refine ct_some ?_ | refine ex_cons ?_ | refine ex_nil ?_ | refine ite_dec ?_ | refine ite_ndec ?_ | refine and_le rfl ?_ | refine and_tr ?_) | dsimp only [fnW, bindNames, bindNest, upd, look, Nat.reduceBEq, cond_true, cond_false, execW, evalW, evalsW, orW, andW, chainW, bt_name, bt_names, bt_swap, bt_nest, cw_eq, cw_ne, cw_lt, cw_le, cw_gt, cw_ge, cw_is_nn, cw_is_tn, cw_isnot_nn, cw_isnot_tn, bw_add, bw_sub, bw_mul, bw_mod, bw_fdiv, bw_pow, bw_lsh, bw_rsh, bw_and, tob_bool, toi_int, ite_tt, ite_ff, ln1, ln0, gd1, gd0, rev2, rev3, ap0, ap1, not_t, not_f, at_p, at_b, at_g, at_n, isCurve_curve, Nat.reduceAdd, sub_tup, pl0_2, pl1_2, pl0_3, pl1_3, pl2_3, gc1, gc0]))
                exact fin _ bsec rfl rfl rfl rfl rfl rfl
            · rw [if_neg c5] at fin; refine br_f (c5) ?_; (repeat (first | (with_reducible first | refine ct_none ?_ | refine ct_some ?_ | refine ex_cons ?_ | refine ex_nil ?_ | refine ite_dec ?_ | refine ite_ndec ?_ | refine and_le rfl ?_ | refine and_tr ?_) | dsimp only [fnW, bindNames, bindNest, upd, look, Nat.reduceBEq, cond_true, cond_false, execW, evalW, evalsW, orW, andW, chainW, bt_name, bt_names, bt_swap, bt_nest, cw_eq, cw_ne, cw_lt, cw_le, cw_gt, cw_ge, cw_is_nn, cw_is_tn, cw_isnot_nn, cw_isnot_tn, bw_add, bw_sub, bw_mul, bw_mod, bw_fdiv, bw_pow, bw_lsh, bw_rsh, bw_and, tob_bool, toi_int, ite_tt, ite_ff, ln1, ln0, gd1, gd0, rev2, rev3, ap0, ap1, not_t, not_f, at_p, at_b, at_g, at_n, isCurve_curve, Nat.reduceAdd, sub_tup, pl0_2, pl1_2, pl0_3, pl1_3, pl2_3, gc1, gc0]))
              exact fin _ bsec rfl rfl rfl rfl rfl rfl
          · rw [if_neg (fun z => c4 z.2)] at fin
            refine br_t (c3) ?_; (repeat (first | (with_reducible first | refine ct_none ?_ | refine ct_some ?_ | refine ex_cons ?_ | refine ex_nil ?_ | refine ite_dec ?_ | refine ite_ndec ?_ | refine and_le rfl ?_ | refine and_tr ?_) | dsimp only [fnW, bindNames, bindNest, upd, look, Nat.reduceBEq, cond_true, cond_false, execW, evalW, evalsW, orW, andW, chainW, bt_name, bt_names, bt_swap, bt_nest, cw_eq, cw_ne, cw_lt, cw_le, cw_gt, cw_ge, cw_is_nn, cw_is_tn, cw_isnot_nn, cw_isnot_tn, bw_add, bw_sub, bw_mul, bw_mod, bw_fdiv, bw_pow, bw_lsh, bw_rsh, bw_and, tob_bool, toi_int, ite_tt, ite_ff, ln1, ln0, gd1, gd0, rev2, rev3, ap0, ap1, not_t, not_f, at_p, at_b, at_g, at_n, isCurve_curve, Nat.reduceAdd, sub_tup, pl0_2, pl1_2, pl0_3, pl1_3, pl2_3, gc1, gc0])); refine br_f (c4) ?_; (repeat (first | (with_reducible first | refine ct_none ?_ | refine ct_some ?_ | refine ex_cons ?_ | refine ex_nil ?_ | refine ite_dec ?_ | refine ite_ndec ?_ | refine and_le rfl ?_ | refine and_tr ?_) | dsimp only [fnW, bindNames, bindNest, upd, look, Nat.reduceBEq, cond_true, cond_false, execW, evalW, evalsW, orW, andW, chainW, bt_name, bt_names, bt_swap, bt_nest, cw_eq, cw_ne, cw_lt, cw_le, cw_gt, cw_ge, cw_is_nn, cw_is_tn, cw_isnot_nn, cw_isnot_tn, bw_add, bw_sub, bw_mul, bw_mod, bw_fdiv, bw_pow, bw_lsh, bw_rsh, bw_and, tob_bool, toi_int, ite_tt, ite_ff, ln1, ln0, gd1, gd0, rev2, rev3, ap0, ap1, not_t, not_f, at_p, at_b, at_g, at_n, isCurve_curve, Nat.reduceAdd, sub_tup, pl0_2, pl1_2, pl0_3, pl1_3, pl2_3, gc1, gc0]))
            exact fin _ bsec rfl rfl rfl rfl rfl rfl
        · rw [if_neg (fun z => c3 z.1)] at fin
          refine br_f (c3) ?_; (repeat (first | (with_reducible first | refine ct_none ?_ | refine ct_some ?_ | refine ex_cons ?_ | refine ex_nil ?_ | refine ite_dec ?_ | refine ite_ndec ?_ | refine and_le rfl ?_ | refine and_tr ?_) | dsimp only [fnW, bindNames, bindNest, upd, look, Nat.reduceBEq, cond_true, cond_false, execW, evalW, evalsW, orW, andW, chainW, bt_name, bt_names, bt_swap, bt_nest, cw_eq, cw_ne, cw_lt, cw_le, cw_gt, cw_ge, cw_is_nn, cw_is_tn, cw_isnot_nn, cw_isnot_tn, bw_add, bw_sub, bw_mul, bw_mod, bw_fdiv, bw_pow, bw_lsh, bw_rsh, bw_and, tob_bool, toi_int, ite_tt, ite_ff, ln1, ln0, gd1, gd0, rev2, rev3, ap0, ap1, not_t, not_f, at_p, at_b, at_g, at_n, isCurve_curve, Nat.reduceAdd, sub_tup, pl0_2, pl1_2, pl0_3, pl1_3, pl2_3, gc1, gc0]))
          exact fin _ bsec rfl rfl rfl rfl rfl rfl
      · rw [if_neg (fun z => c2 z.2)] at fin
        refine br_t (c1) ?_; (repeat (first | (with_reducible first | refine ct_none ?_ | refine ct_some ?_ | refine ex_cons ?_ | refine ex_nil ?_ | refine ite_dec ?_ | refine ite_ndec ?_ | refine and_le rfl ?_ | refine and_tr ?_) | dsimp only [fnW, bindNames, bindNest, upd, look, Nat.reduceBEq, cond_true, cond_false, execW, evalW, evalsW, orW, andW, chainW, bt_name, bt_names, bt_swap, bt_nest, cw_eq, cw_ne, cw_lt, cw_le, cw_gt, cw_ge, cw_is_nn, cw_is_tn, cw_isnot_nn, cw_isnot_tn, bw_add, bw_sub, bw_mul, bw_mod, bw_fdiv, bw_pow, bw_lsh, bw_rsh, bw_and, tob_bool, toi_int, ite_tt, ite_ff, ln1, ln0, gd1, gd0, rev2, rev3, ap0, ap1, not_t, not_f, at_p, at_b, at_g, at_n, isCurve_curve, Nat.reduceAdd, sub_tup, pl0_2, pl1_2, pl0_3, pl1_3, pl2_3, gc1, gc0])); refine br_f (c2) ?_; (repeat (first | (with_reducible first | refine ct_none ?_ | refine ct_some ?_ | refine ex_cons ?_ | refine ex_nil ?_ | refine ite_dec ?_ | refine ite_ndec ?_ | refine and_le rfl ?_ | refine and_tr ?_) | dsimp only [fnW, bindNames, bindNest, upd, look, Nat.reduceBEq, cond_true, cond_false, execW, evalW, evalsW, orW, andW, chainW, bt_name, bt_names, bt_swap, bt_nest, cw_eq, cw_ne, cw_lt, cw_le, cw_gt, cw_ge, cw_is_nn, cw_is_tn, cw_isnot_nn, cw_isnot_tn, bw_add, bw_sub, bw_mul, bw_mod, bw_fdiv, bw_pow, bw_lsh, bw_rsh, bw_and, tob_bool, toi_int, ite_tt, ite_ff, ln1, ln0, gd1, gd0, rev2, rev3, ap0, ap1, not_t, not_f, at_p, at_b, at_g, at_n, isCurve_curve, Nat.reduceAdd, sub_tup, pl0_2, pl1_2, pl0_3, pl1_3, pl2_3, gc1, gc0]))
        exact fin _ bsec rfl rfl rfl rfl rfl rfl
    · rw [if_neg (fun z => c1 z.1)] at fin
      refine br_f (c1) ?_; (repeat (first | (with_reducible first | refine ct_none ?_ | refine ct_some ?_ | refine ex_cons ?_ | refine ex_nil ?_ | refine ite_dec ?_ | refine ite_ndec ?_ | refine and_le rfl ?_ | refine and_tr ?_) | dsimp only [fnW, bindNames, bindNest, upd, look, Nat.reduceBEq, cond_true, cond_false, execW, evalW, evalsW, orW, andW, chainW, bt_name, bt_names, bt_swap, bt_nest, cw_eq, cw_ne, cw_lt, cw_le, cw_gt, cw_ge, cw_is_nn, cw_is_tn, cw_isnot_nn, cw_isnot_tn, bw_add, bw_sub, bw_mul, bw_mod, bw_fdiv, bw_pow, bw_lsh, bw_rsh, bw_and, tob_bool, toi_int, ite_tt, ite_ff, ln1, ln0, gd1, gd0, rev2, rev3, ap0, ap1, not_t, not_f, at_p, at_b, at_g, at_n, isCurve_curve, Nat.reduceAdd, sub_tup, pl0_2, pl1_2, pl0_3, pl1_3, pl2_3, gc1, gc0]))
      exact fin _ bsec rfl rfl rfl rfl rfl rfl
end Mine
set_option maxRecDepth 100000
set_option maxHeartbeats 4000000
set_option linter.unusedSimpArgs false
set_option linter.unusedVariables false
set_option exponentiation.threshold 300
namespace Mine
open PySem PySem.W PyProof.Rows

theorem flats_int : ∀ l : List Int, flatsPD (l.map .int) = some (l.map PyData.int)
  | [] => rfl
  | q :: r => by
    rw [List.map_cons, flatsPD, flats_int r]
    rfl
theorem cw_ne_nil_int {st : St} {k : Bool → Prop} {i j : Nat} {l : List Int} (h1 : st[i]? = some (l.map .int)) (h2 : st[j]? = some []) : cmpW .NotEq (.lst i) (.lst j) st k = k (!l.isEmpty) := by
  have : eqO st (.lst i) (.lst j) = some l.isEmpty := by
    rw [eqO_eq]; unfold eqO0 dataO
    simp only [h1, h2, flats_int, Option.map_some]
    cases l with
    | nil => rfl
    | cons q r => rfl
  unfold cmpW cmpO
  rw [this]
  rfl
noncomputable def hit (T : Nat → Pt) (r par : Int) (j : Nat) : Bool := match T (1 + j) with
  | some (x, y) => decide (x = r) && decide (y % 2 = par)
  | Option.none => false
noncomputable def plc (T : Nat → Pt) (r par : Int) (i : Nat) : List Int := ((List.range i).filter (hit T r par)).map fun (j : Nat) => (1 : Int) + j
theorem plc_succ (T : Nat → Pt) (r par : Int) (i : Nat) : plc T r par (i + 1) = plc T r par i ++ (if hit T r par i = true then [(1 : Int) + i] else []) := by
  unfold plc
  rw [List.range_succ, List.filter_append, List.map_append]
  congr 1
  by_cases h : hit T r par i = true
  · rw [if_pos h]; simp [h]
  · rw [if_neg h]; simp [h]
theorem plc_len (T : Nat → Pt) (r par : Int) (i : Nat) : (plc T r par i).length ≤ i := by
  unfold plc
  rw [List.length_map]
  refine Nat.le_trans (List.length_filter_le _ _) ?_
  simp
theorem Tab.rec_wild {p b m : Nat} {pts : List (Int × Int)} {T : Nat → Pt} (X : Tab p b m pts T) {word par r s : Int} (c1 : par = 0 ∨ par = 1) (c2 : 0 < r ∧ r < m) (c3 : 0 < s ∧ s < m) : recG p b m (T 1) word par r s =
    (match plc T r par (m - 1) with
    | [] => Option.none
    | k :: _ => T ((s * k - word) * (invF m).getD r.toNat 0 % m).toNat) := by
  have hm3 := X.m3
  have m0 : (0 : Int) < m := by omega
  have hB : pmod r (m - 2) m = (invF m).getD r.toNat 0 := by rw [X.powI, Int.emod_eq_of_lt (by omega) c2.2]
  unfold recG
  rw [if_neg (by omega)]
  cases hp : plc T r par (m - 1) with
  | nil =>
    cases hl : liftF p b r par with
    | none => rfl
    | some q =>
      obtain ⟨i, i0, i1, ei, e2⟩ := X.liftN (by omega) (by omega) hl
      have : (1 : Int) + ((i - 1 : Nat) : Int) ∈ plc T r par (m - 1) := by
        unfold plc
        rw [List.mem_map]
        refine ⟨i - 1, ?_, rfl⟩
        rw [List.mem_filter]
        refine ⟨List.mem_range.mpr (by omega), ?_⟩
        unfold hit
        rw [show 1 + (i - 1) = i by omega, ei]
        simp [e2]
      rw [hp] at this; cases this
  | cons k l =>
    have hk : k ∈ plc T r par (m - 1) := by rw [hp]; exact List.mem_cons_self
    unfold plc at hk
    rw [List.mem_map] at hk
    obtain ⟨j, hj, rfl⟩ := hk
    rw [List.mem_filter] at hj
    obtain ⟨hj1, hj2⟩ := hj
    have hjm := List.mem_range.mp hj1
    unfold hit at hj2
    cases e : T (1 + j) with
    | none => rw [e] at hj2; cases hj2
    | some q =>
      obtain ⟨x, y⟩ := q
      rw [e] at hj2
      simp only [Bool.and_eq_true, decide_eq_true_eq] at hj2
      obtain ⟨rfl, rfl⟩ := hj2
      have hl := X.liftT (by omega) (by omega) e
      rw [hl, e]
      dsimp only
      rw [← e, hB]
      have h0 := Int.emod_nonneg ((s * (1 + (j : Int)) - word) * (invF m).getD x.toNat 0) (Int.ne_of_gt m0)
      have h1 := Int.emod_lt_of_pos ((s * (1 + (j : Int)) - word) * (invF m).getD x.toNat 0) m0
      obtain ⟨z, hz⟩ := mod_ex (a := (s * (1 + (j : Int)) - word) * (invF m).getD x.toNat 0) (m := m)
      refine X.recT (by omega) _ _ (z := z) ?_ h0 h1
      rw [hz]
      have e3 : (((1 + j : Nat) : Int)) = 1 + (j : Int) := by omega
      rw [e3]
      grind
noncomputable def wild_tail : PSs := (.cons (.ret (.cmp (.call 10 (.cons (.var 6) (.cons (.var 53) (.cons (.var 26) (.cons (.var 31) (.cons (.var 35) .nil)))))) [.Eq] (.cons (.var 7) .nil))) .nil)
theorem wild_end (n : Nat) {p b m : Nat} {pts : List (Int × Int)} {T : Nat → Pt} (X : Tab p b m pts T) {st : St} {word par r s : Int} {loc : Loc} {Q : Ends} (b2 : Bd word)
    (l6 : look loc 6 = some (.curve p b (pt (T 1)) m)) (l53 : look loc 53 = some (.int word)) (l26 : look loc 26 = some (.int par)) (l31 : look loc 31 = some (.int r)) (l35 : look loc 35 = some (.int s))
    (l7 : look loc 7 = some (pt (recG p b m (T 1) word par r s)))
    (h : ∀ loc, Q (some (.bool true)) loc st) : execsW ⟨callW (n + 5), globV⟩ wild_tail loc st Q := by
  have hm3 := X.m3
  have hm100 := X.m100
  have hp3 := X.p3
  unfold wild_tail
  (repeat (first | (with_reducible first | refine ct_none ?_ | refine ct_some ?_ | refine ex_cons ?_ | refine ex_nil ?_ | refine ite_dec ?_ | refine ite_ndec ?_ | refine and_le rfl ?_ | refine and_tr ?_) | dsimp only [fnW, bindNames, bindNest, upd, look, Nat.reduceBEq, cond_true, cond_false, execW, evalW, evalsW, orW, andW, chainW, bt_name, bt_names, bt_swap, bt_nest, cw_eq, cw_ne, cw_lt, cw_le, cw_gt, cw_ge, cw_is_nn, cw_is_tn, cw_isnot_nn, cw_isnot_tn, bw_add, bw_sub, bw_mul, bw_mod, bw_fdiv, bw_pow, bw_lsh, bw_rsh, bw_and, tob_bool, toi_int, ite_tt, ite_ff, ln1, ln0, gd1, gd0, rev2, rev3, ap0, ap1, not_t, not_f, at_p, at_b, at_g, at_n, isCurve_curve, Nat.reduceAdd, sub_tup, pl0_2, pl1_2, pl0_3, pl1_3, pl2_3, gc1, gc0] | (refine' lk_m ?lk ?_; (case lk => (repeat' first | (show look _ _ = _; with_reducible assumption) | exact lk_eq | exact rfl | refine' lk_ne ?_ (by rfl))))))
  refine c_recovered (n + 1) (by omega) X.bp (by omega) X.bm (X.bdp (by omega)) b2 ?_
  (repeat (first | (with_reducible first | refine ct_none ?_ | refine ct_some ?_ | refine ex_cons ?_ | refine ex_nil ?_ | refine ite_dec ?_ | refine ite_ndec ?_ | refine and_le rfl ?_ | refine and_tr ?_) | dsimp only [fnW, bindNames, bindNest, upd, look, Nat.reduceBEq, cond_true, cond_false, execW, evalW, evalsW, orW, andW, chainW, bt_name, bt_names, bt_swap, bt_nest, cw_eq, cw_ne, cw_lt, cw_le, cw_gt, cw_ge, cw_is_nn, cw_is_tn, cw_isnot_nn, cw_isnot_tn, bw_add, bw_sub, bw_mul, bw_mod, bw_fdiv, bw_pow, bw_lsh, bw_rsh, bw_and, tob_bool, toi_int, ite_tt, ite_ff, ln1, ln0, gd1, gd0, rev2, rev3, ap0, ap1, not_t, not_f, at_p, at_b, at_g, at_n, isCurve_curve, Nat.reduceAdd, sub_tup, pl0_2, pl1_2, pl0_3, pl1_3, pl2_3, gc1, gc0] | (refine' lk_m ?lk ?_; (case lk => (repeat' first | (show look _ _ = _; with_reducible assumption) | exact lk_eq | exact rfl | refine' lk_ne ?_ (by rfl))))))
  rw [cw_eq_pt]
  (repeat (first | (with_reducible first | refine ct_none ?_ | refine ct_some ?_ | refine ex_cons ?_ | refine ex_nil ?_ | refine ite_dec ?_ | refine ite_ndec ?_ | refine and_le rfl ?_ | refine and_tr ?_) | dsimp only [fnW, bindNames, bindNest, upd, look, Nat.reduceBEq, cond_true, cond_false, execW, evalW, evalsW, orW, andW, chainW, bt_name, bt_names, bt_swap, bt_nest, cw_eq, cw_ne, cw_lt, cw_le, cw_gt, cw_ge, cw_is_nn, cw_is_tn, cw_isnot_nn, cw_isnot_tn, bw_add, bw_sub, bw_mul, bw_mod, bw_fdiv, bw_pow, bw_lsh, bw_rsh, bw_and, tob_bool, toi_int, ite_tt, ite_ff, ln1, ln0, gd1, gd0, rev2, rev3, ap0, ap1, not_t, not_f, at_p, at_b, at_g, at_n, isCurve_curve, Nat.reduceAdd, sub_tup, pl0_2, pl1_2, pl0_3, pl1_3, pl2_3, gc1, gc0] | (refine' lk_m ?lk ?_; (case lk => (repeat' first | (show look _ _ = _; with_reducible assumption) | exact lk_eq | exact rfl | refine' lk_ne ?_ (by rfl))))))
  exact h _
theorem c_wild (n : Nat) {p b m : Nat} {pts : List (Int × Int)} {T : Nat → Pt} (X : Tab p b m pts T) {w t v : Nat} {st : St} {Q : AV → St → Prop} (W : WellOk w st) (ht : st[t]? = some (tb m T)) (htw : t ≠ w) (hv : st[v]? = some ((invF m).map .int)) (hvw : v ≠ w)
    (h : ∀ st', WellOk w st' → Ext w st st' → Q (.bool true) st') : callW (n + 6) 23 [.lst w, .curve p b (pt (T 1)) m, .lst t, .lst v] st Q := by
  have hm3 := X.m3
  have hm100 := X.m100
  have hp3 := X.p3
  have m0 : (0 : Int) < m := by omega
  refine callW_fn (by decide) (by decide) (by decide) rfl ?_
  delta a_law_wild_right b_law_wild_right
  show fnW _ _ (.cons _ (.cons _ (.cons _ wild_tail))) _ _ _
  (repeat (first | (with_reducible first | refine ct_none ?_ | refine ct_some ?_ | refine ex_cons ?_ | refine ex_nil ?_ | refine ite_dec ?_ | refine ite_ndec ?_ | refine and_le rfl ?_ | refine and_tr ?_) | dsimp only [fnW, bindNames, bindNest, upd, look, Nat.reduceBEq, cond_true, cond_false, execW, evalW, evalsW, orW, andW, chainW, bt_name, bt_names, bt_swap, bt_nest, cw_eq, cw_ne, cw_lt, cw_le, cw_gt, cw_ge, cw_is_nn, cw_is_tn, cw_isnot_nn, cw_isnot_tn, bw_add, bw_sub, bw_mul, bw_mod, bw_fdiv, bw_pow, bw_lsh, bw_rsh, bw_and, tob_bool, toi_int, ite_tt, ite_ff, ln1, ln0, gd1, gd0, rev2, rev3, ap0, ap1, not_t, not_f, at_p, at_b, at_g, at_n, isCurve_curve, Nat.reduceAdd, sub_tup, pl0_2, pl1_2, pl0_3, pl1_3, pl2_3, gc1, gc0, itW, rw_int]))
  refine c_len (n + 4) ht (by rw [tb_len]; omega) ?_
  rw [tb_len]
  (repeat (first | (with_reducible first | refine ct_none ?_ | refine ct_some ?_ | refine ex_cons ?_ | refine ex_nil ?_ | refine ite_dec ?_ | refine ite_ndec ?_ | refine and_le rfl ?_ | refine and_tr ?_) | dsimp only [fnW, bindNames, bindNest, upd, look, Nat.reduceBEq, cond_true, cond_false, execW, evalW, evalsW, orW, andW, chainW, bt_name, bt_names, bt_swap, bt_nest, cw_eq, cw_ne, cw_lt, cw_le, cw_gt, cw_ge, cw_is_nn, cw_is_tn, cw_isnot_nn, cw_isnot_tn, bw_add, bw_sub, bw_mul, bw_mod, bw_fdiv, bw_pow, bw_lsh, bw_rsh, bw_and, tob_bool, toi_int, ite_tt, ite_ff, ln1, ln0, gd1, gd0, rev2, rev3, ap0, ap1, not_t, not_f, at_p, at_b, at_g, at_n, isCurve_curve, Nat.reduceAdd, sub_tup, pl0_2, pl1_2, pl0_3, pl1_3, pl2_3, gc1, gc0]))
  refine c_len (n + 4) ht (by rw [tb_len]; omega) ?_
  rw [tb_len]
  (repeat (first | (with_reducible first | refine ct_none ?_ | refine ct_some ?_ | refine ex_cons ?_ | refine ex_nil ?_ | refine ite_dec ?_ | refine ite_ndec ?_ | refine and_le rfl ?_ | refine and_tr ?_) | dsimp only [fnW, bindNames, bindNest, upd, look, Nat.reduceBEq, cond_true, cond_false, execW, evalW, evalsW, orW, andW, chainW, bt_name, bt_names, bt_swap, bt_nest, cw_eq, cw_ne, cw_lt, cw_le, cw_gt, cw_ge, cw_is_nn, cw_is_tn, cw_isnot_nn, cw_isnot_tn, bw_add, bw_sub, bw_mul, bw_mod, bw_fdiv, bw_pow, bw_lsh, bw_rsh, bw_and, tob_bool, toi_int, ite_tt, ite_ff, ln1, ln0, gd1, gd0, rev2, rev3, ap0, ap1, not_t, not_f, at_p, at_b, at_g, at_n, isCurve_curve, Nat.reduceAdd, sub_tup, pl0_2, pl1_2, pl0_3, pl1_3, pl2_3, gc1, gc0]))
  refine c_word (n + 2) W (by omega) (by omega) fun word st1 bw W1 X1 => ?_
  (repeat (first | (with_reducible first | refine ct_none ?_ | refine ct_some ?_ | refine ex_cons ?_ | refine ex_nil ?_ | refine ite_dec ?_ | refine ite_ndec ?_ | refine and_le rfl ?_ | refine and_tr ?_) | dsimp only [fnW, bindNames, bindNest, upd, look, Nat.reduceBEq, cond_true, cond_false, execW, evalW, evalsW, orW, andW, chainW, bt_name, bt_names, bt_swap, bt_nest, cw_eq, cw_ne, cw_lt, cw_le, cw_gt, cw_ge, cw_is_nn, cw_is_tn, cw_isnot_nn, cw_isnot_tn, bw_add, bw_sub, bw_mul, bw_mod, bw_fdiv, bw_pow, bw_lsh, bw_rsh, bw_and, tob_bool, toi_int, ite_tt, ite_ff, ln1, ln0, gd1, gd0, rev2, rev3, ap0, ap1, not_t, not_f, at_p, at_b, at_g, at_n, isCurve_curve, Nat.reduceAdd, sub_tup, pl0_2, pl1_2, pl0_3, pl1_3, pl2_3, gc1, gc0]))
  (repeat (first | (with_reducible refine And.intro (by first | with_reducible assumption | (refine Bn.small ?_; (repeat' first | (with_reducible refine Bn.base ?_; with_reducible assumption) | with_reducible refine Bn.mul ?_ ?_ | with_reducible refine Bn.add ?_ ?_ | with_reducible refine Bn.sub ?_ ?_ | with_reducible refine Bn.neg ?_ | (with_reducible refine Bn.mod ?_ (by with_reducible assumption); first | with_reducible assumption | omega) | exact Bn.lit (by decide)); done) | omega) ?_) | (with_reducible first | refine ct_none ?_ | refine ct_some ?_ | refine ex_cons ?_ | refine ex_nil ?_ | refine ite_dec ?_ | refine ite_ndec ?_ | refine and_le rfl ?_ | refine and_tr ?_) | dsimp only [fnW, bindNames, bindNest, upd, look, Nat.reduceBEq, cond_true, cond_false, execW, evalW, evalsW, orW, andW, chainW, bt_name, bt_names, bt_swap, bt_nest, cw_eq, cw_ne, cw_lt, cw_le, cw_gt, cw_ge, cw_is_nn, cw_is_tn, cw_isnot_nn, cw_isnot_tn, bw_add, bw_sub, bw_mul, bw_mod, bw_fdiv, bw_pow, bw_lsh, bw_rsh, bw_and, tob_bool, toi_int, ite_tt, ite_ff, ln1, ln0, gd1, gd0, rev2, rev3, ap0, ap1, not_t, not_f, at_p, at_b, at_g, at_n, isCurve_curve, Nat.reduceAdd, sub_tup, pl0_2, pl1_2, pl0_3, pl1_3, pl2_3, gc1, gc0]))
  refine c_draw (n + 3) W1 (by decide) fun par0 st2 p0 p1 W2 X2 _ => ?_
  (repeat (first | (with_reducible first | refine ct_none ?_ | refine ct_some ?_ | refine ex_cons ?_ | refine ex_nil ?_ | refine ite_dec ?_ | refine ite_ndec ?_ | refine and_le rfl ?_ | refine and_tr ?_) | dsimp only [fnW, bindNames, bindNest, upd, look, Nat.reduceBEq, cond_true, cond_false, execW, evalW, evalsW, orW, andW, chainW, bt_name, bt_names, bt_swap, bt_nest, cw_eq, cw_ne, cw_lt, cw_le, cw_gt, cw_ge, cw_is_nn, cw_is_tn, cw_isnot_nn, cw_isnot_tn, bw_add, bw_sub, bw_mul, bw_mod, bw_fdiv, bw_pow, bw_lsh, bw_rsh, bw_and, tob_bool, toi_int, ite_tt, ite_ff, ln1, ln0, gd1, gd0, rev2, rev3, ap0, ap1, not_t, not_f, at_p, at_b, at_g, at_n, isCurve_curve, Nat.reduceAdd, sub_tup, pl0_2, pl1_2, pl0_3, pl1_3, pl2_3, gc1, gc0]))
  refine c_draw (n + 3) W2 (by omega) fun r0 st3 r00 r01 W3 X3 _ => ?_
  (repeat (first | (with_reducible first | refine ct_none ?_ | refine ct_some ?_ | refine ex_cons ?_ | refine ex_nil ?_ | refine ite_dec ?_ | refine ite_ndec ?_ | refine and_le rfl ?_ | refine and_tr ?_) | dsimp only [fnW, bindNames, bindNest, upd, look, Nat.reduceBEq, cond_true, cond_false, execW, evalW, evalsW, orW, andW, chainW, bt_name, bt_names, bt_swap, bt_nest, cw_eq, cw_ne, cw_lt, cw_le, cw_gt, cw_ge, cw_is_nn, cw_is_tn, cw_isnot_nn, cw_isnot_tn, bw_add, bw_sub, bw_mul, bw_mod, bw_fdiv, bw_pow, bw_lsh, bw_rsh, bw_and, tob_bool, toi_int, ite_tt, ite_ff, ln1, ln0, gd1, gd0, rev2, rev3, ap0, ap1, not_t, not_f, at_p, at_b, at_g, at_n, isCurve_curve, Nat.reduceAdd, sub_tup, pl0_2, pl1_2, pl0_3, pl1_3, pl2_3, gc1, gc0]))
  refine c_draw (n + 3) W3 (by omega) fun s0 st4 s00 s01 W4 X4 _ => ?_
  have X04 := ((X1.trans X2).trans X3).trans X4
  have ht4 := X04 _ _ htw ht
  have hv4 := X04 _ _ hvw hv
  (repeat (first | (with_reducible first | refine ct_none ?_ | refine ct_some ?_ | refine ex_cons ?_ | refine ex_nil ?_ | refine ite_dec ?_ | refine ite_ndec ?_ | refine and_le rfl ?_ | refine and_tr ?_) | dsimp only [fnW, bindNames, bindNest, upd, look, Nat.reduceBEq, cond_true, cond_false, execW, evalW, evalsW, orW, andW, chainW, bt_name, bt_names, bt_swap, bt_nest, cw_eq, cw_ne, cw_lt, cw_le, cw_gt, cw_ge, cw_is_nn, cw_is_tn, cw_isnot_nn, cw_isnot_tn, bw_add, bw_sub, bw_mul, bw_mod, bw_fdiv, bw_pow, bw_lsh, bw_rsh, bw_and, tob_bool, toi_int, ite_tt, ite_ff, ln1, ln0, gd1, gd0, rev2, rev3, ap0, ap1, not_t, not_f, at_p, at_b, at_g, at_n, isCurve_curve, Nat.reduceAdd, sub_tup, pl0_2, pl1_2, pl0_3, pl1_3, pl2_3, gc1, gc0, itW, rw_int] | simp only [cw_in01]))
  generalize hpar : par0 - 1 = par
  generalize hr : r0 - 1 = r
  generalize hs : s0 - 1 = s
  have br : Bd r := bd_int (by omega) (by omega)
  have bs : Bd s := bd_int (by omega) (by omega)
  have fin := fun (st' : St) (W' : WellOk w st') (X' : Ext w st4 st') (loc : Loc) l6 l53 l26 l31 l35 l7 => wild_end n X (st := st') (word := word) (par := par) (r := r) (s := s) (loc := loc) bw l6 l53 l26 l31 l35 l7 (Q := fun r _ st' => Q (r.getD .none) st') (fun _ => h st' W' (X04.trans X'))
  have none_of : ¬ (par = 0 ∨ par = 1) ∨ ¬ (0 < r ∧ r < m) ∨ ¬ (0 < s ∧ s < m) → recG p b m (T 1) word par r s = Option.none := fun hc => by unfold recG; exact if_pos hc
  by_cases c1 : par = 0 ∨ par = 1
  · have d1 : (decide (par = 0) || decide (par = 1)) = true := by rcases c1 with q | q <;> rw [q] <;> rfl
    rw [d1]; (repeat (first | (with_reducible first | refine ct_none ?_ | refine ct_some ?_ | refine ex_cons ?_ | refine ex_nil ?_ | refine ite_dec ?_ | refine ite_ndec ?_ | refine and_le rfl ?_ | refine and_tr ?_) | dsimp only [fnW, bindNames, bindNest, upd, look, Nat.reduceBEq, cond_true, cond_false, execW, evalW, evalsW, orW, andW, chainW, bt_name, bt_names, bt_swap, bt_nest, cw_eq, cw_ne, cw_lt, cw_le, cw_gt, cw_ge, cw_is_nn, cw_is_tn, cw_isnot_nn, cw_isnot_tn, bw_add, bw_sub, bw_mul, bw_mod, bw_fdiv, bw_pow, bw_lsh, bw_rsh, bw_and, tob_bool, toi_int, ite_tt, ite_ff, ln1, ln0, gd1, gd0, rev2, rev3, ap0, ap1, not_t, not_f, at_p, at_b, at_g, at_n, isCurve_curve, Nat.reduceAdd, sub_tup, pl0_2, pl1_2, pl0_3, pl1_3, pl2_3, gc1, gc0, itW, rw_int]))
    by_cases c2 : 0 < r ∧ r < m
    · refine br_t (c2.1) ?_; (repeat (first | (with_reducible first | refine ct_none ?_ | refine ct_some ?_ | refine ex_cons ?_ | refine ex_nil ?_ | refine ite_dec ?_ | refine ite_ndec ?_ | refine and_le rfl ?_ | refine and_tr ?_) | dsimp only [fnW, bindNames, bindNest, upd, look, Nat.reduceBEq, cond_true, cond_false, execW, evalW, evalsW, orW, andW, chainW, bt_name, bt_names, bt_swap, bt_nest, cw_eq, cw_ne, cw_lt, cw_le, cw_gt, cw_ge, cw_is_nn, cw_is_tn, cw_isnot_nn, cw_isnot_tn, bw_add, bw_sub, bw_mul, bw_mod, bw_fdiv, bw_pow, bw_lsh, bw_rsh, bw_and, tob_bool, toi_int, ite_tt, ite_ff, ln1, ln0, gd1, gd0, rev2, rev3, ap0, ap1, not_t, not_f, at_p, at_b, at_g, at_n, isCurve_curve, Nat.reduceAdd, sub_tup, pl0_2, pl1_2, pl0_3, pl1_3, pl2_3, gc1, gc0])); refine br_t (c2.2) ?_; (repeat (first | (with_reducible first | refine ct_none ?_ | refine ct_some ?_ | refine ex_cons ?_ | refine ex_nil ?_ | refine ite_dec ?_ | refine ite_ndec ?_ | refine and_le rfl ?_ | refine and_tr ?_) | dsimp only [fnW, bindNames, bindNest, upd, look, Nat.reduceBEq, cond_true, cond_false, execW, evalW, evalsW, orW, andW, chainW, bt_name, bt_names, bt_swap, bt_nest, cw_eq, cw_ne, cw_lt, cw_le, cw_gt, cw_ge, cw_is_nn, cw_is_tn, cw_isnot_nn, cw_isnot_tn, bw_add, bw_sub, bw_mul, bw_mod, bw_fdiv, bw_pow, bw_lsh, bw_rsh, bw_and, tob_bool, toi_int, ite_tt, ite_ff, ln1, ln0, gd1, gd0, rev2, rev3, ap0, ap1, not_t, not_f, at_p, at_b, at_g, at_n, isCurve_curve, Nat.reduceAdd, sub_tup, pl0_2, pl1_2, pl0_3, pl1_3, pl2_3, gc1, gc0]))
      by_cases c3 : 0 < s ∧ s < m
      · refine br_t (c3.1) ?_; (repeat (first | (with_reducible first | refine ct_none ?_ | refine ct_some ?_ | refine ex_cons ?_ | refine ex_nil ?_ | refine ite_dec ?_ | refine ite_ndec ?_ | refine and_le rfl ?_ | refine and_tr ?_) | dsimp only [fnW, bindNames, bindNest, upd, look, Nat.reduceBEq, cond_true, cond_false, execW, evalW, evalsW, orW, andW, chainW, bt_name, bt_names, bt_swap, bt_nest, cw_eq, cw_ne, cw_lt, cw_le, cw_gt, cw_ge, cw_is_nn, cw_is_tn, cw_isnot_nn, cw_isnot_tn, bw_add, bw_sub, bw_mul, bw_mod, bw_fdiv, bw_pow, bw_lsh, bw_rsh, bw_and, tob_bool, toi_int, ite_tt, ite_ff, ln1, ln0, gd1, gd0, rev2, rev3, ap0, ap1, not_t, not_f, at_p, at_b, at_g, at_n, isCurve_curve, Nat.reduceAdd, sub_tup, pl0_2, pl1_2, pl0_3, pl1_3, pl2_3, gc1, gc0])); refine br_t (c3.2) ?_; (repeat (first | (with_reducible first | refine ct_none ?_ | refine ct_some ?_ | refine ex_cons ?_ | refine ex_nil ?_ | refine ite_dec ?_ | refine ite_ndec ?_ | refine and_le rfl ?_ | refine and_tr ?_) | dsimp only [fnW, bindNames, bindNest, upd, look, Nat.reduceBEq, cond_true, cond_false, execW, evalW, evalsW, orW, andW, chainW, bt_name, bt_names, bt_swap, bt_nest, cw_eq, cw_ne, cw_lt, cw_le, cw_gt, cw_ge, cw_is_nn, cw_is_tn, cw_isnot_nn, cw_isnot_tn, bw_add, bw_sub, bw_mul, bw_mod, bw_fdiv, bw_pow, bw_lsh, bw_rsh, bw_and, tob_bool, toi_int, ite_tt, ite_ff, ln1, ln0, gd1, gd0, rev2, rev3, ap0, ap1, not_t, not_f, at_p, at_b, at_g, at_n, isCurve_curve, Nat.reduceAdd, sub_tup, pl0_2, pl1_2, pl0_3, pl1_3, pl2_3, gc1, gc0]))
        rw [X.rec_wild c1 c2 c3] at fin
        (repeat (first | (with_reducible first | refine ct_none ?_ | refine ct_some ?_ | refine ex_cons ?_ | refine ex_nil ?_ | refine ite_dec ?_ | refine ite_ndec ?_ | refine and_le rfl ?_ | refine and_tr ?_) | dsimp only [fnW, bindNames, bindNest, upd, look, Nat.reduceBEq, cond_true, cond_false, execW, evalW, evalsW, orW, andW, chainW, bt_name, bt_names, bt_swap, bt_nest, cw_eq, cw_ne, cw_lt, cw_le, cw_gt, cw_ge, cw_is_nn, cw_is_tn, cw_isnot_nn, cw_isnot_tn, bw_add, bw_sub, bw_mul, bw_mod, bw_fdiv, bw_pow, bw_lsh, bw_rsh, bw_and, tob_bool, toi_int, ite_tt, ite_ff, ln1, ln0, gd1, gd0, rev2, rev3, ap0, ap1, not_t, not_f, at_p, at_b, at_g, at_n, isCurve_curve, Nat.reduceAdd, sub_tup, pl0_2, pl1_2, pl0_3, pl1_3, pl2_3, gc1, gc0, itW, rw_int, capture, andW']))
        (repeat (first | (with_reducible refine And.intro (by first | with_reducible assumption | (refine Bn.small ?_; (repeat' first | (with_reducible refine Bn.base ?_; with_reducible assumption) | with_reducible refine Bn.mul ?_ ?_ | with_reducible refine Bn.add ?_ ?_ | with_reducible refine Bn.sub ?_ ?_ | with_reducible refine Bn.neg ?_ | (with_reducible refine Bn.mod ?_ (by with_reducible assumption); first | with_reducible assumption | omega) | exact Bn.lit (by decide)); done) | omega) ?_) | (with_reducible first | refine ct_none ?_ | refine ct_some ?_ | refine ex_cons ?_ | refine ex_nil ?_ | refine ite_dec ?_ | refine ite_ndec ?_ | refine and_le rfl ?_ | refine and_tr ?_) | dsimp only [fnW, bindNames, bindNest, upd, look, Nat.reduceBEq, cond_true, cond_false, execW, evalW, evalsW, orW, andW, chainW, bt_name, bt_names, bt_swap, bt_nest, cw_eq, cw_ne, cw_lt, cw_le, cw_gt, cw_ge, cw_is_nn, cw_is_tn, cw_isnot_nn, cw_isnot_tn, bw_add, bw_sub, bw_mul, bw_mod, bw_fdiv, bw_pow, bw_lsh, bw_rsh, bw_and, tob_bool, toi_int, ite_tt, ite_ff, ln1, ln0, gd1, gd0, rev2, rev3, ap0, ap1, not_t, not_f, at_p, at_b, at_g, at_n, isCurve_curve, Nat.reduceAdd, sub_tup, pl0_2, pl1_2, pl0_3, pl1_3, pl2_3, gc1, gc0]))
        refine loopW_inv (fun i st' => st' = st4 ++ [(plc T r par i).map .int]) (by simp [plc]) ?_ ?_
        · rintro i u st' K' hu rfl hK
          obtain ⟨hi, rfl⟩ := ri_get hu
          refine ⟨trivial, ?_⟩
          have ht5 := getElem?_prefix (r := [(plc T r par i).map AV.int]) ht4
          (repeat (first | (with_reducible first | refine ct_none ?_ | refine ct_some ?_ | refine ex_cons ?_ | refine ex_nil ?_ | refine ite_dec ?_ | refine ite_ndec ?_ | refine and_le rfl ?_ | refine and_tr ?_) | dsimp only [fnW, bindNames, bindNest, upd, look, Nat.reduceBEq, cond_true, cond_false, execW, evalW, evalsW, orW, andW, chainW, bt_name, bt_names, bt_swap, bt_nest, cw_eq, cw_ne, cw_lt, cw_le, cw_gt, cw_ge, cw_is_nn, cw_is_tn, cw_isnot_nn, cw_isnot_tn, bw_add, bw_sub, bw_mul, bw_mod, bw_fdiv, bw_pow, bw_lsh, bw_rsh, bw_and, tob_bool, toi_int, ite_tt, ite_ff, ln1, ln0, gd1, gd0, rev2, rev3, ap0, ap1, not_t, not_f, at_p, at_b, at_g, at_n, isCurve_curve, Nat.reduceAdd, sub_tup, pl0_2, pl1_2, pl0_3, pl1_3, pl2_3, gc1, gc0]))
          refine sub_tb ht5 (by omega) (by omega) hm100 ?_
          have hpl := plc_len T r par i
          have hsu := plc_succ T r par i
          obtain ⟨x, y, e, hx, hy⟩ := X.som ((1 + (i : Int)).toNat) (by omega) (by omega)
          have e' : T (1 + i) = some ((x : Int), (y : Int)) := by rw [← e]; rfl
          rw [e]
          (repeat (first | (with_reducible first | refine ct_none ?_ | refine ct_some ?_ | refine ex_cons ?_ | refine ex_nil ?_ | refine ite_dec ?_ | refine ite_ndec ?_ | refine and_le rfl ?_ | refine and_tr ?_) | dsimp only [fnW, bindNames, bindNest, upd, look, Nat.reduceBEq, cond_true, cond_false, execW, evalW, evalsW, orW, andW, chainW, bt_name, bt_names, bt_swap, bt_nest, cw_eq, cw_ne, cw_lt, cw_le, cw_gt, cw_ge, cw_is_nn, cw_is_tn, cw_isnot_nn, cw_isnot_tn, bw_add, bw_sub, bw_mul, bw_mod, bw_fdiv, bw_pow, bw_lsh, bw_rsh, bw_and, tob_bool, toi_int, ite_tt, ite_ff, ln1, ln0, gd1, gd0, rev2, rev3, ap0, ap1, not_t, not_f, at_p, at_b, at_g, at_n, isCurve_curve, Nat.reduceAdd, sub_tup, pl0_2, pl1_2, pl0_3, pl1_3, pl2_3, gc1, gc0, pt_some]))
          have hh : hit T r par i = (decide ((x : Int) = r) && decide ((y : Int) % 2 = par)) := by unfold hit; rw [e']
          by_cases q1 : (x : Int) = r
          · refine br_t (q1) ?_; (repeat (first | (with_reducible first | refine ct_none ?_ | refine ct_some ?_ | refine ex_cons ?_ | refine ex_nil ?_ | refine ite_dec ?_ | refine ite_ndec ?_ | refine and_le rfl ?_ | refine and_tr ?_) | dsimp only [fnW, bindNames, bindNest, upd, look, Nat.reduceBEq, cond_true, cond_false, execW, evalW, evalsW, orW, andW, chainW, bt_name, bt_names, bt_swap, bt_nest, cw_eq, cw_ne, cw_lt, cw_le, cw_gt, cw_ge, cw_is_nn, cw_is_tn, cw_isnot_nn, cw_isnot_tn, bw_add, bw_sub, bw_mul, bw_mod, bw_fdiv, bw_pow, bw_lsh, bw_rsh, bw_and, tob_bool, toi_int, ite_tt, ite_ff, ln1, ln0, gd1, gd0, rev2, rev3, ap0, ap1, not_t, not_f, at_p, at_b, at_g, at_n, isCurve_curve, Nat.reduceAdd, sub_tup, pl0_2, pl1_2, pl0_3, pl1_3, pl2_3, gc1, gc0]))
            refine sub_tb ht5 (by omega) (by omega) hm100 ?_
            rw [e]
            (repeat (first | (with_reducible first | refine ct_none ?_ | refine ct_some ?_ | refine ex_cons ?_ | refine ex_nil ?_ | refine ite_dec ?_ | refine ite_ndec ?_ | refine and_le rfl ?_ | refine and_tr ?_) | dsimp only [fnW, bindNames, bindNest, upd, look, Nat.reduceBEq, cond_true, cond_false, execW, evalW, evalsW, orW, andW, chainW, bt_name, bt_names, bt_swap, bt_nest, cw_eq, cw_ne, cw_lt, cw_le, cw_gt, cw_ge, cw_is_nn, cw_is_tn, cw_isnot_nn, cw_isnot_tn, bw_add, bw_sub, bw_mul, bw_mod, bw_fdiv, bw_pow, bw_lsh, bw_rsh, bw_and, tob_bool, toi_int, ite_tt, ite_ff, ln1, ln0, gd1, gd0, rev2, rev3, ap0, ap1, not_t, not_f, at_p, at_b, at_g, at_n, isCurve_curve, Nat.reduceAdd, sub_tup, pl0_2, pl1_2, pl0_3, pl1_3, pl2_3, gc1, gc0, pt_some]))
            (repeat (first | (with_reducible refine And.intro (by first | with_reducible assumption | (refine Bn.small ?_; (repeat' first | (with_reducible refine Bn.base ?_; with_reducible assumption) | with_reducible refine Bn.mul ?_ ?_ | with_reducible refine Bn.add ?_ ?_ | with_reducible refine Bn.sub ?_ ?_ | with_reducible refine Bn.neg ?_ | (with_reducible refine Bn.mod ?_ (by with_reducible assumption); first | with_reducible assumption | omega) | exact Bn.lit (by decide)); done) | omega) ?_) | (with_reducible first | refine ct_none ?_ | refine ct_some ?_ | refine ex_cons ?_ | refine ex_nil ?_ | refine ite_dec ?_ | refine ite_ndec ?_ | refine and_le rfl ?_ | refine and_tr ?_) | dsimp only [fnW, bindNames, bindNest, upd, look, Nat.reduceBEq, cond_true, cond_false, execW, evalW, evalsW, orW, andW, chainW, bt_name, bt_names, bt_swap, bt_nest, cw_eq, cw_ne, cw_lt, cw_le, cw_gt, cw_ge, cw_is_nn, cw_is_tn, cw_isnot_nn, cw_isnot_tn, bw_add, bw_sub, bw_mul, bw_mod, bw_fdiv, bw_pow, bw_lsh, bw_rsh, bw_and, tob_bool, toi_int, ite_tt, ite_ff, ln1, ln0, gd1, gd0, rev2, rev3, ap0, ap1, not_t, not_f, at_p, at_b, at_g, at_n, isCurve_curve, Nat.reduceAdd, sub_tup, pl0_2, pl1_2, pl0_3, pl1_3, pl2_3, gc1, gc0]))
            by_cases q2 : (y : Int) % 2 = par
            · refine br_t (q2) ?_; (repeat (first | (with_reducible first | refine ct_none ?_ | refine ct_some ?_ | refine ex_cons ?_ | refine ex_nil ?_ | refine ite_dec ?_ | refine ite_ndec ?_ | refine and_le rfl ?_ | refine and_tr ?_) | dsimp only [fnW, bindNames, bindNest, upd, look, Nat.reduceBEq, cond_true, cond_false, execW, evalW, evalsW, orW, andW, chainW, bt_name, bt_names, bt_swap, bt_nest, cw_eq, cw_ne, cw_lt, cw_le, cw_gt, cw_ge, cw_is_nn, cw_is_tn, cw_isnot_nn, cw_isnot_tn, bw_add, bw_sub, bw_mul, bw_mod, bw_fdiv, bw_pow, bw_lsh, bw_rsh, bw_and, tob_bool, toi_int, ite_tt, ite_ff, ln1, ln0, gd1, gd0, rev2, rev3, ap0, ap1, not_t, not_f, at_p, at_b, at_g, at_n, isCurve_curve, Nat.reduceAdd, sub_tup, pl0_2, pl1_2, pl0_3, pl1_3, pl2_3, gc1, gc0]))
              refine ap_lst (gl _ _) (by rw [List.length_map]; omega) (hK _ ?_)
              rw [sl, hsu, hh, q1, q2]
              simp
            · refine br_f (q2) ?_; (repeat (first | (with_reducible first | refine ct_none ?_ | refine ct_some ?_ | refine ex_cons ?_ | refine ex_nil ?_ | refine ite_dec ?_ | refine ite_ndec ?_ | refine and_le rfl ?_ | refine and_tr ?_) | dsimp only [fnW, bindNames, bindNest, upd, look, Nat.reduceBEq, cond_true, cond_false, execW, evalW, evalsW, orW, andW, chainW, bt_name, bt_names, bt_swap, bt_nest, cw_eq, cw_ne, cw_lt, cw_le, cw_gt, cw_ge, cw_is_nn, cw_is_tn, cw_isnot_nn, cw_isnot_tn, bw_add, bw_sub, bw_mul, bw_mod, bw_fdiv, bw_pow, bw_lsh, bw_rsh, bw_and, tob_bool, toi_int, ite_tt, ite_ff, ln1, ln0, gd1, gd0, rev2, rev3, ap0, ap1, not_t, not_f, at_p, at_b, at_g, at_n, isCurve_curve, Nat.reduceAdd, sub_tup, pl0_2, pl1_2, pl0_3, pl1_3, pl2_3, gc1, gc0]))
              refine hK _ ?_
              rw [hsu, hh]
              simp [q2]
          · refine br_f (q1) ?_; (repeat (first | (with_reducible first | refine ct_none ?_ | refine ct_some ?_ | refine ex_cons ?_ | refine ex_nil ?_ | refine ite_dec ?_ | refine ite_ndec ?_ | refine and_le rfl ?_ | refine and_tr ?_) | dsimp only [fnW, bindNames, bindNest, upd, look, Nat.reduceBEq, cond_true, cond_false, execW, evalW, evalsW, orW, andW, chainW, bt_name, bt_names, bt_swap, bt_nest, cw_eq, cw_ne, cw_lt, cw_le, cw_gt, cw_ge, cw_is_nn, cw_is_tn, cw_isnot_nn, cw_isnot_tn, bw_add, bw_sub, bw_mul, bw_mod, bw_fdiv, bw_pow, bw_lsh, bw_rsh, bw_and, tob_bool, toi_int, ite_tt, ite_ff, ln1, ln0, gd1, gd0, rev2, rev3, ap0, ap1, not_t, not_f, at_p, at_b, at_g, at_n, isCurve_curve, Nat.reduceAdd, sub_tup, pl0_2, pl1_2, pl0_3, pl1_3, pl2_3, gc1, gc0]))
            refine hK _ ?_
            rw [hsu, hh]
            simp [q1]
        · rintro st' rfl
          rw [ri_len]
          have e0 : ((m : Int) - 1).toNat = m - 1 := by omega
          rw [e0]
          refine ⟨trivial, ?_⟩
          (repeat (first | (with_reducible first | refine ct_none ?_ | refine ct_some ?_ | refine ex_cons ?_ | refine ex_nil ?_ | refine ite_dec ?_ | refine ite_ndec ?_ | refine and_le rfl ?_ | refine and_tr ?_) | dsimp only [fnW, bindNames, bindNest, upd, look, Nat.reduceBEq, cond_true, cond_false, execW, evalW, evalsW, orW, andW, chainW, bt_name, bt_names, bt_swap, bt_nest, cw_eq, cw_ne, cw_lt, cw_le, cw_gt, cw_ge, cw_is_nn, cw_is_tn, cw_isnot_nn, cw_isnot_tn, bw_add, bw_sub, bw_mul, bw_mod, bw_fdiv, bw_pow, bw_lsh, bw_rsh, bw_and, tob_bool, toi_int, ite_tt, ite_ff, ln1, ln0, gd1, gd0, rev2, rev3, ap0, ap1, not_t, not_f, at_p, at_b, at_g, at_n, isCurve_curve, Nat.reduceAdd, sub_tup, pl0_2, pl1_2, pl0_3, pl1_3, pl2_3, gc1, gc0]))
          (repeat (first | (with_reducible refine And.intro (by first | with_reducible assumption | (refine Bn.small ?_; (repeat' first | (with_reducible refine Bn.base ?_; with_reducible assumption) | with_reducible refine Bn.mul ?_ ?_ | with_reducible refine Bn.add ?_ ?_ | with_reducible refine Bn.sub ?_ ?_ | with_reducible refine Bn.neg ?_ | (with_reducible refine Bn.mod ?_ (by with_reducible assumption); first | with_reducible assumption | omega) | exact Bn.lit (by decide)); done) | omega) ?_) | (with_reducible first | refine ct_none ?_ | refine ct_some ?_ | refine ex_cons ?_ | refine ex_nil ?_ | refine ite_dec ?_ | refine ite_ndec ?_ | refine and_le rfl ?_ | refine and_tr ?_) | dsimp only [fnW, bindNames, bindNest, upd, look, Nat.reduceBEq, cond_true, cond_false, execW, evalW, evalsW, orW, andW, chainW, bt_name, bt_names, bt_swap, bt_nest, cw_eq, cw_ne, cw_lt, cw_le, cw_gt, cw_ge, cw_is_nn, cw_is_tn, cw_isnot_nn, cw_isnot_tn, bw_add, bw_sub, bw_mul, bw_mod, bw_fdiv, bw_pow, bw_lsh, bw_rsh, bw_and, tob_bool, toi_int, ite_tt, ite_ff, ln1, ln0, gd1, gd0, rev2, rev3, ap0, ap1, not_t, not_f, at_p, at_b, at_g, at_n, isCurve_curve, Nat.reduceAdd, sub_tup, pl0_2, pl1_2, pl0_3, pl1_3, pl2_3, gc1, gc0]))
          have g1 : ((st4 ++ [(plc T r par (m - 1)).map AV.int]) ++ [[]])[st4.length]? = some ((plc T r par (m - 1)).map AV.int) := getElem?_prefix (gl _ _)
          have g2 : ((st4 ++ [(plc T r par (m - 1)).map AV.int]) ++ [[]])[(st4 ++ [(plc T r par (m - 1)).map AV.int]).length]? = some [] := gl _ _
          have W5 := (W4.app [(plc T r par (m - 1)).map AV.int]).app [[]]
          have X5 : Ext w st4 ((st4 ++ [(plc T r par (m - 1)).map AV.int]) ++ [[]]) := (Ext.app w st4 _).trans (Ext.app w _ _)
          have hpl := plc_len T r par (m - 1)
          rw [cw_ne_nil_int g1 g2]
          cases hpq : plc T r par (m - 1) with
          | nil =>
            rw [hpq] at fin W5 X5
            dsimp only [List.isEmpty_nil, not_t, ite_ff]; (repeat (first | (with_reducible first | refine ct_none ?_ | refine ct_some ?_ | refine ex_cons ?_ | refine ex_nil ?_ | refine ite_dec ?_ | refine ite_ndec ?_ | refine and_le rfl ?_ | refine and_tr ?_) | dsimp only [fnW, bindNames, bindNest, upd, look, Nat.reduceBEq, cond_true, cond_false, execW, evalW, evalsW, orW, andW, chainW, bt_name, bt_names, bt_swap, bt_nest, cw_eq, cw_ne, cw_lt, cw_le, cw_gt, cw_ge, cw_is_nn, cw_is_tn, cw_isnot_nn, cw_isnot_tn, bw_add, bw_sub, bw_mul, bw_mod, bw_fdiv, bw_pow, bw_lsh, bw_rsh, bw_and, tob_bool, toi_int, ite_tt, ite_ff, ln1, ln0, gd1, gd0, rev2, rev3, ap0, ap1, not_t, not_f, at_p, at_b, at_g, at_n, isCurve_curve, Nat.reduceAdd, sub_tup, pl0_2, pl1_2, pl0_3, pl1_3, pl2_3, gc1, gc0]))
            exact fin _ W5 X5 _ rfl rfl rfl rfl rfl rfl
          | cons k1 rest =>
            rw [hpq] at fin W5 X5 g1 hpl
            dsimp only [List.isEmpty_cons, not_f, ite_tt]
            (repeat (first | (with_reducible first | refine ct_none ?_ | refine ct_some ?_ | refine ex_cons ?_ | refine ex_nil ?_ | refine ite_dec ?_ | refine ite_ndec ?_ | refine and_le rfl ?_ | refine and_tr ?_) | dsimp only [fnW, bindNames, bindNest, upd, look, Nat.reduceBEq, cond_true, cond_false, execW, evalW, evalsW, orW, andW, chainW, bt_name, bt_names, bt_swap, bt_nest, cw_eq, cw_ne, cw_lt, cw_le, cw_gt, cw_ge, cw_is_nn, cw_is_tn, cw_isnot_nn, cw_isnot_tn, bw_add, bw_sub, bw_mul, bw_mod, bw_fdiv, bw_pow, bw_lsh, bw_rsh, bw_and, tob_bool, toi_int, ite_tt, ite_ff, ln1, ln0, gd1, gd0, rev2, rev3, ap0, ap1, not_t, not_f, at_p, at_b, at_g, at_n, isCurve_curve, Nat.reduceAdd, sub_tup, pl0_2, pl1_2, pl0_3, pl1_3, pl2_3, gc1, gc0]))
            have bk1 : Bd k1 := by
              have hk : k1 ∈ plc T r par (m - 1) := by rw [hpq]; exact List.mem_cons_self
              unfold plc at hk
              rw [List.mem_map] at hk
              obtain ⟨j, hj, rfl⟩ := hk
              have := List.mem_range.mp (List.mem_filter.mp hj).1
              exact bd_int (by omega) (by omega)
            refine sub_ints g1 (by decide) (by rw [List.length_cons]; omega) (by omega) ?_
            (repeat (first | (with_reducible first | refine ct_none ?_ | refine ct_some ?_ | refine ex_cons ?_ | refine ex_nil ?_ | refine ite_dec ?_ | refine ite_ndec ?_ | refine and_le rfl ?_ | refine and_tr ?_) | dsimp only [fnW, bindNames, bindNest, upd, look, Nat.reduceBEq, cond_true, cond_false, execW, evalW, evalsW, orW, andW, chainW, bt_name, bt_names, bt_swap, bt_nest, cw_eq, cw_ne, cw_lt, cw_le, cw_gt, cw_ge, cw_is_nn, cw_is_tn, cw_isnot_nn, cw_isnot_tn, bw_add, bw_sub, bw_mul, bw_mod, bw_fdiv, bw_pow, bw_lsh, bw_rsh, bw_and, tob_bool, toi_int, ite_tt, ite_ff, ln1, ln0, gd1, gd0, rev2, rev3, ap0, ap1, not_t, not_f, at_p, at_b, at_g, at_n, isCurve_curve, Nat.reduceAdd, sub_tup, pl0_2, pl1_2, pl0_3, pl1_3, pl2_3, gc1, gc0]))
            have bk2 : Bd ((k1 :: rest).getD (0 : Int).toNat 0) := bk1
            (repeat (first | (with_reducible refine And.intro (by first | with_reducible assumption | (refine Bn.small ?_; (repeat' first | (with_reducible refine Bn.base ?_; with_reducible assumption) | with_reducible refine Bn.mul ?_ ?_ | with_reducible refine Bn.add ?_ ?_ | with_reducible refine Bn.sub ?_ ?_ | with_reducible refine Bn.neg ?_ | (with_reducible refine Bn.mod ?_ (by with_reducible assumption); first | with_reducible assumption | omega) | exact Bn.lit (by decide)); done) | omega) ?_) | (with_reducible first | refine ct_none ?_ | refine ct_some ?_ | refine ex_cons ?_ | refine ex_nil ?_ | refine ite_dec ?_ | refine ite_ndec ?_ | refine and_le rfl ?_ | refine and_tr ?_) | dsimp only [fnW, bindNames, bindNest, upd, look, Nat.reduceBEq, cond_true, cond_false, execW, evalW, evalsW, orW, andW, chainW, bt_name, bt_names, bt_swap, bt_nest, cw_eq, cw_ne, cw_lt, cw_le, cw_gt, cw_ge, cw_is_nn, cw_is_tn, cw_isnot_nn, cw_isnot_tn, bw_add, bw_sub, bw_mul, bw_mod, bw_fdiv, bw_pow, bw_lsh, bw_rsh, bw_and, tob_bool, toi_int, ite_tt, ite_ff, ln1, ln0, gd1, gd0, rev2, rev3, ap0, ap1, not_t, not_f, at_p, at_b, at_g, at_n, isCurve_curve, Nat.reduceAdd, sub_tup, pl0_2, pl1_2, pl0_3, pl1_3, pl2_3, gc1, gc0]))
            have hv5 := getElem?_prefix (r := [[]]) (getElem?_prefix (r := [(k1 :: rest).map AV.int]) hv4)
            refine sub_ints hv5 (by omega) (by rw [inv_len _ (by omega)]; omega) (by rw [inv_len _ (by omega)]; omega) ?_
            have binv := bd_getD (invUpto_bd m0 X.bm (m - 2 : Int).toNat) r.toNat
            have binv' : Bd ((invF m).getD r.toNat 0) := binv
            (repeat (first | (with_reducible first | refine ct_none ?_ | refine ct_some ?_ | refine ex_cons ?_ | refine ex_nil ?_ | refine ite_dec ?_ | refine ite_ndec ?_ | refine and_le rfl ?_ | refine and_tr ?_) | dsimp only [fnW, bindNames, bindNest, upd, look, Nat.reduceBEq, cond_true, cond_false, execW, evalW, evalsW, orW, andW, chainW, bt_name, bt_names, bt_swap, bt_nest, cw_eq, cw_ne, cw_lt, cw_le, cw_gt, cw_ge, cw_is_nn, cw_is_tn, cw_isnot_nn, cw_isnot_tn, bw_add, bw_sub, bw_mul, bw_mod, bw_fdiv, bw_pow, bw_lsh, bw_rsh, bw_and, tob_bool, toi_int, ite_tt, ite_ff, ln1, ln0, gd1, gd0, rev2, rev3, ap0, ap1, not_t, not_f, at_p, at_b, at_g, at_n, isCurve_curve, Nat.reduceAdd, sub_tup, pl0_2, pl1_2, pl0_3, pl1_3, pl2_3, gc1, gc0]))
            (repeat (first | (with_reducible refine And.intro (by first | with_reducible assumption | (refine Bn.small ?_; (repeat' first | (with_reducible refine Bn.base ?_; with_reducible assumption) | with_reducible refine Bn.mul ?_ ?_ | with_reducible refine Bn.add ?_ ?_ | with_reducible refine Bn.sub ?_ ?_ | with_reducible refine Bn.neg ?_ | (with_reducible refine Bn.mod ?_ (by with_reducible assumption); first | with_reducible assumption | omega) | exact Bn.lit (by decide)); done) | omega) ?_) | (with_reducible first | refine ct_none ?_ | refine ct_some ?_ | refine ex_cons ?_ | refine ex_nil ?_ | refine ite_dec ?_ | refine ite_ndec ?_ | refine and_le rfl ?_ | refine and_tr ?_) | dsimp only [fnW, bindNames, bindNest, upd, look, Nat.reduceBEq, cond_true, cond_false, execW, evalW, evalsW, orW, andW, chainW, bt_name, bt_names, bt_swap, bt_nest, cw_eq, cw_ne, cw_lt, cw_le, cw_gt, cw_ge, cw_is_nn, cw_is_tn, cw_isnot_nn, cw_isnot_tn, bw_add, bw_sub, bw_mul, bw_mod, bw_fdiv, bw_pow, bw_lsh, bw_rsh, bw_and, tob_bool, toi_int, ite_tt, ite_ff, ln1, ln0, gd1, gd0, rev2, rev3, ap0, ap1, not_t, not_f, at_p, at_b, at_g, at_n, isCurve_curve, Nat.reduceAdd, sub_tup, pl0_2, pl1_2, pl0_3, pl1_3, pl2_3, gc1, gc0]))
            have ht5 := getElem?_prefix (r := [[]]) (getElem?_prefix (r := [(k1 :: rest).map AV.int]) ht4)
            refine sub_tb ht5 (Int.emod_nonneg _ (Int.ne_of_gt m0)) (Int.emod_lt_of_pos _ m0) hm100 ?_
            (repeat (first | (with_reducible first | refine ct_none ?_ | refine ct_some ?_ | refine ex_cons ?_ | refine ex_nil ?_ | refine ite_dec ?_ | refine ite_ndec ?_ | refine and_le rfl ?_ | refine and_tr ?_) | dsimp only [fnW, bindNames, bindNest, upd, look, Nat.reduceBEq, cond_true, cond_false, execW, evalW, evalsW, orW, andW, chainW, bt_name, bt_names, bt_swap, bt_nest, cw_eq, cw_ne, cw_lt, cw_le, cw_gt, cw_ge, cw_is_nn, cw_is_tn, cw_isnot_nn, cw_isnot_tn, bw_add, bw_sub, bw_mul, bw_mod, bw_fdiv, bw_pow, bw_lsh, bw_rsh, bw_and, tob_bool, toi_int, ite_tt, ite_ff, ln1, ln0, gd1, gd0, rev2, rev3, ap0, ap1, not_t, not_f, at_p, at_b, at_g, at_n, isCurve_curve, Nat.reduceAdd, sub_tup, pl0_2, pl1_2, pl0_3, pl1_3, pl2_3, gc1, gc0]))
            exact fin _ W5 X5 _ rfl rfl rfl rfl rfl rfl
      · rw [none_of (.inr (.inr c3))] at fin
        by_cases q1 : 0 < s
        · have q2 : ¬ s < m := fun z => c3 ⟨q1, z⟩
          refine br_t (q1) ?_; (repeat (first | (with_reducible first | refine ct_none ?_ | refine ct_some ?_ | refine ex_cons ?_ | refine ex_nil ?_ | refine ite_dec ?_ | refine ite_ndec ?_ | refine and_le rfl ?_ | refine and_tr ?_) | dsimp only [fnW, bindNames, bindNest, upd, look, Nat.reduceBEq, cond_true, cond_false, execW, evalW, evalsW, orW, andW, chainW, bt_name, bt_names, bt_swap, bt_nest, cw_eq, cw_ne, cw_lt, cw_le, cw_gt, cw_ge, cw_is_nn, cw_is_tn, cw_isnot_nn, cw_isnot_tn, bw_add, bw_sub, bw_mul, bw_mod, bw_fdiv, bw_pow, bw_lsh, bw_rsh, bw_and, tob_bool, toi_int, ite_tt, ite_ff, ln1, ln0, gd1, gd0, rev2, rev3, ap0, ap1, not_t, not_f, at_p, at_b, at_g, at_n, isCurve_curve, Nat.reduceAdd, sub_tup, pl0_2, pl1_2, pl0_3, pl1_3, pl2_3, gc1, gc0])); refine br_f (q2) ?_; (repeat (first | (with_reducible first | refine ct_none ?_ | refine ct_some ?_ | refine ex_cons ?_ | refine ex_nil ?_ | refine ite_dec ?_ | refine ite_ndec ?_ | refine and_le rfl ?_ | refine and_tr ?_) | dsimp only [fnW, bindNames, bindNest, upd, look, Nat.reduceBEq, cond_true, cond_false, execW, evalW, evalsW, orW, andW, chainW, bt_name, bt_names, bt_swap, bt_nest, cw_eq, cw_ne, cw_lt, cw_le, cw_gt, cw_ge, cw_is_nn, cw_is_tn, cw_isnot_nn, cw_isnot_tn, bw_add, bw_sub, bw_mul, bw_mod, bw_fdiv, bw_pow, bw_lsh, bw_rsh, bw_and, tob_bool, toi_int, ite_tt, ite_ff, ln1, ln0, gd1, gd0, rev2, rev3, ap0, ap1, not_t, not_f, at_p, at_b, at_g, at_n, isCurve_curve, Nat.reduceAdd, sub_tup, pl0_2, pl1_2, pl0_3, pl1_3, pl2_3, gc1, gc0]))
          exact fin _ W4 (Ext.refl _ _) _ rfl rfl rfl rfl rfl rfl
        · refine br_f (q1) ?_; (repeat (first | (with_reducible first | refine ct_none ?_ | refine ct_some ?_ | refine ex_cons ?_ | refine ex_nil ?_ | refine ite_dec ?_ | refine ite_ndec ?_ | refine and_le rfl ?_ | refine and_tr ?_) | dsimp only [fnW, bindNames, bindNest, upd, look, Nat.reduceBEq, cond_true, cond_false, execW, evalW, evalsW, orW, andW, chainW, bt_name, bt_names, bt_swap, bt_nest, cw_eq, cw_ne, cw_lt, cw_le, cw_gt, cw_ge, cw_is_nn, cw_is_tn, cw_isnot_nn, cw_isnot_tn, bw_add, bw_sub, bw_mul, bw_mod, bw_fdiv, bw_pow, bw_lsh, bw_rsh, bw_and, tob_bool, toi_int, ite_tt, ite_ff, ln1, ln0, gd1, gd0, rev2, rev3, ap0, ap1, not_t, not_f, at_p, at_b, at_g, at_n, isCurve_curve, Nat.reduceAdd, sub_tup, pl0_2, pl1_2, pl0_3, pl1_3, pl2_3, gc1, gc0]))
          exact fin _ W4 (Ext.refl _ _) _ rfl rfl rfl rfl rfl rfl
    · rw [none_of (.inr (.inl c2))] at fin
      by_cases q1 : 0 < r
      · have q2 : ¬ r < m := fun z => c2 ⟨q1, z⟩
        refine br_t (q1) ?_; (repeat (first | (with_reducible first | refine ct_none ?_ | refine ct_some ?_ | refine ex_cons ?_ | refine ex_nil ?_ | refine ite_dec ?_ | refine ite_ndec ?_ | refine and_le rfl ?_ | refine and_tr ?_) | dsimp only [fnW, bindNames, bindNest, upd, look, Nat.reduceBEq, cond_true, cond_false, execW, evalW, evalsW, orW, andW, chainW, bt_name, bt_names, bt_swap, bt_nest, cw_eq, cw_ne, cw_lt, cw_le, cw_gt, cw_ge, cw_is_nn, cw_is_tn, cw_isnot_nn, cw_isnot_tn, bw_add, bw_sub, bw_mul, bw_mod, bw_fdiv, bw_pow, bw_lsh, bw_rsh, bw_and, tob_bool, toi_int, ite_tt, ite_ff, ln1, ln0, gd1, gd0, rev2, rev3, ap0, ap1, not_t, not_f, at_p, at_b, at_g, at_n, isCurve_curve, Nat.reduceAdd, sub_tup, pl0_2, pl1_2, pl0_3, pl1_3, pl2_3, gc1, gc0])); refine br_f (q2) ?_; (repeat (first | (with_reducible first | refine ct_none ?_ | refine ct_some ?_ | refine ex_cons ?_ | refine ex_nil ?_ | refine ite_dec ?_ | refine ite_ndec ?_ | refine and_le rfl ?_ | refine and_tr ?_) | dsimp only [fnW, bindNames, bindNest, upd, look, Nat.reduceBEq, cond_true, cond_false, execW, evalW, evalsW, orW, andW, chainW, bt_name, bt_names, bt_swap, bt_nest, cw_eq, cw_ne, cw_lt, cw_le, cw_gt, cw_ge, cw_is_nn, cw_is_tn, cw_isnot_nn, cw_isnot_tn, bw_add, bw_sub, bw_mul, bw_mod, bw_fdiv, bw_pow, bw_lsh, bw_rsh, bw_and, tob_bool, toi_int, ite_tt, ite_ff, ln1, ln0, gd1, gd0, rev2, rev3, ap0, ap1, not_t, not_f, at_p, at_b, at_g, at_n, isCurve_curve, Nat.reduceAdd, sub_tup, pl0_2, pl1_2, pl0_3, pl1_3, pl2_3, gc1, gc0]))
        exact fin _ W4 (Ext.refl _ _) _ rfl rfl rfl rfl rfl rfl
      · refine br_f (q1) ?_; (repeat (first | (with_reducible first | refine ct_none ?_ | refine ct_some ?_ | refine ex_cons ?_ | refine ex_nil ?_ | refine ite_dec ?_ | refine ite_ndec ?_ | refine and_le rfl ?_ | refine and_tr ?_) | dsimp only [fnW, bindNames, bindNest, upd, look, Nat.reduceBEq, cond_true, cond_false, execW, evalW, evalsW, orW, andW, chainW, bt_name, bt_names, bt_swap, bt_nest, cw_eq, cw_ne, cw_lt, cw_le, cw_gt, cw_ge, cw_is_nn, cw_is_tn, cw_isnot_nn, cw_isnot_tn, bw_add, bw_sub, bw_mul, bw_mod, bw_fdiv, bw_pow, bw_lsh, bw_rsh, bw_and, tob_bool, toi_int, ite_tt, ite_ff, ln1, ln0, gd1, gd0, rev2, rev3, ap0, ap1, not_t, not_f, at_p, at_b, at_g, at_n, isCurve_curve, Nat.reduceAdd, sub_tup, pl0_2, pl1_2, pl0_3, pl1_3, pl2_3, gc1, gc0]))
        exact fin _ W4 (Ext.refl _ _) _ rfl rfl rfl rfl rfl rfl
  · have d1 : (decide (par = 0) || decide (par = 1)) = false := by simpa using c1
    rw [none_of (.inl c1)] at fin
    rw [d1]; (repeat (first | (with_reducible first | refine ct_none ?_ | refine ct_some ?_ | refine ex_cons ?_ | refine ex_nil ?_ | refine ite_dec ?_ | refine ite_ndec ?_ | refine and_le rfl ?_ | refine and_tr ?_) | dsimp only [fnW, bindNames, bindNest, upd, look, Nat.reduceBEq, cond_true, cond_false, execW, evalW, evalsW, orW, andW, chainW, bt_name, bt_names, bt_swap, bt_nest, cw_eq, cw_ne, cw_lt, cw_le, cw_gt, cw_ge, cw_is_nn, cw_is_tn, cw_isnot_nn, cw_isnot_tn, bw_add, bw_sub, bw_mul, bw_mod, bw_fdiv, bw_pow, bw_lsh, bw_rsh, bw_and, tob_bool, toi_int, ite_tt, ite_ff, ln1, ln0, gd1, gd0, rev2, rev3, ap0, ap1, not_t, not_f, at_p, at_b, at_g, at_n, isCurve_curve, Nat.reduceAdd, sub_tup, pl0_2, pl1_2, pl0_3, pl1_3, pl2_3, gc1, gc0]))
    exact fin _ W4 (Ext.refl _ _) _ rfl rfl rfl rfl rfl rfl
end Mine
set_option maxRecDepth 100000
set_option maxHeartbeats 4000000
set_option linter.unusedSimpArgs false
set_option linter.unusedVariables false
set_option exponentiation.threshold 300
namespace Mine
open PySem PySem.W PyProof.Rows

theorem cw_notin_pts {st : St} {k : Bool → Prop} {i : Nat} {q : Int × Int} {l : List (Int × Int)} (h1 : st[i]? = some (l.map ptv)) (hq : q ∈ l) : cmpW .NotIn (ptv q) (.lst i) st k = k false := by
  have h2 := cw_in_pts (k := fun b => b = true) (x := q.1) (y := q.2) h1
  have : inO st (ptv q) (.lst i) = some true := by
    have e : cmpO .In st (ptv q) (.lst i) = inO st (ptv q) (.lst i) := rfl
    have h3 : cmpW .In (.tup [.int q.1, .int q.2]) (.lst i) st (fun b => b = true) := by rw [h2]; simpa using hq
    unfold cmpW at h3
    have e4 : (AV.tup [.int q.1, .int q.2]) = ptv q := rfl
    rw [e4, e] at h3
    cases hc : inO st (ptv q) (.lst i) with
    | none => rw [hc] at h3; exact h3.elim
    | some c => rw [hc] at h3; rw [show c = true from h3]
  unfold cmpW cmpO
  rw [this]
  rfl
noncomputable def law_tail : PSs := (.cons (.ite (.or (.cons (.cmp (.tup (.cons (.attr (.var 6) 0) (.cons (.attr (.var 6) 1) (.cons (.attr (.var 6) 3) .nil)))) [.NotEq] (.cons (.tup (.cons (.var 25) (.cons (.var 1) (.cons (.var 21) .nil)))) .nil)) (.cons (.cmp (.attr (.var 6) 2) [.NotIn] (.cons (.var 29) .nil)) .nil))) (.cons (.ret (.bool false)) .nil) .nil) (.cons (.assignT true (.names [44, 15]) (.tup (.cons (.call 19 (.cons (.var 25) (.cons (.var 21) (.cons (.attr (.var 6) 2) .nil)))) (.cons (.call 16 (.cons (.var 21) .nil)) .nil)))) (.cons (.ite (.or (.cons (.not (.call 20 (.cons (.var 52) (.cons (.var 6) (.cons (.var 44) .nil))))) (.cons (.not (.call 21 (.cons (.var 52) (.cons (.var 6) (.cons (.var 29) .nil))))) .nil))) (.cons (.ret (.bool false)) .nil) .nil) (.cons (.ret (.and (.cons (.call 22 (.cons (.var 52) (.cons (.var 6) (.cons (.var 44) (.cons (.var 15) .nil))))) (.cons (.call 23 (.cons (.var 52) (.cons (.var 6) (.cons (.var 44) (.cons (.var 15) .nil))))) .nil)))) .nil))))
theorem law_end (n : Nat) {p b m : Nat} {pts : List (Int × Int)} {T : Nat → Pt} (X : Tab p b m pts T) {g : Int × Int} (hg : g ∈ pts) (h1 : T 1 = some g) (htab : tabF p (some g) m = (List.range m).map T) {w u : Nat} {st : St} {loc : Loc} {Q : Ends} (W : WellOk w st)
    (hu : st[u]? = some (pts.map ptv)) (huw : u ≠ w)
    (l25 : look loc 25 = some (.int p)) (l1 : look loc 1 = some (.int b)) (l21 : look loc 21 = some (.int m)) (l29 : look loc 29 = some (.lst u)) (l6 : look loc 6 = some (.curve p b (pt (some g)) m)) (l52 : look loc 52 = some (.lst w))
    (h : ∀ loc st, Q (some (.bool true)) loc st) : execsW ⟨callW (n + 6), globV⟩ law_tail loc st Q := by
  have hm3 := X.m3
  have hm100 := X.m100
  have hp3 := X.p3
  have hp100 := X.p100
  have bg : BdP (some g) := by rw [← h1]; exact X.bdp (by omega)
  unfold law_tail
  (repeat (first | (with_reducible first | refine ct_none ?_ | refine ct_some ?_ | refine ex_cons ?_ | refine ex_nil ?_ | refine ite_dec ?_ | refine ite_ndec ?_ | refine and_le rfl ?_ | refine and_tr ?_) | dsimp only [fnW, bindNames, bindNest, upd, look, Nat.reduceBEq, cond_true, cond_false, execW, evalW, evalsW, orW, andW, chainW, bt_name, bt_names, bt_swap, bt_nest, cw_eq, cw_ne, cw_lt, cw_le, cw_gt, cw_ge, cw_is_nn, cw_is_tn, cw_isnot_nn, cw_isnot_tn, bw_add, bw_sub, bw_mul, bw_mod, bw_fdiv, bw_pow, bw_lsh, bw_rsh, bw_and, tob_bool, toi_int, ite_tt, ite_ff, ln1, ln0, gd1, gd0, rev2, rev3, ap0, ap1, not_t, not_f, at_p, at_b, at_g, at_n, isCurve_curve, Nat.reduceAdd, sub_tup, pl0_2, pl1_2, pl0_3, pl1_3, pl2_3, gc1, gc0] | (refine' lk_m ?lk ?_; (case lk => (repeat' first | (show look _ _ = _; with_reducible assumption) | exact lk_eq | exact rfl | refine' lk_ne ?_ (by rfl))))))
  (repeat (first | (with_reducible refine And.intro (by first | with_reducible assumption | (refine Bn.small ?_; (repeat' first | (with_reducible refine Bn.base ?_; with_reducible assumption) | with_reducible refine Bn.mul ?_ ?_ | with_reducible refine Bn.add ?_ ?_ | with_reducible refine Bn.sub ?_ ?_ | with_reducible refine Bn.neg ?_ | (with_reducible refine Bn.mod ?_ (by with_reducible assumption); first | with_reducible assumption | omega) | exact Bn.lit (by decide)); done) | omega) ?_) | (with_reducible first | refine ct_none ?_ | refine ct_some ?_ | refine ex_cons ?_ | refine ex_nil ?_ | refine ite_dec ?_ | refine ite_ndec ?_ | refine and_le rfl ?_ | refine and_tr ?_) | dsimp only [fnW, bindNames, bindNest, upd, look, Nat.reduceBEq, cond_true, cond_false, execW, evalW, evalsW, orW, andW, chainW, bt_name, bt_names, bt_swap, bt_nest, cw_eq, cw_ne, cw_lt, cw_le, cw_gt, cw_ge, cw_is_nn, cw_is_tn, cw_isnot_nn, cw_isnot_tn, bw_add, bw_sub, bw_mul, bw_mod, bw_fdiv, bw_pow, bw_lsh, bw_rsh, bw_and, tob_bool, toi_int, ite_tt, ite_ff, ln1, ln0, gd1, gd0, rev2, rev3, ap0, ap1, not_t, not_f, at_p, at_b, at_g, at_n, isCurve_curve, Nat.reduceAdd, sub_tup, pl0_2, pl1_2, pl0_3, pl1_3, pl2_3, gc1, gc0]))
  rw [show AV.tup [.int (p : Int), .int (b : Int), .int (m : Int)] = sigV (some ((p : Int), (b : Int), (m : Int))) from rfl, cw_ne_sig]
  (repeat (first | (with_reducible first | refine ct_none ?_ | refine ct_some ?_ | refine ex_cons ?_ | refine ex_nil ?_ | refine ite_dec ?_ | refine ite_ndec ?_ | refine and_le rfl ?_ | refine and_tr ?_) | dsimp only [fnW, bindNames, bindNest, upd, look, Nat.reduceBEq, cond_true, cond_false, execW, evalW, evalsW, orW, andW, chainW, bt_name, bt_names, bt_swap, bt_nest, cw_eq, cw_ne, cw_lt, cw_le, cw_gt, cw_ge, cw_is_nn, cw_is_tn, cw_isnot_nn, cw_isnot_tn, bw_add, bw_sub, bw_mul, bw_mod, bw_fdiv, bw_pow, bw_lsh, bw_rsh, bw_and, tob_bool, toi_int, ite_tt, ite_ff, ln1, ln0, gd1, gd0, rev2, rev3, ap0, ap1, not_t, not_f, at_p, at_b, at_g, at_n, isCurve_curve, Nat.reduceAdd, sub_tup, pl0_2, pl1_2, pl0_3, pl1_3, pl2_3, gc1, gc0] | (refine' lk_m ?lk ?_; (case lk => (repeat' first | (show look _ _ = _; with_reducible assumption) | exact lk_eq | exact rfl | refine' lk_ne ?_ (by rfl))))))
  rw [show pt (some g) = ptv g from rfl, cw_notin_pts hu hg]
  (repeat (first | (with_reducible first | refine ct_none ?_ | refine ct_some ?_ | refine ex_cons ?_ | refine ex_nil ?_ | refine ite_dec ?_ | refine ite_ndec ?_ | refine and_le rfl ?_ | refine and_tr ?_) | dsimp only [fnW, bindNames, bindNest, upd, look, Nat.reduceBEq, cond_true, cond_false, execW, evalW, evalsW, orW, andW, chainW, bt_name, bt_names, bt_swap, bt_nest, cw_eq, cw_ne, cw_lt, cw_le, cw_gt, cw_ge, cw_is_nn, cw_is_tn, cw_isnot_nn, cw_isnot_tn, bw_add, bw_sub, bw_mul, bw_mod, bw_fdiv, bw_pow, bw_lsh, bw_rsh, bw_and, tob_bool, toi_int, ite_tt, ite_ff, ln1, ln0, gd1, gd0, rev2, rev3, ap0, ap1, not_t, not_f, at_p, at_b, at_g, at_n, isCurve_curve, Nat.reduceAdd, sub_tup, pl0_2, pl1_2, pl0_3, pl1_3, pl2_3, gc1, gc0] | (refine' lk_m ?lk ?_; (case lk => (repeat' first | (show look _ _ = _; with_reducible assumption) | exact lk_eq | exact rfl | refine' lk_ne ?_ (by rfl))))))
  refine c_multiples (n + 4) (by omega) (by omega) (by omega) (by omega) bg ?_
  have etab : (tabF (p : Int) (some g) (m : Int).toNat).map pt = tb m T := by
    rw [show (m : Int).toNat = m by omega, htab, List.map_map]
    rfl
  rw [etab]
  (repeat (first | (with_reducible first | refine ct_none ?_ | refine ct_some ?_ | refine ex_cons ?_ | refine ex_nil ?_ | refine ite_dec ?_ | refine ite_ndec ?_ | refine and_le rfl ?_ | refine and_tr ?_) | dsimp only [fnW, bindNames, bindNest, upd, look, Nat.reduceBEq, cond_true, cond_false, execW, evalW, evalsW, orW, andW, chainW, bt_name, bt_names, bt_swap, bt_nest, cw_eq, cw_ne, cw_lt, cw_le, cw_gt, cw_ge, cw_is_nn, cw_is_tn, cw_isnot_nn, cw_isnot_tn, bw_add, bw_sub, bw_mul, bw_mod, bw_fdiv, bw_pow, bw_lsh, bw_rsh, bw_and, tob_bool, toi_int, ite_tt, ite_ff, ln1, ln0, gd1, gd0, rev2, rev3, ap0, ap1, not_t, not_f, at_p, at_b, at_g, at_n, isCurve_curve, Nat.reduceAdd, sub_tup, pl0_2, pl1_2, pl0_3, pl1_3, pl2_3, gc1, gc0] | (refine' lk_m ?lk ?_; (case lk => (repeat' first | (show look _ _ = _; with_reducible assumption) | exact lk_eq | exact rfl | refine' lk_ne ?_ (by rfl))))))
  refine c_inverses (n + 5) (by omega) (by omega) X.bm ?_
  (repeat (first | (with_reducible first | refine ct_none ?_ | refine ct_some ?_ | refine ex_cons ?_ | refine ex_nil ?_ | refine ite_dec ?_ | refine ite_ndec ?_ | refine and_le rfl ?_ | refine and_tr ?_) | dsimp only [fnW, bindNames, bindNest, upd, look, Nat.reduceBEq, cond_true, cond_false, execW, evalW, evalsW, orW, andW, chainW, bt_name, bt_names, bt_swap, bt_nest, cw_eq, cw_ne, cw_lt, cw_le, cw_gt, cw_ge, cw_is_nn, cw_is_tn, cw_isnot_nn, cw_isnot_tn, bw_add, bw_sub, bw_mul, bw_mod, bw_fdiv, bw_pow, bw_lsh, bw_rsh, bw_and, tob_bool, toi_int, ite_tt, ite_ff, ln1, ln0, gd1, gd0, rev2, rev3, ap0, ap1, not_t, not_f, at_p, at_b, at_g, at_n, isCurve_curve, Nat.reduceAdd, sub_tup, pl0_2, pl1_2, pl0_3, pl1_3, pl2_3, gc1, gc0] | (refine' lk_m ?lk ?_; (case lk => (repeat' first | (show look _ _ = _; with_reducible assumption) | exact lk_eq | exact rfl | refine' lk_ne ?_ (by rfl))))))
  (repeat (first | (with_reducible refine And.intro (by first | with_reducible assumption | (refine Bn.small ?_; (repeat' first | (with_reducible refine Bn.base ?_; with_reducible assumption) | with_reducible refine Bn.mul ?_ ?_ | with_reducible refine Bn.add ?_ ?_ | with_reducible refine Bn.sub ?_ ?_ | with_reducible refine Bn.neg ?_ | (with_reducible refine Bn.mod ?_ (by with_reducible assumption); first | with_reducible assumption | omega) | exact Bn.lit (by decide)); done) | omega) ?_) | (with_reducible first | refine ct_none ?_ | refine ct_some ?_ | refine ex_cons ?_ | refine ex_nil ?_ | refine ite_dec ?_ | refine ite_ndec ?_ | refine and_le rfl ?_ | refine and_tr ?_) | dsimp only [fnW, bindNames, bindNest, upd, look, Nat.reduceBEq, cond_true, cond_false, execW, evalW, evalsW, orW, andW, chainW, bt_name, bt_names, bt_swap, bt_nest, cw_eq, cw_ne, cw_lt, cw_le, cw_gt, cw_ge, cw_is_nn, cw_is_tn, cw_isnot_nn, cw_isnot_tn, bw_add, bw_sub, bw_mul, bw_mod, bw_fdiv, bw_pow, bw_lsh, bw_rsh, bw_and, tob_bool, toi_int, ite_tt, ite_ff, ln1, ln0, gd1, gd0, rev2, rev3, ap0, ap1, not_t, not_f, at_p, at_b, at_g, at_n, isCurve_curve, Nat.reduceAdd, sub_tup, pl0_2, pl1_2, pl0_3, pl1_3, pl2_3, gc1, gc0]))
  generalize hA : (st ++ [(invF (p : Int)).map AV.int]) ++ [tb m T] = stA
  have hlA : stA.length = st.length + 2 := by rw [← hA]; simp
  generalize hB : stA ++ [(invF (m : Int)).map AV.int] = stB
  have XB : Ext w st stB := by rw [← hB, ← hA]; exact ((Ext.app w st _).trans (Ext.app w _ _)).trans (Ext.app w _ _)
  have WB : WellOk w stB := by rw [← hB, ← hA]; exact ((W.app _).app _).app _
  have gt : stB[st.length + 1]? = some (tb m T) := by
    rw [← hB]
    refine getElem?_prefix ?_
    rw [← hA]
    have e1 : (st ++ [(invF (p : Int)).map AV.int]).length = st.length + 1 := by simp
    rw [← e1]
    exact gl _ _
  have gv : stB[stA.length]? = some ((invF (m : Int)).map .int) := by rw [← hB]; exact gl _ _
  have htw := W.ne (i := st.length + 1) (by omega)
  have hvw := W.ne (i := stA.length) (by omega)
  have gu := XB _ _ huw hu
  (repeat (first | (with_reducible first | refine ct_none ?_ | refine ct_some ?_ | refine ex_cons ?_ | refine ex_nil ?_ | refine ite_dec ?_ | refine ite_ndec ?_ | refine and_le rfl ?_ | refine and_tr ?_) | dsimp only [fnW, bindNames, bindNest, upd, look, Nat.reduceBEq, cond_true, cond_false, execW, evalW, evalsW, orW, andW, chainW, bt_name, bt_names, bt_swap, bt_nest, cw_eq, cw_ne, cw_lt, cw_le, cw_gt, cw_ge, cw_is_nn, cw_is_tn, cw_isnot_nn, cw_isnot_tn, bw_add, bw_sub, bw_mul, bw_mod, bw_fdiv, bw_pow, bw_lsh, bw_rsh, bw_and, tob_bool, toi_int, ite_tt, ite_ff, ln1, ln0, gd1, gd0, rev2, rev3, ap0, ap1, not_t, not_f, at_p, at_b, at_g, at_n, isCurve_curve, Nat.reduceAdd, sub_tup, pl0_2, pl1_2, pl0_3, pl1_3, pl2_3, gc1, gc0] | (refine' lk_m ?lk ?_; (case lk => (repeat' first | (show look _ _ = _; with_reducible assumption) | exact lk_eq | exact rfl | refine' lk_ne ?_ (by rfl))))))
  refine c_sums (n + 1) X WB gt htw fun st1 W1 X1 => ?_
  (repeat (first | (with_reducible first | refine ct_none ?_ | refine ct_some ?_ | refine ex_cons ?_ | refine ex_nil ?_ | refine ite_dec ?_ | refine ite_ndec ?_ | refine and_le rfl ?_ | refine and_tr ?_) | dsimp only [fnW, bindNames, bindNest, upd, look, Nat.reduceBEq, cond_true, cond_false, execW, evalW, evalsW, orW, andW, chainW, bt_name, bt_names, bt_swap, bt_nest, cw_eq, cw_ne, cw_lt, cw_le, cw_gt, cw_ge, cw_is_nn, cw_is_tn, cw_isnot_nn, cw_isnot_tn, bw_add, bw_sub, bw_mul, bw_mod, bw_fdiv, bw_pow, bw_lsh, bw_rsh, bw_and, tob_bool, toi_int, ite_tt, ite_ff, ln1, ln0, gd1, gd0, rev2, rev3, ap0, ap1, not_t, not_f, at_p, at_b, at_g, at_n, isCurve_curve, Nat.reduceAdd, sub_tup, pl0_2, pl1_2, pl0_3, pl1_3, pl2_3, gc1, gc0] | (refine' lk_m ?lk ?_; (case lk => (repeat' first | (show look _ _ = _; with_reducible assumption) | exact lk_eq | exact rfl | refine' lk_ne ?_ (by rfl))))))
  refine c_places (n + 1) X.pts W1 (X1 _ _ huw gu) huw fun st2 W2 X2 => ?_
  (repeat (first | (with_reducible first | refine ct_none ?_ | refine ct_some ?_ | refine ex_cons ?_ | refine ex_nil ?_ | refine ite_dec ?_ | refine ite_ndec ?_ | refine and_le rfl ?_ | refine and_tr ?_) | dsimp only [fnW, bindNames, bindNest, upd, look, Nat.reduceBEq, cond_true, cond_false, execW, evalW, evalsW, orW, andW, chainW, bt_name, bt_names, bt_swap, bt_nest, cw_eq, cw_ne, cw_lt, cw_le, cw_gt, cw_ge, cw_is_nn, cw_is_tn, cw_isnot_nn, cw_isnot_tn, bw_add, bw_sub, bw_mul, bw_mod, bw_fdiv, bw_pow, bw_lsh, bw_rsh, bw_and, tob_bool, toi_int, ite_tt, ite_ff, ln1, ln0, gd1, gd0, rev2, rev3, ap0, ap1, not_t, not_f, at_p, at_b, at_g, at_n, isCurve_curve, Nat.reduceAdd, sub_tup, pl0_2, pl1_2, pl0_3, pl1_3, pl2_3, gc1, gc0] | (refine' lk_m ?lk ?_; (case lk => (repeat' first | (show look _ _ = _; with_reducible assumption) | exact lk_eq | exact rfl | refine' lk_ne ?_ (by rfl))))))
  have X12 := X1.trans X2
  rw [← h1]
  refine c_signed n X W2 (X12 _ _ htw gt) htw (X12 _ _ hvw gv) hvw fun st3 W3 X3 => ?_
  (repeat (first | (with_reducible first | refine ct_none ?_ | refine ct_some ?_ | refine ex_cons ?_ | refine ex_nil ?_ | refine ite_dec ?_ | refine ite_ndec ?_ | refine and_le rfl ?_ | refine and_tr ?_) | dsimp only [fnW, bindNames, bindNest, upd, look, Nat.reduceBEq, cond_true, cond_false, execW, evalW, evalsW, orW, andW, chainW, bt_name, bt_names, bt_swap, bt_nest, cw_eq, cw_ne, cw_lt, cw_le, cw_gt, cw_ge, cw_is_nn, cw_is_tn, cw_isnot_nn, cw_isnot_tn, bw_add, bw_sub, bw_mul, bw_mod, bw_fdiv, bw_pow, bw_lsh, bw_rsh, bw_and, tob_bool, toi_int, ite_tt, ite_ff, ln1, ln0, gd1, gd0, rev2, rev3, ap0, ap1, not_t, not_f, at_p, at_b, at_g, at_n, isCurve_curve, Nat.reduceAdd, sub_tup, pl0_2, pl1_2, pl0_3, pl1_3, pl2_3, gc1, gc0] | (refine' lk_m ?lk ?_; (case lk => (repeat' first | (show look _ _ = _; with_reducible assumption) | exact lk_eq | exact rfl | refine' lk_ne ?_ (by rfl))))))
  have X13 := X12.trans X3
  (try rw [← h1])
  refine c_wild n X W3 (X13 _ _ htw gt) htw (X13 _ _ hvw gv) hvw fun st4 W4 X4 => ?_
  (repeat (first | (with_reducible first | refine ct_none ?_ | refine ct_some ?_ | refine ex_cons ?_ | refine ex_nil ?_ | refine ite_dec ?_ | refine ite_ndec ?_ | refine and_le rfl ?_ | refine and_tr ?_) | dsimp only [fnW, bindNames, bindNest, upd, look, Nat.reduceBEq, cond_true, cond_false, execW, evalW, evalsW, orW, andW, chainW, bt_name, bt_names, bt_swap, bt_nest, cw_eq, cw_ne, cw_lt, cw_le, cw_gt, cw_ge, cw_is_nn, cw_is_tn, cw_isnot_nn, cw_isnot_tn, bw_add, bw_sub, bw_mul, bw_mod, bw_fdiv, bw_pow, bw_lsh, bw_rsh, bw_and, tob_bool, toi_int, ite_tt, ite_ff, ln1, ln0, gd1, gd0, rev2, rev3, ap0, ap1, not_t, not_f, at_p, at_b, at_g, at_n, isCurve_curve, Nat.reduceAdd, sub_tup, pl0_2, pl1_2, pl0_3, pl1_3, pl2_3, gc1, gc0] | (refine' lk_m ?lk ?_; (case lk => (repeat' first | (show look _ _ = _; with_reducible assumption) | exact lk_eq | exact rfl | refine' lk_ne ?_ (by rfl))))))
  exact h _ _
end Mine
set_option maxRecDepth 100000
set_option maxHeartbeats 4000000
set_option linter.unusedSimpArgs false
set_option linter.unusedVariables false
set_option exponentiation.threshold 300
namespace Mine
open PySem PySem.W PyProof.Rows

structure Great : Prop where
  on : onF pGreat 7 gGreat = true
  tw : ∀ k : Int, 1 ≤ k → k ≤ 3 → ∃ x y, timesF pGreat nGreat k gGreat = some (x, y) ∧ timesF pGreat nGreat (nGreat - k) gGreat = some (x, pGreat - y)
theorem gr1 : Bd pGreat := by unfold Bd pGreat; decide +kernel
theorem gr2 : Bd nGreat := by unfold Bd nGreat; decide +kernel
theorem gr3 : 1 < pGreat := by decide +kernel
theorem gr4 : 0 < nGreat := by decide +kernel
theorem gr5 : BdP gGreat := by constructor <;> (unfold Bd; decide +kernel)
theorem great_end (n : Nat) {p m : Int} {g : Pt} (hp : 1 < p) (hm : 0 < m) (bp : Bd p) (bm : Bd m) (bg : BdP g) (on : onF p 7 g = true) (tw : ∀ k : Int, 1 ≤ k → k ≤ 3 → ∃ x y, timesF p m k g = some (x, y) ∧ timesF p m (m - k) g = some (x, p - y))
    {w : Nat} {st : St} {Q : AV → St → Prop} (W : WellOk w st) (hs : ∀ {st : St} {Q : AV → St → Prop}, Q (.curve p 7 (pt g) m) st → callW (n + 5) 11 [] st Q) (h : ∀ st', Q (.bool true) st') : callW (n + 6) 25 [.lst w] st Q := by
  have hp0 : 0 < p := by omega
  refine callW_fn (by decide) (by decide) (by decide) rfl ?_
  delta a_law_great_right b_law_great_right
  (repeat (first | (with_reducible first | refine ct_none ?_ | refine ct_some ?_ | refine ex_cons ?_ | refine ex_nil ?_ | refine ite_dec ?_ | refine ite_ndec ?_ | refine and_le rfl ?_ | refine and_tr ?_) | dsimp only [fnW, bindNames, bindNest, upd, look, Nat.reduceBEq, cond_true, cond_false, execW, evalW, evalsW, orW, andW, chainW, bt_name, bt_names, bt_swap, bt_nest, cw_eq, cw_ne, cw_lt, cw_le, cw_gt, cw_ge, cw_is_nn, cw_is_tn, cw_isnot_nn, cw_isnot_tn, bw_add, bw_sub, bw_mul, bw_mod, bw_fdiv, bw_pow, bw_lsh, bw_rsh, bw_and, tob_bool, toi_int, ite_tt, ite_ff, ln1, ln0, gd1, gd0, rev2, rev3, ap0, ap1, not_t, not_f, at_p, at_b, at_g, at_n, isCurve_curve, Nat.reduceAdd, sub_tup, pl0_2, pl1_2, pl0_3, pl1_3, pl2_3, gc1, gc0]))
  refine hs ?_
  (repeat (first | (with_reducible first | refine ct_none ?_ | refine ct_some ?_ | refine ex_cons ?_ | refine ex_nil ?_ | refine ite_dec ?_ | refine ite_ndec ?_ | refine and_le rfl ?_ | refine and_tr ?_) | dsimp only [fnW, bindNames, bindNest, upd, look, Nat.reduceBEq, cond_true, cond_false, execW, evalW, evalsW, orW, andW, chainW, bt_name, bt_names, bt_swap, bt_nest, cw_eq, cw_ne, cw_lt, cw_le, cw_gt, cw_ge, cw_is_nn, cw_is_tn, cw_isnot_nn, cw_isnot_tn, bw_add, bw_sub, bw_mul, bw_mod, bw_fdiv, bw_pow, bw_lsh, bw_rsh, bw_and, tob_bool, toi_int, ite_tt, ite_ff, ln1, ln0, gd1, gd0, rev2, rev3, ap0, ap1, not_t, not_f, at_p, at_b, at_g, at_n, isCurve_curve, Nat.reduceAdd, sub_tup, pl0_2, pl1_2, pl0_3, pl1_3, pl2_3, gc1, gc0]))
  refine c_draw (n + 3) W (by decide) fun k0 st1 a0 a1 W1 X1 _ => ?_
  (repeat (first | (with_reducible first | refine ct_none ?_ | refine ct_some ?_ | refine ex_cons ?_ | refine ex_nil ?_ | refine ite_dec ?_ | refine ite_ndec ?_ | refine and_le rfl ?_ | refine and_tr ?_) | dsimp only [fnW, bindNames, bindNest, upd, look, Nat.reduceBEq, cond_true, cond_false, execW, evalW, evalsW, orW, andW, chainW, bt_name, bt_names, bt_swap, bt_nest, cw_eq, cw_ne, cw_lt, cw_le, cw_gt, cw_ge, cw_is_nn, cw_is_tn, cw_isnot_nn, cw_isnot_tn, bw_add, bw_sub, bw_mul, bw_mod, bw_fdiv, bw_pow, bw_lsh, bw_rsh, bw_and, tob_bool, toi_int, ite_tt, ite_ff, ln1, ln0, gd1, gd0, rev2, rev3, ap0, ap1, not_t, not_f, at_p, at_b, at_g, at_n, isCurve_curve, Nat.reduceAdd, sub_tup, pl0_2, pl1_2, pl0_3, pl1_3, pl2_3, gc1, gc0]))
  (repeat (first | (with_reducible refine And.intro (by first | with_reducible assumption | (refine Bn.small ?_; (repeat' first | (with_reducible refine Bn.base ?_; with_reducible assumption) | with_reducible refine Bn.mul ?_ ?_ | with_reducible refine Bn.add ?_ ?_ | with_reducible refine Bn.sub ?_ ?_ | with_reducible refine Bn.neg ?_ | (with_reducible refine Bn.mod ?_ (by with_reducible assumption); first | with_reducible assumption | omega) | exact Bn.lit (by decide)); done) | omega) ?_) | (with_reducible first | refine ct_none ?_ | refine ct_some ?_ | refine ex_cons ?_ | refine ex_nil ?_ | refine ite_dec ?_ | refine ite_ndec ?_ | refine and_le rfl ?_ | refine and_tr ?_) | dsimp only [fnW, bindNames, bindNest, upd, look, Nat.reduceBEq, cond_true, cond_false, execW, evalW, evalsW, orW, andW, chainW, bt_name, bt_names, bt_swap, bt_nest, cw_eq, cw_ne, cw_lt, cw_le, cw_gt, cw_ge, cw_is_nn, cw_is_tn, cw_isnot_nn, cw_isnot_tn, bw_add, bw_sub, bw_mul, bw_mod, bw_fdiv, bw_pow, bw_lsh, bw_rsh, bw_and, tob_bool, toi_int, ite_tt, ite_ff, ln1, ln0, gd1, gd0, rev2, rev3, ap0, ap1, not_t, not_f, at_p, at_b, at_g, at_n, isCurve_curve, Nat.reduceAdd, sub_tup, pl0_2, pl1_2, pl0_3, pl1_3, pl2_3, gc1, gc0]))
  obtain ⟨x, y, e1, e2⟩ := tw (1 + k0) (by omega) (by omega)
  refine c_times (n + 2) hp bp bg hm bm ?_
  rw [e1]
  (repeat (first | (with_reducible first | refine ct_none ?_ | refine ct_some ?_ | refine ex_cons ?_ | refine ex_nil ?_ | refine ite_dec ?_ | refine ite_ndec ?_ | refine and_le rfl ?_ | refine and_tr ?_) | dsimp only [fnW, bindNames, bindNest, upd, look, Nat.reduceBEq, cond_true, cond_false, execW, evalW, evalsW, orW, andW, chainW, bt_name, bt_names, bt_swap, bt_nest, cw_eq, cw_ne, cw_lt, cw_le, cw_gt, cw_ge, cw_is_nn, cw_is_tn, cw_isnot_nn, cw_isnot_tn, bw_add, bw_sub, bw_mul, bw_mod, bw_fdiv, bw_pow, bw_lsh, bw_rsh, bw_and, tob_bool, toi_int, ite_tt, ite_ff, ln1, ln0, gd1, gd0, rev2, rev3, ap0, ap1, not_t, not_f, at_p, at_b, at_g, at_n, isCurve_curve, Nat.reduceAdd, sub_tup, pl0_2, pl1_2, pl0_3, pl1_3, pl2_3, gc1, gc0, pt_some]))
  refine c_is_on (n + 4) hp0 bg ?_
  rw [on]
  (repeat (first | (with_reducible first | refine ct_none ?_ | refine ct_some ?_ | refine ex_cons ?_ | refine ex_nil ?_ | refine ite_dec ?_ | refine ite_ndec ?_ | refine and_le rfl ?_ | refine and_tr ?_) | dsimp only [fnW, bindNames, bindNest, upd, look, Nat.reduceBEq, cond_true, cond_false, execW, evalW, evalsW, orW, andW, chainW, bt_name, bt_names, bt_swap, bt_nest, cw_eq, cw_ne, cw_lt, cw_le, cw_gt, cw_ge, cw_is_nn, cw_is_tn, cw_isnot_nn, cw_isnot_tn, bw_add, bw_sub, bw_mul, bw_mod, bw_fdiv, bw_pow, bw_lsh, bw_rsh, bw_and, tob_bool, toi_int, ite_tt, ite_ff, ln1, ln0, gd1, gd0, rev2, rev3, ap0, ap1, not_t, not_f, at_p, at_b, at_g, at_n, isCurve_curve, Nat.reduceAdd, sub_tup, pl0_2, pl1_2, pl0_3, pl1_3, pl2_3, gc1, gc0]))
  refine c_times (n + 2) hp bp bg hm bm ?_
  rw [e2]
  (repeat (first | (with_reducible first | refine ct_none ?_ | refine ct_some ?_ | refine ex_cons ?_ | refine ex_nil ?_ | refine ite_dec ?_ | refine ite_ndec ?_ | refine and_le rfl ?_ | refine and_tr ?_) | dsimp only [fnW, bindNames, bindNest, upd, look, Nat.reduceBEq, cond_true, cond_false, execW, evalW, evalsW, orW, andW, chainW, bt_name, bt_names, bt_swap, bt_nest, cw_eq, cw_ne, cw_lt, cw_le, cw_gt, cw_ge, cw_is_nn, cw_is_tn, cw_isnot_nn, cw_isnot_tn, bw_add, bw_sub, bw_mul, bw_mod, bw_fdiv, bw_pow, bw_lsh, bw_rsh, bw_and, tob_bool, toi_int, ite_tt, ite_ff, ln1, ln0, gd1, gd0, rev2, rev3, ap0, ap1, not_t, not_f, at_p, at_b, at_g, at_n, isCurve_curve, Nat.reduceAdd, sub_tup, pl0_2, pl1_2, pl0_3, pl1_3, pl2_3, gc1, gc0]))
  rw [show AV.tup [.int x, .int (p - y)] = pt (some (x, p - y)) from rfl, cw_eq_pt]
  exact h _
theorem c_great (n : Nat) (G : Great) {w : Nat} {st : St} {Q : AV → St → Prop} (W : WellOk w st) (h : ∀ st', Q (.bool true) st') : callW (n + 6) 25 [.lst w] st Q :=
  great_end n gr3 gr4 gr1 gr2 gr5 G.on G.tw W (fun hq => c_secp (n + 3) hq) h

noncomputable def p71 : List (Int × Int) := pointsF 7 1 7
noncomputable def l71 : List Pt := Option.none :: p71.map some
structure Even : Prop where
  add : ∀ P ∈ l71, ∀ R ∈ l71, addF 7 P R = sumF 7 (invF 7) P R
  dbl : ∀ P ∈ l71, dblF 7 P = sumF 7 (invF 7) P P
  mul : ∀ P ∈ l71, ∀ k : Nat, k < 12 → timesF 7 12 k P = kth 7 (invF 7) P k
  pts : Pts 7 1 p71
  len : p71.length = 11
  lens : ∀ i ≤ 7, (pointsF 7 1 i).length ≤ 200
theorem bdp_l71 (E : Even) {P : Pt} (h : P ∈ l71) : BdP P := by
  unfold l71 at h
  rcases List.mem_cons.mp h with rfl | h
  · trivial
  · obtain ⟨q, hq, rfl⟩ := List.mem_map.mp h
    have := E.pts.rng q hq
    exact ⟨bd_int (by omega) (by omega), bd_int (by omega) (by omega)⟩
theorem times_mod (p m k : Int) (P : Pt) (hm : 0 < m) : timesF p m k P = timesF p m ((k % m).toNat : Nat) P := by
  have k0 := Int.emod_nonneg k (Int.ne_of_gt hm)
  have e : ((k % m).toNat : Int) % m = k % m := by rw [Int.toNat_of_nonneg k0, Int.emod_emod]
  cases P with
  | none => rfl
  | some q => obtain ⟨x, y⟩ := q; unfold timesF; rw [e]
theorem bw_addl {i j : Nat} {l r : List AV} {st : St} {Q : AV → St → Prop} (h1 : st[i]? = some l) (h2 : st[j]? = some r) (h3 : l.length + r.length ≤ 1000) (h : Q (.lst st.length) (st ++ [l ++ r])) : binW .Add (.lst i) (.lst j) st Q := by
  unfold binW
  simp only [h1, h2]
  exact ⟨trivial, h3, h⟩
theorem c_even (n : Nat) (E : Even) {w : Nat} {st : St} {Q : AV → St → Prop} (W : WellOk w st) (h : ∀ st', Q (.bool true) st') : callW (n + 6) 24 [.lst w] st Q := by
  have b7 : Bd 7 := by unfold Bd; decide
  have hl := E.len
  refine callW_fn (by decide) (by decide) (by decide) rfl ?_
  delta a_law_even_right b_law_even_right
  (repeat (first | (with_reducible first | refine ct_none ?_ | refine ct_some ?_ | refine ex_cons ?_ | refine ex_nil ?_ | refine ite_dec ?_ | refine ite_ndec ?_ | refine and_le rfl ?_ | refine and_tr ?_) | dsimp only [fnW, bindNames, bindNest, upd, look, Nat.reduceBEq, cond_true, cond_false, execW, evalW, evalsW, orW, andW, chainW, bt_name, bt_names, bt_swap, bt_nest, cw_eq, cw_ne, cw_lt, cw_le, cw_gt, cw_ge, cw_is_nn, cw_is_tn, cw_isnot_nn, cw_isnot_tn, bw_add, bw_sub, bw_mul, bw_mod, bw_fdiv, bw_pow, bw_lsh, bw_rsh, bw_and, tob_bool, toi_int, ite_tt, ite_ff, ln1, ln0, gd1, gd0, rev2, rev3, ap0, ap1, not_t, not_f, at_p, at_b, at_g, at_n, isCurve_curve, Nat.reduceAdd, sub_tup, pl0_2, pl1_2, pl0_3, pl1_3, pl2_3, gc1, gc0]))
  refine c_listed (n + 4) (q := 7) (b := 1) (by decide) (by decide) E.lens (by unfold Bd; decide) fun u st1 hr hu huge => ?_
  obtain ⟨r, rfl⟩ := hr
  (repeat (first | (with_reducible first | refine ct_none ?_ | refine ct_some ?_ | refine ex_cons ?_ | refine ex_nil ?_ | refine ite_dec ?_ | refine ite_ndec ?_ | refine and_le rfl ?_ | refine and_tr ?_) | dsimp only [fnW, bindNames, bindNest, upd, look, Nat.reduceBEq, cond_true, cond_false, execW, evalW, evalsW, orW, andW, chainW, bt_name, bt_names, bt_swap, bt_nest, cw_eq, cw_ne, cw_lt, cw_le, cw_gt, cw_ge, cw_is_nn, cw_is_tn, cw_isnot_nn, cw_isnot_tn, bw_add, bw_sub, bw_mul, bw_mod, bw_fdiv, bw_pow, bw_lsh, bw_rsh, bw_and, tob_bool, toi_int, ite_tt, ite_ff, ln1, ln0, gd1, gd0, rev2, rev3, ap0, ap1, not_t, not_f, at_p, at_b, at_g, at_n, isCurve_curve, Nat.reduceAdd, sub_tup, pl0_2, pl1_2, pl0_3, pl1_3, pl2_3, gc1, gc0]))
  refine c_inverses (n + 4) (by decide) (by decide) b7 ?_
  (repeat (first | (with_reducible first | refine ct_none ?_ | refine ct_some ?_ | refine ex_cons ?_ | refine ex_nil ?_ | refine ite_dec ?_ | refine ite_ndec ?_ | refine and_le rfl ?_ | refine and_tr ?_) | dsimp only [fnW, bindNames, bindNest, upd, look, Nat.reduceBEq, cond_true, cond_false, execW, evalW, evalsW, orW, andW, chainW, bt_name, bt_names, bt_swap, bt_nest, cw_eq, cw_ne, cw_lt, cw_le, cw_gt, cw_ge, cw_is_nn, cw_is_tn, cw_isnot_nn, cw_isnot_tn, bw_add, bw_sub, bw_mul, bw_mod, bw_fdiv, bw_pow, bw_lsh, bw_rsh, bw_and, tob_bool, toi_int, ite_tt, ite_ff, ln1, ln0, gd1, gd0, rev2, rev3, ap0, ap1, not_t, not_f, at_p, at_b, at_g, at_n, isCurve_curve, Nat.reduceAdd, sub_tup, pl0_2, pl1_2, pl0_3, pl1_3, pl2_3, gc1, gc0]))
  (repeat (first | (with_reducible refine And.intro (by first | with_reducible assumption | (refine Bn.small ?_; (repeat' first | (with_reducible refine Bn.base ?_; with_reducible assumption) | with_reducible refine Bn.mul ?_ ?_ | with_reducible refine Bn.add ?_ ?_ | with_reducible refine Bn.sub ?_ ?_ | with_reducible refine Bn.neg ?_ | (with_reducible refine Bn.mod ?_ (by with_reducible assumption); first | with_reducible assumption | omega) | exact Bn.lit (by decide)); done) | omega) ?_) | (with_reducible first | refine ct_none ?_ | refine ct_some ?_ | refine ex_cons ?_ | refine ex_nil ?_ | refine ite_dec ?_ | refine ite_ndec ?_ | refine and_le rfl ?_ | refine and_tr ?_) | dsimp only [fnW, bindNames, bindNest, upd, look, Nat.reduceBEq, cond_true, cond_false, execW, evalW, evalsW, orW, andW, chainW, bt_name, bt_names, bt_swap, bt_nest, cw_eq, cw_ne, cw_lt, cw_le, cw_gt, cw_ge, cw_is_nn, cw_is_tn, cw_isnot_nn, cw_isnot_tn, bw_add, bw_sub, bw_mul, bw_mod, bw_fdiv, bw_pow, bw_lsh, bw_rsh, bw_and, tob_bool, toi_int, ite_tt, ite_ff, ln1, ln0, gd1, gd0, rev2, rev3, ap0, ap1, not_t, not_f, at_p, at_b, at_g, at_n, isCurve_curve, Nat.reduceAdd, sub_tup, pl0_2, pl1_2, pl0_3, pl1_3, pl2_3, gc1, gc0]))
  have huw : u ≠ w := W.ne huge
  have W1 := (W.app r).app [(invF 7).map AV.int]
  have gu1 : ((st ++ r) ++ [(invF 7).map AV.int])[u]? = some (p71.map ptv) := getElem?_prefix hu
  have gi1 : ((st ++ r) ++ [(invF 7).map AV.int])[(st ++ r).length]? = some ((invF 7).map AV.int) := gl _ _
  generalize hI : (st ++ r).length = iv at gi1 ⊢
  have hivw : iv ≠ w := W.ne (by rw [← hI]; simp)
  generalize (st ++ r) ++ [(invF 7).map AV.int] = st2 at W1 gu1 gi1 ⊢
  obtain ⟨q0, qs, hq0⟩ : ∃ q0 qs, p71 = q0 :: qs := by
    cases hh : p71 with
    | nil => rw [hh] at hl; cases hl
    | cons a l => exact ⟨a, l, rfl⟩
  refine sub_lst gu1 (place_nat (by decide) (by rw [List.length_map, hl]; decide) (by rw [List.length_map, hl]; decide)) (d := ptv q0) (by rw [hq0]; rfl) ?_
  (repeat (first | (with_reducible first | refine ct_none ?_ | refine ct_some ?_ | refine ex_cons ?_ | refine ex_nil ?_ | refine ite_dec ?_ | refine ite_ndec ?_ | refine and_le rfl ?_ | refine and_tr ?_) | dsimp only [fnW, bindNames, bindNest, upd, look, Nat.reduceBEq, cond_true, cond_false, execW, evalW, evalsW, orW, andW, chainW, bt_name, bt_names, bt_swap, bt_nest, cw_eq, cw_ne, cw_lt, cw_le, cw_gt, cw_ge, cw_is_nn, cw_is_tn, cw_isnot_nn, cw_isnot_tn, bw_add, bw_sub, bw_mul, bw_mod, bw_fdiv, bw_pow, bw_lsh, bw_rsh, bw_and, tob_bool, toi_int, ite_tt, ite_ff, ln1, ln0, gd1, gd0, rev2, rev3, ap0, ap1, not_t, not_f, at_p, at_b, at_g, at_n, isCurve_curve, Nat.reduceAdd, sub_tup, pl0_2, pl1_2, pl0_3, pl1_3, pl2_3, gc1, gc0]))
  refine c_curve (n + 4) ?_
  (repeat (first | (with_reducible first | refine ct_none ?_ | refine ct_some ?_ | refine ex_cons ?_ | refine ex_nil ?_ | refine ite_dec ?_ | refine ite_ndec ?_ | refine and_le rfl ?_ | refine and_tr ?_) | dsimp only [fnW, bindNames, bindNest, upd, look, Nat.reduceBEq, cond_true, cond_false, execW, evalW, evalsW, orW, andW, chainW, bt_name, bt_names, bt_swap, bt_nest, cw_eq, cw_ne, cw_lt, cw_le, cw_gt, cw_ge, cw_is_nn, cw_is_tn, cw_isnot_nn, cw_isnot_tn, bw_add, bw_sub, bw_mul, bw_mod, bw_fdiv, bw_pow, bw_lsh, bw_rsh, bw_and, tob_bool, toi_int, ite_tt, ite_ff, ln1, ln0, gd1, gd0, rev2, rev3, ap0, ap1, not_t, not_f, at_p, at_b, at_g, at_n, isCurve_curve, Nat.reduceAdd, sub_tup, pl0_2, pl1_2, pl0_3, pl1_3, pl2_3, gc1, gc0]))
  (repeat (first | (with_reducible refine And.intro (by first | with_reducible assumption | (refine Bn.small ?_; (repeat' first | (with_reducible refine Bn.base ?_; with_reducible assumption) | with_reducible refine Bn.mul ?_ ?_ | with_reducible refine Bn.add ?_ ?_ | with_reducible refine Bn.sub ?_ ?_ | with_reducible refine Bn.neg ?_ | (with_reducible refine Bn.mod ?_ (by with_reducible assumption); first | with_reducible assumption | omega) | exact Bn.lit (by decide)); done) | omega) ?_) | (with_reducible first | refine ct_none ?_ | refine ct_some ?_ | refine ex_cons ?_ | refine ex_nil ?_ | refine ite_dec ?_ | refine ite_ndec ?_ | refine and_le rfl ?_ | refine and_tr ?_) | dsimp only [fnW, bindNames, bindNest, upd, look, Nat.reduceBEq, cond_true, cond_false, execW, evalW, evalsW, orW, andW, chainW, bt_name, bt_names, bt_swap, bt_nest, cw_eq, cw_ne, cw_lt, cw_le, cw_gt, cw_ge, cw_is_nn, cw_is_tn, cw_isnot_nn, cw_isnot_tn, bw_add, bw_sub, bw_mul, bw_mod, bw_fdiv, bw_pow, bw_lsh, bw_rsh, bw_and, tob_bool, toi_int, ite_tt, ite_ff, ln1, ln0, gd1, gd0, rev2, rev3, ap0, ap1, not_t, not_f, at_p, at_b, at_g, at_n, isCurve_curve, Nat.reduceAdd, sub_tup, pl0_2, pl1_2, pl0_3, pl1_3, pl2_3, gc1, gc0]))
  have gu2 := getElem?_prefix (r := [[AV.none]]) gu1
  refine bw_addl (gl st2 _) gu2 (by rw [List.length_map, hl]; decide) ?_
  (repeat (first | (with_reducible first | refine ct_none ?_ | refine ct_some ?_ | refine ex_cons ?_ | refine ex_nil ?_ | refine ite_dec ?_ | refine ite_ndec ?_ | refine and_le rfl ?_ | refine and_tr ?_) | dsimp only [fnW, bindNames, bindNest, upd, look, Nat.reduceBEq, cond_true, cond_false, execW, evalW, evalsW, orW, andW, chainW, bt_name, bt_names, bt_swap, bt_nest, cw_eq, cw_ne, cw_lt, cw_le, cw_gt, cw_ge, cw_is_nn, cw_is_tn, cw_isnot_nn, cw_isnot_tn, bw_add, bw_sub, bw_mul, bw_mod, bw_fdiv, bw_pow, bw_lsh, bw_rsh, bw_and, tob_bool, toi_int, ite_tt, ite_ff, ln1, ln0, gd1, gd0, rev2, rev3, ap0, ap1, not_t, not_f, at_p, at_b, at_g, at_n, isCurve_curve, Nat.reduceAdd, sub_tup, pl0_2, pl1_2, pl0_3, pl1_3, pl2_3, gc1, gc0]))
  (repeat (first | (with_reducible refine And.intro (by first | with_reducible assumption | (refine Bn.small ?_; (repeat' first | (with_reducible refine Bn.base ?_; with_reducible assumption) | with_reducible refine Bn.mul ?_ ?_ | with_reducible refine Bn.add ?_ ?_ | with_reducible refine Bn.sub ?_ ?_ | with_reducible refine Bn.neg ?_ | (with_reducible refine Bn.mod ?_ (by with_reducible assumption); first | with_reducible assumption | omega) | exact Bn.lit (by decide)); done) | omega) ?_) | (with_reducible first | refine ct_none ?_ | refine ct_some ?_ | refine ex_cons ?_ | refine ex_nil ?_ | refine ite_dec ?_ | refine ite_ndec ?_ | refine and_le rfl ?_ | refine and_tr ?_) | dsimp only [fnW, bindNames, bindNest, upd, look, Nat.reduceBEq, cond_true, cond_false, execW, evalW, evalsW, orW, andW, chainW, bt_name, bt_names, bt_swap, bt_nest, cw_eq, cw_ne, cw_lt, cw_le, cw_gt, cw_ge, cw_is_nn, cw_is_tn, cw_isnot_nn, cw_isnot_tn, bw_add, bw_sub, bw_mul, bw_mod, bw_fdiv, bw_pow, bw_lsh, bw_rsh, bw_and, tob_bool, toi_int, ite_tt, ite_ff, ln1, ln0, gd1, gd0, rev2, rev3, ap0, ap1, not_t, not_f, at_p, at_b, at_g, at_n, isCurve_curve, Nat.reduceAdd, sub_tup, pl0_2, pl1_2, pl0_3, pl1_3, pl2_3, gc1, gc0]))
  have hs71 : (AV.none :: p71.map ptv) = l71.map pt := by
    unfold l71
    rw [List.map_cons, List.map_map]
    rfl
  rw [hs71]
  have l71len : l71.length = 12 := by unfold l71; simp [hl]
  have W2 := (W1.app [[AV.none]]).app [l71.map pt]
  have gs2 : ((st2 ++ [[AV.none]]) ++ [l71.map pt])[(st2 ++ [[AV.none]]).length]? = some (l71.map pt) := gl _ _
  have hsw : (st2 ++ [[AV.none]]).length ≠ w := W1.ne (by simp)
  have gi2 := getElem?_prefix (r := [l71.map pt]) (getElem?_prefix (r := [[AV.none]]) gi1)
  have gu3 := getElem?_prefix (r := [l71.map pt]) gu2
  generalize (st2 ++ [[AV.none]]).length = sv at gs2 hsw ⊢
  generalize (st2 ++ [[AV.none]]) ++ [l71.map pt] = st3 at W2 gs2 gi2 gu3 ⊢
  (repeat (first | (with_reducible first | refine ct_none ?_ | refine ct_some ?_ | refine ex_cons ?_ | refine ex_nil ?_ | refine ite_dec ?_ | refine ite_ndec ?_ | refine and_le rfl ?_ | refine and_tr ?_) | dsimp only [fnW, bindNames, bindNest, upd, look, Nat.reduceBEq, cond_true, cond_false, execW, evalW, evalsW, orW, andW, chainW, bt_name, bt_names, bt_swap, bt_nest, cw_eq, cw_ne, cw_lt, cw_le, cw_gt, cw_ge, cw_is_nn, cw_is_tn, cw_isnot_nn, cw_isnot_tn, bw_add, bw_sub, bw_mul, bw_mod, bw_fdiv, bw_pow, bw_lsh, bw_rsh, bw_and, tob_bool, toi_int, ite_tt, ite_ff, ln1, ln0, gd1, gd0, rev2, rev3, ap0, ap1, not_t, not_f, at_p, at_b, at_g, at_n, isCurve_curve, Nat.reduceAdd, sub_tup, pl0_2, pl1_2, pl0_3, pl1_3, pl2_3, gc1, gc0]))
  refine c_draw (n + 3) W2 (by decide) fun a st4 a0 a1 W4 X4 _ => ?_
  have ha : a.toNat < l71.length := by omega
  refine sub_lst (X4 _ _ hsw gs2) (place_nat a0 (by rw [List.length_map, l71len]; exact a1) (by rw [List.length_map, l71len]; decide)) (d := pt l71[a.toNat]) (by rw [List.getElem?_map, List.getElem?_eq_getElem ha]; rfl) ?_
  have mP := List.getElem_mem ha
  generalize l71[a.toNat] = P at mP ⊢
  (repeat (first | (with_reducible first | refine ct_none ?_ | refine ct_some ?_ | refine ex_cons ?_ | refine ex_nil ?_ | refine ite_dec ?_ | refine ite_ndec ?_ | refine and_le rfl ?_ | refine and_tr ?_) | dsimp only [fnW, bindNames, bindNest, upd, look, Nat.reduceBEq, cond_true, cond_false, execW, evalW, evalsW, orW, andW, chainW, bt_name, bt_names, bt_swap, bt_nest, cw_eq, cw_ne, cw_lt, cw_le, cw_gt, cw_ge, cw_is_nn, cw_is_tn, cw_isnot_nn, cw_isnot_tn, bw_add, bw_sub, bw_mul, bw_mod, bw_fdiv, bw_pow, bw_lsh, bw_rsh, bw_and, tob_bool, toi_int, ite_tt, ite_ff, ln1, ln0, gd1, gd0, rev2, rev3, ap0, ap1, not_t, not_f, at_p, at_b, at_g, at_n, isCurve_curve, Nat.reduceAdd, sub_tup, pl0_2, pl1_2, pl0_3, pl1_3, pl2_3, gc1, gc0]))
  refine c_draw (n + 3) W4 (by decide) fun c st5 c0 c1 W5 X5 _ => ?_
  have X35 := X4.trans X5
  have hc : c.toNat < l71.length := by omega
  refine sub_lst (X35 _ _ hsw gs2) (place_nat c0 (by rw [List.length_map, l71len]; exact c1) (by rw [List.length_map, l71len]; decide)) (d := pt l71[c.toNat]) (by rw [List.getElem?_map, List.getElem?_eq_getElem hc]; rfl) ?_
  have mR := List.getElem_mem hc
  generalize l71[c.toNat] = R at mR ⊢
  have bP := bdp_l71 E mP
  have bR := bdp_l71 E mR
  have gi5 := X35 _ _ hivw gi2
  have il : (invF 7).length = (7 : Int).toNat := inv_len 7 (by decide)
  have ib := invUpto_bd (q := 7) (by decide) b7 5
  (repeat (first | (with_reducible first | refine ct_none ?_ | refine ct_some ?_ | refine ex_cons ?_ | refine ex_nil ?_ | refine ite_dec ?_ | refine ite_ndec ?_ | refine and_le rfl ?_ | refine and_tr ?_) | dsimp only [fnW, bindNames, bindNest, upd, look, Nat.reduceBEq, cond_true, cond_false, execW, evalW, evalsW, orW, andW, chainW, bt_name, bt_names, bt_swap, bt_nest, cw_eq, cw_ne, cw_lt, cw_le, cw_gt, cw_ge, cw_is_nn, cw_is_tn, cw_isnot_nn, cw_isnot_tn, bw_add, bw_sub, bw_mul, bw_mod, bw_fdiv, bw_pow, bw_lsh, bw_rsh, bw_and, tob_bool, toi_int, ite_tt, ite_ff, ln1, ln0, gd1, gd0, rev2, rev3, ap0, ap1, not_t, not_f, at_p, at_b, at_g, at_n, isCurve_curve, Nat.reduceAdd, sub_tup, pl0_2, pl1_2, pl0_3, pl1_3, pl2_3, gc1, gc0]))
  (repeat (first | (with_reducible refine And.intro (by first | with_reducible assumption | (refine Bn.small ?_; (repeat' first | (with_reducible refine Bn.base ?_; with_reducible assumption) | with_reducible refine Bn.mul ?_ ?_ | with_reducible refine Bn.add ?_ ?_ | with_reducible refine Bn.sub ?_ ?_ | with_reducible refine Bn.neg ?_ | (with_reducible refine Bn.mod ?_ (by with_reducible assumption); first | with_reducible assumption | omega) | exact Bn.lit (by decide)); done) | omega) ?_) | (with_reducible first | refine ct_none ?_ | refine ct_some ?_ | refine ex_cons ?_ | refine ex_nil ?_ | refine ite_dec ?_ | refine ite_ndec ?_ | refine and_le rfl ?_ | refine and_tr ?_) | dsimp only [fnW, bindNames, bindNest, upd, look, Nat.reduceBEq, cond_true, cond_false, execW, evalW, evalsW, orW, andW, chainW, bt_name, bt_names, bt_swap, bt_nest, cw_eq, cw_ne, cw_lt, cw_le, cw_gt, cw_ge, cw_is_nn, cw_is_tn, cw_isnot_nn, cw_isnot_tn, bw_add, bw_sub, bw_mul, bw_mod, bw_fdiv, bw_pow, bw_lsh, bw_rsh, bw_and, tob_bool, toi_int, ite_tt, ite_ff, ln1, ln0, gd1, gd0, rev2, rev3, ap0, ap1, not_t, not_f, at_p, at_b, at_g, at_n, isCurve_curve, Nat.reduceAdd, sub_tup, pl0_2, pl1_2, pl0_3, pl1_3, pl2_3, gc1, gc0]))
  refine c_added (n + 2) (by decide) b7 bP bR ?_
  (repeat (first | (with_reducible first | refine ct_none ?_ | refine ct_some ?_ | refine ex_cons ?_ | refine ex_nil ?_ | refine ite_dec ?_ | refine ite_ndec ?_ | refine and_le rfl ?_ | refine and_tr ?_) | dsimp only [fnW, bindNames, bindNest, upd, look, Nat.reduceBEq, cond_true, cond_false, execW, evalW, evalsW, orW, andW, chainW, bt_name, bt_names, bt_swap, bt_nest, cw_eq, cw_ne, cw_lt, cw_le, cw_gt, cw_ge, cw_is_nn, cw_is_tn, cw_isnot_nn, cw_isnot_tn, bw_add, bw_sub, bw_mul, bw_mod, bw_fdiv, bw_pow, bw_lsh, bw_rsh, bw_and, tob_bool, toi_int, ite_tt, ite_ff, ln1, ln0, gd1, gd0, rev2, rev3, ap0, ap1, not_t, not_f, at_p, at_b, at_g, at_n, isCurve_curve, Nat.reduceAdd, sub_tup, pl0_2, pl1_2, pl0_3, pl1_3, pl2_3, gc1, gc0]))
  refine c_sum (n + 4) (by decide) b7 gi5 il (by decide) ib bP bR ?_
  rw [E.add P mP R mR, cw_ne_pt]
  (repeat (first | (with_reducible first | refine ct_none ?_ | refine ct_some ?_ | refine ex_cons ?_ | refine ex_nil ?_ | refine ite_dec ?_ | refine ite_ndec ?_ | refine and_le rfl ?_ | refine and_tr ?_) | dsimp only [fnW, bindNames, bindNest, upd, look, Nat.reduceBEq, cond_true, cond_false, execW, evalW, evalsW, orW, andW, chainW, bt_name, bt_names, bt_swap, bt_nest, cw_eq, cw_ne, cw_lt, cw_le, cw_gt, cw_ge, cw_is_nn, cw_is_tn, cw_isnot_nn, cw_isnot_tn, bw_add, bw_sub, bw_mul, bw_mod, bw_fdiv, bw_pow, bw_lsh, bw_rsh, bw_and, tob_bool, toi_int, ite_tt, ite_ff, ln1, ln0, gd1, gd0, rev2, rev3, ap0, ap1, not_t, not_f, at_p, at_b, at_g, at_n, isCurve_curve, Nat.reduceAdd, sub_tup, pl0_2, pl1_2, pl0_3, pl1_3, pl2_3, gc1, gc0]))
  refine c_doubled (n + 3) (by decide) b7 bP ?_
  (repeat (first | (with_reducible first | refine ct_none ?_ | refine ct_some ?_ | refine ex_cons ?_ | refine ex_nil ?_ | refine ite_dec ?_ | refine ite_ndec ?_ | refine and_le rfl ?_ | refine and_tr ?_) | dsimp only [fnW, bindNames, bindNest, upd, look, Nat.reduceBEq, cond_true, cond_false, execW, evalW, evalsW, orW, andW, chainW, bt_name, bt_names, bt_swap, bt_nest, cw_eq, cw_ne, cw_lt, cw_le, cw_gt, cw_ge, cw_is_nn, cw_is_tn, cw_isnot_nn, cw_isnot_tn, bw_add, bw_sub, bw_mul, bw_mod, bw_fdiv, bw_pow, bw_lsh, bw_rsh, bw_and, tob_bool, toi_int, ite_tt, ite_ff, ln1, ln0, gd1, gd0, rev2, rev3, ap0, ap1, not_t, not_f, at_p, at_b, at_g, at_n, isCurve_curve, Nat.reduceAdd, sub_tup, pl0_2, pl1_2, pl0_3, pl1_3, pl2_3, gc1, gc0]))
  refine c_sum (n + 4) (by decide) b7 gi5 il (by decide) ib bP bP ?_
  rw [E.dbl P mP, cw_ne_pt]
  (repeat (first | (with_reducible first | refine ct_none ?_ | refine ct_some ?_ | refine ex_cons ?_ | refine ex_nil ?_ | refine ite_dec ?_ | refine ite_ndec ?_ | refine and_le rfl ?_ | refine and_tr ?_) | dsimp only [fnW, bindNames, bindNest, upd, look, Nat.reduceBEq, cond_true, cond_false, execW, evalW, evalsW, orW, andW, chainW, bt_name, bt_names, bt_swap, bt_nest, cw_eq, cw_ne, cw_lt, cw_le, cw_gt, cw_ge, cw_is_nn, cw_is_tn, cw_isnot_nn, cw_isnot_tn, bw_add, bw_sub, bw_mul, bw_mod, bw_fdiv, bw_pow, bw_lsh, bw_rsh, bw_and, tob_bool, toi_int, ite_tt, ite_ff, ln1, ln0, gd1, gd0, rev2, rev3, ap0, ap1, not_t, not_f, at_p, at_b, at_g, at_n, isCurve_curve, Nat.reduceAdd, sub_tup, pl0_2, pl1_2, pl0_3, pl1_3, pl2_3, gc1, gc0]))
  refine c_number (n + 2) W5 (by decide) (by decide) fun num st6 bn W6 X6 => ?_
  have X36 := X35.trans X6
  have gi6 := X36 _ _ hivw gi2
  have gu6 := X36 _ _ huw gu3
  (repeat (first | (with_reducible first | refine ct_none ?_ | refine ct_some ?_ | refine ex_cons ?_ | refine ex_nil ?_ | refine ite_dec ?_ | refine ite_ndec ?_ | refine and_le rfl ?_ | refine and_tr ?_) | dsimp only [fnW, bindNames, bindNest, upd, look, Nat.reduceBEq, cond_true, cond_false, execW, evalW, evalsW, orW, andW, chainW, bt_name, bt_names, bt_swap, bt_nest, cw_eq, cw_ne, cw_lt, cw_le, cw_gt, cw_ge, cw_is_nn, cw_is_tn, cw_isnot_nn, cw_isnot_tn, bw_add, bw_sub, bw_mul, bw_mod, bw_fdiv, bw_pow, bw_lsh, bw_rsh, bw_and, tob_bool, toi_int, ite_tt, ite_ff, ln1, ln0, gd1, gd0, rev2, rev3, ap0, ap1, not_t, not_f, at_p, at_b, at_g, at_n, isCurve_curve, Nat.reduceAdd, sub_tup, pl0_2, pl1_2, pl0_3, pl1_3, pl2_3, gc1, gc0, itW, rw_int]))
  have n0 := Int.emod_nonneg num (by decide : (12 : Int) ≠ 0)
  have n1 := Int.emod_lt_of_pos num (by decide : (0 : Int) < 12)
  (repeat (first | (with_reducible refine And.intro (by first | with_reducible assumption | (refine Bn.small ?_; (repeat' first | (with_reducible refine Bn.base ?_; with_reducible assumption) | with_reducible refine Bn.mul ?_ ?_ | with_reducible refine Bn.add ?_ ?_ | with_reducible refine Bn.sub ?_ ?_ | with_reducible refine Bn.neg ?_ | (with_reducible refine Bn.mod ?_ (by with_reducible assumption); first | with_reducible assumption | omega) | exact Bn.lit (by decide)); done) | omega) ?_) | (with_reducible first | refine ct_none ?_ | refine ct_some ?_ | refine ex_cons ?_ | refine ex_nil ?_ | refine ite_dec ?_ | refine ite_ndec ?_ | refine and_le rfl ?_ | refine and_tr ?_) | dsimp only [fnW, bindNames, bindNest, upd, look, Nat.reduceBEq, cond_true, cond_false, execW, evalW, evalsW, orW, andW, chainW, bt_name, bt_names, bt_swap, bt_nest, cw_eq, cw_ne, cw_lt, cw_le, cw_gt, cw_ge, cw_is_nn, cw_is_tn, cw_isnot_nn, cw_isnot_tn, bw_add, bw_sub, bw_mul, bw_mod, bw_fdiv, bw_pow, bw_lsh, bw_rsh, bw_and, tob_bool, toi_int, ite_tt, ite_ff, ln1, ln0, gd1, gd0, rev2, rev3, ap0, ap1, not_t, not_f, at_p, at_b, at_g, at_n, isCurve_curve, Nat.reduceAdd, sub_tup, pl0_2, pl1_2, pl0_3, pl1_3, pl2_3, gc1, gc0]))
  refine ⟨fun i loc st' => st' = st6 ∧ look loc 7 = some (pt (kth 7 (invF 7) P i)) ∧ look loc 15 = some (.lst iv) ∧ look loc 23 = some (pt P) ∧ look loc 6 = some (.curve 7 1 (ptv q0) 12) ∧ look loc 22 = some (.int num) ∧ look loc 52 = some (.lst w) ∧ look loc 29 = some (.lst u),
    ⟨rfl, rfl, rfl, rfl, rfl, rfl, rfl, rfl⟩, ?_, ?_⟩
  · rintro i v loc st' ⟨rfl, l7, l15, l23, l6, l22, l52, l29⟩ hv
    refine ⟨trivial, ?_⟩
    (repeat (first | (with_reducible first | refine ct_none ?_ | refine ct_some ?_ | refine ex_cons ?_ | refine ex_nil ?_ | refine ite_dec ?_ | refine ite_ndec ?_ | refine and_le rfl ?_ | refine and_tr ?_) | dsimp only [fnW, bindNames, bindNest, upd, look, Nat.reduceBEq, cond_true, cond_false, execW, evalW, evalsW, orW, andW, chainW, bt_name, bt_names, bt_swap, bt_nest, cw_eq, cw_ne, cw_lt, cw_le, cw_gt, cw_ge, cw_is_nn, cw_is_tn, cw_isnot_nn, cw_isnot_tn, bw_add, bw_sub, bw_mul, bw_mod, bw_fdiv, bw_pow, bw_lsh, bw_rsh, bw_and, tob_bool, toi_int, ite_tt, ite_ff, ln1, ln0, gd1, gd0, rev2, rev3, ap0, ap1, not_t, not_f, at_p, at_b, at_g, at_n, isCurve_curve, Nat.reduceAdd, sub_tup, pl0_2, pl1_2, pl0_3, pl1_3, pl2_3, gc1, gc0] | (refine' lk_m ?lk ?_; (case lk => (repeat' first | (show look _ _ = _; with_reducible assumption) | exact lk_eq | exact rfl | refine' lk_ne ?_ (by rfl))))))
    refine c_sum (n + 4) (by decide) b7 gi6 il (by decide) ib (kth_bd (by decide) b7 bP i) bP ?_
    (repeat (first | (with_reducible first | refine ct_none ?_ | refine ct_some ?_ | refine ex_cons ?_ | refine ex_nil ?_ | refine ite_dec ?_ | refine ite_ndec ?_ | refine and_le rfl ?_ | refine and_tr ?_) | dsimp only [fnW, bindNames, bindNest, upd, look, Nat.reduceBEq, cond_true, cond_false, execW, evalW, evalsW, orW, andW, chainW, bt_name, bt_names, bt_swap, bt_nest, cw_eq, cw_ne, cw_lt, cw_le, cw_gt, cw_ge, cw_is_nn, cw_is_tn, cw_isnot_nn, cw_isnot_tn, bw_add, bw_sub, bw_mul, bw_mod, bw_fdiv, bw_pow, bw_lsh, bw_rsh, bw_and, tob_bool, toi_int, ite_tt, ite_ff, ln1, ln0, gd1, gd0, rev2, rev3, ap0, ap1, not_t, not_f, at_p, at_b, at_g, at_n, isCurve_curve, Nat.reduceAdd, sub_tup, pl0_2, pl1_2, pl0_3, pl1_3, pl2_3, gc1, gc0] | (refine' lk_m ?lk ?_; (case lk => (repeat' first | (show look _ _ = _; with_reducible assumption) | exact lk_eq | exact rfl | refine' lk_ne ?_ (by rfl))))))
    exact ⟨rfl, by (repeat' first | (show look _ _ = _; with_reducible assumption) | exact lk_eq | exact rfl | refine' lk_ne ?_ (by rfl)), by (repeat' first | (show look _ _ = _; with_reducible assumption) | exact lk_eq | exact rfl | refine' lk_ne ?_ (by rfl)), by (repeat' first | (show look _ _ = _; with_reducible assumption) | exact lk_eq | exact rfl | refine' lk_ne ?_ (by rfl)), by (repeat' first | (show look _ _ = _; with_reducible assumption) | exact lk_eq | exact rfl | refine' lk_ne ?_ (by rfl)), by (repeat' first | (show look _ _ = _; with_reducible assumption) | exact lk_eq | exact rfl | refine' lk_ne ?_ (by rfl)), by (repeat' first | (show look _ _ = _; with_reducible assumption) | exact lk_eq | exact rfl | refine' lk_ne ?_ (by rfl)), by (repeat' first | (show look _ _ = _; with_reducible assumption) | exact lk_eq | exact rfl | refine' lk_ne ?_ (by rfl))⟩
  · rintro loc st' ⟨rfl, l7, l15, l23, l6, l22, l52, l29⟩
    refine ⟨trivial, ?_⟩
    (repeat (first | (with_reducible first | refine ct_none ?_ | refine ct_some ?_ | refine ex_cons ?_ | refine ex_nil ?_ | refine ite_dec ?_ | refine ite_ndec ?_ | refine and_le rfl ?_ | refine and_tr ?_) | dsimp only [fnW, bindNames, bindNest, upd, look, Nat.reduceBEq, cond_true, cond_false, execW, evalW, evalsW, orW, andW, chainW, bt_name, bt_names, bt_swap, bt_nest, cw_eq, cw_ne, cw_lt, cw_le, cw_gt, cw_ge, cw_is_nn, cw_is_tn, cw_isnot_nn, cw_isnot_tn, bw_add, bw_sub, bw_mul, bw_mod, bw_fdiv, bw_pow, bw_lsh, bw_rsh, bw_and, tob_bool, toi_int, ite_tt, ite_ff, ln1, ln0, gd1, gd0, rev2, rev3, ap0, ap1, not_t, not_f, at_p, at_b, at_g, at_n, isCurve_curve, Nat.reduceAdd, sub_tup, pl0_2, pl1_2, pl0_3, pl1_3, pl2_3, gc1, gc0] | (refine' lk_m ?lk ?_; (case lk => (repeat' first | (show look _ _ = _; with_reducible assumption) | exact lk_eq | exact rfl | refine' lk_ne ?_ (by rfl))))))
    refine c_times (n + 2) (by decide) b7 bP (by decide) (by unfold Bd; decide) ?_
    (repeat (first | (with_reducible first | refine ct_none ?_ | refine ct_some ?_ | refine ex_cons ?_ | refine ex_nil ?_ | refine ite_dec ?_ | refine ite_ndec ?_ | refine and_le rfl ?_ | refine and_tr ?_) | dsimp only [fnW, bindNames, bindNest, upd, look, Nat.reduceBEq, cond_true, cond_false, execW, evalW, evalsW, orW, andW, chainW, bt_name, bt_names, bt_swap, bt_nest, cw_eq, cw_ne, cw_lt, cw_le, cw_gt, cw_ge, cw_is_nn, cw_is_tn, cw_isnot_nn, cw_isnot_tn, bw_add, bw_sub, bw_mul, bw_mod, bw_fdiv, bw_pow, bw_lsh, bw_rsh, bw_and, tob_bool, toi_int, ite_tt, ite_ff, ln1, ln0, gd1, gd0, rev2, rev3, ap0, ap1, not_t, not_f, at_p, at_b, at_g, at_n, isCurve_curve, Nat.reduceAdd, sub_tup, pl0_2, pl1_2, pl0_3, pl1_3, pl2_3, gc1, gc0] | (refine' lk_m ?lk ?_; (case lk => (repeat' first | (show look _ _ = _; with_reducible assumption) | exact lk_eq | exact rfl | refine' lk_ne ?_ (by rfl))))))
    rw [ri_len, times_mod 7 12 num P (by decide), E.mul P mP _ (by omega)]
    rw [show (num % 12 - 0).toNat = (num % 12).toNat by omega, cw_eq_pt]
    (repeat (first | (with_reducible first | refine ct_none ?_ | refine ct_some ?_ | refine ex_cons ?_ | refine ex_nil ?_ | refine ite_dec ?_ | refine ite_ndec ?_ | refine and_le rfl ?_ | refine and_tr ?_) | dsimp only [fnW, bindNames, bindNest, upd, look, Nat.reduceBEq, cond_true, cond_false, execW, evalW, evalsW, orW, andW, chainW, bt_name, bt_names, bt_swap, bt_nest, cw_eq, cw_ne, cw_lt, cw_le, cw_gt, cw_ge, cw_is_nn, cw_is_tn, cw_isnot_nn, cw_isnot_tn, bw_add, bw_sub, bw_mul, bw_mod, bw_fdiv, bw_pow, bw_lsh, bw_rsh, bw_and, tob_bool, toi_int, ite_tt, ite_ff, ln1, ln0, gd1, gd0, rev2, rev3, ap0, ap1, not_t, not_f, at_p, at_b, at_g, at_n, isCurve_curve, Nat.reduceAdd, sub_tup, pl0_2, pl1_2, pl0_3, pl1_3, pl2_3, gc1, gc0] | (refine' lk_m ?lk ?_; (case lk => (repeat' first | (show look _ _ = _; with_reducible assumption) | exact lk_eq | exact rfl | refine' lk_ne ?_ (by rfl))))))
    refine c_places (p := 7) (b := 1) (m := 12) (G := some q0) n E.pts W6 gu6 huw fun st7 _ _ => ?_
    (repeat (first | (with_reducible first | refine ct_none ?_ | refine ct_some ?_ | refine ex_cons ?_ | refine ex_nil ?_ | refine ite_dec ?_ | refine ite_ndec ?_ | refine and_le rfl ?_ | refine and_tr ?_) | dsimp only [fnW, bindNames, bindNest, upd, look, Nat.reduceBEq, cond_true, cond_false, execW, evalW, evalsW, orW, andW, chainW, bt_name, bt_names, bt_swap, bt_nest, cw_eq, cw_ne, cw_lt, cw_le, cw_gt, cw_ge, cw_is_nn, cw_is_tn, cw_isnot_nn, cw_isnot_tn, bw_add, bw_sub, bw_mul, bw_mod, bw_fdiv, bw_pow, bw_lsh, bw_rsh, bw_and, tob_bool, toi_int, ite_tt, ite_ff, ln1, ln0, gd1, gd0, rev2, rev3, ap0, ap1, not_t, not_f, at_p, at_b, at_g, at_n, isCurve_curve, Nat.reduceAdd, sub_tup, pl0_2, pl1_2, pl0_3, pl1_3, pl2_3, gc1, gc0] | (refine' lk_m ?lk ?_; (case lk => (repeat' first | (show look _ _ = _; with_reducible assumption) | exact lk_eq | exact rfl | refine' lk_ne ?_ (by rfl))))))
    exact h st7
end Mine
set_option maxRecDepth 100000
set_option maxHeartbeats 4000000
set_option linter.unusedSimpArgs false
set_option linter.unusedVariables false
set_option exponentiation.threshold 300
namespace Mine
open PySem PySem.W PyProof.Rows

structure CurveOk (p b m : Nat) : Prop where
  p3 : 3 ≤ p
  p100 : p ≤ 100
  b100 : b ≤ 100
  m3 : 3 ≤ m
  m100 : m ≤ 100
  lens : ∀ i ≤ p, (pointsF p b i).length ≤ 200
  len : (pointsF p b p).length = m - 1
  tab : ∀ g ∈ pointsF p b p, ∃ T, Tab p b m (pointsF p b p) T ∧ T 1 = some g ∧ tabF p (some g) m = (List.range m).map T
noncomputable def law_mid : PSs := (.cons (.assign 29 (.call 17 (.cons (.var 25) (.cons (.var 1) .nil)))) (.cons (.assign 6 (.ite (.cmp (.var 51) [.Eq] (.cons (.int 5) .nil)) (.call 12 .nil) (.call 0 (.cons (.var 25) (.cons (.var 1) (.cons (.sub (.var 29) (.call 13 (.cons (.var 52) (.cons (.bin .Sub (.var 21) (.int 1)) .nil)))) (.cons (.var 21) .nil))))))) (.cons (.ite (.or (.cons (.cmp (.tup (.cons (.attr (.var 6) 0) (.cons (.attr (.var 6) 1) (.cons (.attr (.var 6) 3) .nil)))) [.NotEq] (.cons (.tup (.cons (.var 25) (.cons (.var 1) (.cons (.var 21) .nil)))) .nil)) (.cons (.cmp (.attr (.var 6) 2) [.NotIn] (.cons (.var 29) .nil)) .nil))) (.cons (.ret (.bool false)) .nil) .nil) (.cons (.assignT true (.names [44, 15]) (.tup (.cons (.call 19 (.cons (.var 25) (.cons (.var 21) (.cons (.attr (.var 6) 2) .nil)))) (.cons (.call 16 (.cons (.var 21) .nil)) .nil)))) (.cons (.ite (.or (.cons (.not (.call 20 (.cons (.var 52) (.cons (.var 6) (.cons (.var 44) .nil))))) (.cons (.not (.call 21 (.cons (.var 52) (.cons (.var 6) (.cons (.var 29) .nil))))) .nil))) (.cons (.ret (.bool false)) .nil) .nil) (.cons (.ret (.and (.cons (.call 22 (.cons (.var 52) (.cons (.var 6) (.cons (.var 44) (.cons (.var 15) .nil))))) (.cons (.call 23 (.cons (.var 52) (.cons (.var 6) (.cons (.var 44) (.cons (.var 15) .nil))))) .nil)))) .nil))))))
theorem law_mid_ok (n : Nat) {p b m : Nat} (C : CurveOk p b m) {way : Int} (h5 : way = 5 → p = 67 ∧ b = 7 ∧ m = 79 ∧ ((2 : Int), (22 : Int)) ∈ pointsF 67 7 67) {w : Nat} {st : St} {loc : Loc} {Q : Ends} (W : WellOk w st)
    (l25 : look loc 25 = some (.int p)) (l1 : look loc 1 = some (.int b)) (l21 : look loc 21 = some (.int m)) (l51 : look loc 51 = some (.int way)) (l52 : look loc 52 = some (.lst w))
    (h : ∀ loc st, Q (some (.bool true)) loc st) : execsW ⟨callW (n + 6), globV⟩ law_mid loc st Q := by
  have hp3 := C.p3
  have hp100 := C.p100
  have hb100 := C.b100
  have hm3 := C.m3
  have hm100 := C.m100
  have bb : Bd (b : Int) := bd_int (by omega) (by omega)
  unfold law_mid
  show execsW _ (.cons _ (.cons _ law_tail)) _ _ _
  (repeat (first | (with_reducible first | refine ct_none ?_ | refine ct_some ?_ | refine ex_cons ?_ | refine ex_nil ?_ | refine ite_dec ?_ | refine ite_ndec ?_ | refine and_le rfl ?_ | refine and_tr ?_) | dsimp only [fnW, bindNames, bindNest, upd, look, Nat.reduceBEq, cond_true, cond_false, execW, evalW, evalsW, orW, andW, chainW, bt_name, bt_names, bt_swap, bt_nest, cw_eq, cw_ne, cw_lt, cw_le, cw_gt, cw_ge, cw_is_nn, cw_is_tn, cw_isnot_nn, cw_isnot_tn, bw_add, bw_sub, bw_mul, bw_mod, bw_fdiv, bw_pow, bw_lsh, bw_rsh, bw_and, tob_bool, toi_int, ite_tt, ite_ff, ln1, ln0, gd1, gd0, rev2, rev3, ap0, ap1, not_t, not_f, at_p, at_b, at_g, at_n, isCurve_curve, Nat.reduceAdd, sub_tup, pl0_2, pl1_2, pl0_3, pl1_3, pl2_3, gc1, gc0] | (refine' lk_m ?lk ?_; (case lk => (repeat' first | (show look _ _ = _; with_reducible assumption) | exact lk_eq | exact rfl | refine' lk_ne ?_ (by rfl))))))
  refine c_listed (n + 5) (by omega) hp100 C.lens bb fun u st1 hr hu huge => ?_
  obtain ⟨r, rfl⟩ := hr
  (repeat (first | (with_reducible first | refine ct_none ?_ | refine ct_some ?_ | refine ex_cons ?_ | refine ex_nil ?_ | refine ite_dec ?_ | refine ite_ndec ?_ | refine and_le rfl ?_ | refine and_tr ?_) | dsimp only [fnW, bindNames, bindNest, upd, look, Nat.reduceBEq, cond_true, cond_false, execW, evalW, evalsW, orW, andW, chainW, bt_name, bt_names, bt_swap, bt_nest, cw_eq, cw_ne, cw_lt, cw_le, cw_gt, cw_ge, cw_is_nn, cw_is_tn, cw_isnot_nn, cw_isnot_tn, bw_add, bw_sub, bw_mul, bw_mod, bw_fdiv, bw_pow, bw_lsh, bw_rsh, bw_and, tob_bool, toi_int, ite_tt, ite_ff, ln1, ln0, gd1, gd0, rev2, rev3, ap0, ap1, not_t, not_f, at_p, at_b, at_g, at_n, isCurve_curve, Nat.reduceAdd, sub_tup, pl0_2, pl1_2, pl0_3, pl1_3, pl2_3, gc1, gc0] | (refine' lk_m ?lk ?_; (case lk => (repeat' first | (show look _ _ = _; with_reducible assumption) | exact lk_eq | exact rfl | refine' lk_ne ?_ (by rfl))))))
  have huw : u ≠ w := W.ne huge
  have W1 := W.app r
  generalize st ++ r = st1 at W1 hu ⊢
  have hl := C.len
  by_cases hw : way = 5
  · obtain ⟨rfl, rfl, rfl, hg⟩ := h5 hw
    refine br_t (hw) ?_; (repeat (first | (with_reducible first | refine ct_none ?_ | refine ct_some ?_ | refine ex_cons ?_ | refine ex_nil ?_ | refine ite_dec ?_ | refine ite_ndec ?_ | refine and_le rfl ?_ | refine and_tr ?_) | dsimp only [fnW, bindNames, bindNest, upd, look, Nat.reduceBEq, cond_true, cond_false, execW, evalW, evalsW, orW, andW, chainW, bt_name, bt_names, bt_swap, bt_nest, cw_eq, cw_ne, cw_lt, cw_le, cw_gt, cw_ge, cw_is_nn, cw_is_tn, cw_isnot_nn, cw_isnot_tn, bw_add, bw_sub, bw_mul, bw_mod, bw_fdiv, bw_pow, bw_lsh, bw_rsh, bw_and, tob_bool, toi_int, ite_tt, ite_ff, ln1, ln0, gd1, gd0, rev2, rev3, ap0, ap1, not_t, not_f, at_p, at_b, at_g, at_n, isCurve_curve, Nat.reduceAdd, sub_tup, pl0_2, pl1_2, pl0_3, pl1_3, pl2_3, gc1, gc0])); (repeat (first | (with_reducible first | refine ct_none ?_ | refine ct_some ?_ | refine ex_cons ?_ | refine ex_nil ?_ | refine ite_dec ?_ | refine ite_ndec ?_ | refine and_le rfl ?_ | refine and_tr ?_) | dsimp only [fnW, bindNames, bindNest, upd, look, Nat.reduceBEq, cond_true, cond_false, execW, evalW, evalsW, orW, andW, chainW, bt_name, bt_names, bt_swap, bt_nest, cw_eq, cw_ne, cw_lt, cw_le, cw_gt, cw_ge, cw_is_nn, cw_is_tn, cw_isnot_nn, cw_isnot_tn, bw_add, bw_sub, bw_mul, bw_mod, bw_fdiv, bw_pow, bw_lsh, bw_rsh, bw_and, tob_bool, toi_int, ite_tt, ite_ff, ln1, ln0, gd1, gd0, rev2, rev3, ap0, ap1, not_t, not_f, at_p, at_b, at_g, at_n, isCurve_curve, Nat.reduceAdd, sub_tup, pl0_2, pl1_2, pl0_3, pl1_3, pl2_3, gc1, gc0] | (refine' lk_m ?lk ?_; (case lk => (repeat' first | (show look _ _ = _; with_reducible assumption) | exact lk_eq | exact rfl | refine' lk_ne ?_ (by rfl))))))
    refine c_small (n + 4) ?_
    (repeat (first | (with_reducible first | refine ct_none ?_ | refine ct_some ?_ | refine ex_cons ?_ | refine ex_nil ?_ | refine ite_dec ?_ | refine ite_ndec ?_ | refine and_le rfl ?_ | refine and_tr ?_) | dsimp only [fnW, bindNames, bindNest, upd, look, Nat.reduceBEq, cond_true, cond_false, execW, evalW, evalsW, orW, andW, chainW, bt_name, bt_names, bt_swap, bt_nest, cw_eq, cw_ne, cw_lt, cw_le, cw_gt, cw_ge, cw_is_nn, cw_is_tn, cw_isnot_nn, cw_isnot_tn, bw_add, bw_sub, bw_mul, bw_mod, bw_fdiv, bw_pow, bw_lsh, bw_rsh, bw_and, tob_bool, toi_int, ite_tt, ite_ff, ln1, ln0, gd1, gd0, rev2, rev3, ap0, ap1, not_t, not_f, at_p, at_b, at_g, at_n, isCurve_curve, Nat.reduceAdd, sub_tup, pl0_2, pl1_2, pl0_3, pl1_3, pl2_3, gc1, gc0]))
    obtain ⟨T, X, h1, ht⟩ := C.tab _ hg
    exact law_end n X hg h1 ht W1 hu huw (by (repeat' first | (show look _ _ = _; with_reducible assumption) | exact lk_eq | exact rfl | refine' lk_ne ?_ (by rfl))) (by (repeat' first | (show look _ _ = _; with_reducible assumption) | exact lk_eq | exact rfl | refine' lk_ne ?_ (by rfl))) (by (repeat' first | (show look _ _ = _; with_reducible assumption) | exact lk_eq | exact rfl | refine' lk_ne ?_ (by rfl))) (by (repeat' first | (show look _ _ = _; with_reducible assumption) | exact lk_eq | exact rfl | refine' lk_ne ?_ (by rfl))) (by (repeat' first | (show look _ _ = _; with_reducible assumption) | exact lk_eq | exact rfl | refine' lk_ne ?_ (by rfl))) (by (repeat' first | (show look _ _ = _; with_reducible assumption) | exact lk_eq | exact rfl | refine' lk_ne ?_ (by rfl))) h
  · refine br_f (hw) ?_; (repeat (first | (with_reducible first | refine ct_none ?_ | refine ct_some ?_ | refine ex_cons ?_ | refine ex_nil ?_ | refine ite_dec ?_ | refine ite_ndec ?_ | refine and_le rfl ?_ | refine and_tr ?_) | dsimp only [fnW, bindNames, bindNest, upd, look, Nat.reduceBEq, cond_true, cond_false, execW, evalW, evalsW, orW, andW, chainW, bt_name, bt_names, bt_swap, bt_nest, cw_eq, cw_ne, cw_lt, cw_le, cw_gt, cw_ge, cw_is_nn, cw_is_tn, cw_isnot_nn, cw_isnot_tn, bw_add, bw_sub, bw_mul, bw_mod, bw_fdiv, bw_pow, bw_lsh, bw_rsh, bw_and, tob_bool, toi_int, ite_tt, ite_ff, ln1, ln0, gd1, gd0, rev2, rev3, ap0, ap1, not_t, not_f, at_p, at_b, at_g, at_n, isCurve_curve, Nat.reduceAdd, sub_tup, pl0_2, pl1_2, pl0_3, pl1_3, pl2_3, gc1, gc0])); (repeat (first | (with_reducible first | refine ct_none ?_ | refine ct_some ?_ | refine ex_cons ?_ | refine ex_nil ?_ | refine ite_dec ?_ | refine ite_ndec ?_ | refine and_le rfl ?_ | refine and_tr ?_) | dsimp only [fnW, bindNames, bindNest, upd, look, Nat.reduceBEq, cond_true, cond_false, execW, evalW, evalsW, orW, andW, chainW, bt_name, bt_names, bt_swap, bt_nest, cw_eq, cw_ne, cw_lt, cw_le, cw_gt, cw_ge, cw_is_nn, cw_is_tn, cw_isnot_nn, cw_isnot_tn, bw_add, bw_sub, bw_mul, bw_mod, bw_fdiv, bw_pow, bw_lsh, bw_rsh, bw_and, tob_bool, toi_int, ite_tt, ite_ff, ln1, ln0, gd1, gd0, rev2, rev3, ap0, ap1, not_t, not_f, at_p, at_b, at_g, at_n, isCurve_curve, Nat.reduceAdd, sub_tup, pl0_2, pl1_2, pl0_3, pl1_3, pl2_3, gc1, gc0] | (refine' lk_m ?lk ?_; (case lk => (repeat' first | (show look _ _ = _; with_reducible assumption) | exact lk_eq | exact rfl | refine' lk_ne ?_ (by rfl))))))
    refine c_draw (n + 4) W1 (by omega) fun k st2 k0 k1 W2 X2 _ => ?_
    have hu2 := X2 _ _ huw hu
    have hk : k.toNat < (pointsF p b p).length := by omega
    refine sub_lst hu2 (place_nat k0 (by rw [List.length_map]; omega) (by rw [List.length_map]; omega)) (d := pt (some (pointsF p b p)[k.toNat])) (by rw [List.getElem?_map, List.getElem?_eq_getElem hk]; rfl) ?_
    have hg := List.getElem_mem hk
    generalize (pointsF p b p)[k.toNat] = g at hg ⊢
    (repeat (first | (with_reducible first | refine ct_none ?_ | refine ct_some ?_ | refine ex_cons ?_ | refine ex_nil ?_ | refine ite_dec ?_ | refine ite_ndec ?_ | refine and_le rfl ?_ | refine and_tr ?_) | dsimp only [fnW, bindNames, bindNest, upd, look, Nat.reduceBEq, cond_true, cond_false, execW, evalW, evalsW, orW, andW, chainW, bt_name, bt_names, bt_swap, bt_nest, cw_eq, cw_ne, cw_lt, cw_le, cw_gt, cw_ge, cw_is_nn, cw_is_tn, cw_isnot_nn, cw_isnot_tn, bw_add, bw_sub, bw_mul, bw_mod, bw_fdiv, bw_pow, bw_lsh, bw_rsh, bw_and, tob_bool, toi_int, ite_tt, ite_ff, ln1, ln0, gd1, gd0, rev2, rev3, ap0, ap1, not_t, not_f, at_p, at_b, at_g, at_n, isCurve_curve, Nat.reduceAdd, sub_tup, pl0_2, pl1_2, pl0_3, pl1_3, pl2_3, gc1, gc0] | (refine' lk_m ?lk ?_; (case lk => (repeat' first | (show look _ _ = _; with_reducible assumption) | exact lk_eq | exact rfl | refine' lk_ne ?_ (by rfl))))))
    refine c_curve (n + 5) ?_
    (repeat (first | (with_reducible first | refine ct_none ?_ | refine ct_some ?_ | refine ex_cons ?_ | refine ex_nil ?_ | refine ite_dec ?_ | refine ite_ndec ?_ | refine and_le rfl ?_ | refine and_tr ?_) | dsimp only [fnW, bindNames, bindNest, upd, look, Nat.reduceBEq, cond_true, cond_false, execW, evalW, evalsW, orW, andW, chainW, bt_name, bt_names, bt_swap, bt_nest, cw_eq, cw_ne, cw_lt, cw_le, cw_gt, cw_ge, cw_is_nn, cw_is_tn, cw_isnot_nn, cw_isnot_tn, bw_add, bw_sub, bw_mul, bw_mod, bw_fdiv, bw_pow, bw_lsh, bw_rsh, bw_and, tob_bool, toi_int, ite_tt, ite_ff, ln1, ln0, gd1, gd0, rev2, rev3, ap0, ap1, not_t, not_f, at_p, at_b, at_g, at_n, isCurve_curve, Nat.reduceAdd, sub_tup, pl0_2, pl1_2, pl0_3, pl1_3, pl2_3, gc1, gc0]))
    obtain ⟨T, X, h1, ht⟩ := C.tab _ hg
    exact law_end n X hg h1 ht W2 hu2 huw (by (repeat' first | (show look _ _ = _; with_reducible assumption) | exact lk_eq | exact rfl | refine' lk_ne ?_ (by rfl))) (by (repeat' first | (show look _ _ = _; with_reducible assumption) | exact lk_eq | exact rfl | refine' lk_ne ?_ (by rfl))) (by (repeat' first | (show look _ _ = _; with_reducible assumption) | exact lk_eq | exact rfl | refine' lk_ne ?_ (by rfl))) (by (repeat' first | (show look _ _ = _; with_reducible assumption) | exact lk_eq | exact rfl | refine' lk_ne ?_ (by rfl))) (by (repeat' first | (show look _ _ = _; with_reducible assumption) | exact lk_eq | exact rfl | refine' lk_ne ?_ (by rfl))) (by (repeat' first | (show look _ _ = _; with_reducible assumption) | exact lk_eq | exact rfl | refine' lk_ne ?_ (by rfl))) h
theorem globV_0 : globV 0 = some curvesV := rfl
theorem pl0_6 : place 0 6 = some 0 := rfl
theorem pl1_6 : place 1 6 = some 1 := rfl
theorem pl2_6 : place 2 6 = some 2 := rfl
theorem pl3_6 : place 3 6 = some 3 := rfl
theorem pl4_6 : place 4 6 = some 4 := rfl
theorem pl5_6 : place 5 6 = some 5 := rfl
theorem law_ok (G : Great) (E : Even) (C0 : CurveOk 7 3 13) (C1 : CurveOk 7 5 7) (C2 : CurveOk 19 2 13) (C3 : CurveOk 19 10 19) (C4 : CurveOk 31 3 43) (C5 : CurveOk 67 7 79) (hg : ((2 : Int), (22 : Int)) ∈ pointsF 67 7 67)
    (ns : List Int) (hn : ns.length ≤ 63) : fnW ⟨callW 9, globV⟩ a_law b_law [.scr ns] [] fun d _ => d = .bool true := by
  delta a_law b_law
  show fnW _ _ (.cons _ (.cons _ (.cons _ (.cons _ (.cons _ law_mid))))) _ _ _
  (repeat (first | (with_reducible first | refine ct_none ?_ | refine ct_some ?_ | refine ex_cons ?_ | refine ex_nil ?_ | refine ite_dec ?_ | refine ite_ndec ?_ | refine and_le rfl ?_ | refine and_tr ?_) | dsimp only [fnW, bindNames, bindNest, upd, look, Nat.reduceBEq, cond_true, cond_false, execW, evalW, evalsW, orW, andW, chainW, bt_name, bt_names, bt_swap, bt_nest, cw_eq, cw_ne, cw_lt, cw_le, cw_gt, cw_ge, cw_is_nn, cw_is_tn, cw_isnot_nn, cw_isnot_tn, bw_add, bw_sub, bw_mul, bw_mod, bw_fdiv, bw_pow, bw_lsh, bw_rsh, bw_and, tob_bool, toi_int, ite_tt, ite_ff, ln1, ln0, gd1, gd0, rev2, rev3, ap0, ap1, not_t, not_f, at_p, at_b, at_g, at_n, isCurve_curve, Nat.reduceAdd, sub_tup, pl0_2, pl1_2, pl0_3, pl1_3, pl2_3, gc1, gc0, itW, capture, tos_scr, andW']))
  refine ⟨by omega, ?_⟩
  unfold seqW
  simp only [List.nil_append, List.length_nil, List.getElem?_cons_zero]
  refine loopW_inv (fun i s => s = [(ns.take 40).map .int, ((ns.take 40).take i).map fun c => AV.int (c % 2147483647)]) rfl ?_ ?_
  · rintro i v s K' hv rfl hK
    refine ⟨rfl, ?_⟩
    obtain ⟨c, hc, rfl⟩ : ∃ c, (ns.take 40)[i]? = some c ∧ AV.int c = v := by
      rw [List.getElem?_map] at hv
      exact Option.map_eq_some_iff.mp hv
    (repeat (first | (with_reducible first | refine ct_none ?_ | refine ct_some ?_ | refine ex_cons ?_ | refine ex_nil ?_ | refine ite_dec ?_ | refine ite_ndec ?_ | refine and_le rfl ?_ | refine and_tr ?_) | dsimp only [fnW, bindNames, bindNest, upd, look, Nat.reduceBEq, cond_true, cond_false, execW, evalW, evalsW, orW, andW, chainW, bt_name, bt_names, bt_swap, bt_nest, cw_eq, cw_ne, cw_lt, cw_le, cw_gt, cw_ge, cw_is_nn, cw_is_tn, cw_isnot_nn, cw_isnot_tn, bw_add, bw_sub, bw_mul, bw_mod, bw_fdiv, bw_pow, bw_lsh, bw_rsh, bw_and, tob_bool, toi_int, ite_tt, ite_ff, ln1, ln0, gd1, gd0, rev2, rev3, ap0, ap1, not_t, not_f, at_p, at_b, at_g, at_n, isCurve_curve, Nat.reduceAdd, sub_tup, pl0_2, pl1_2, pl0_3, pl1_3, pl2_3, gc1, gc0]))
    refine ⟨by decide, ?_⟩
    refine ap_lst (l := ((ns.take 40).take i).map fun c => AV.int (c % 2147483647)) rfl (by rw [List.length_map, List.length_take, List.length_take]; omega) (hK _ ?_)
    rw [take_snoc hc, List.map_append]
    rfl
  · rintro s rfl
    refine ⟨rfl, ?_⟩
    rw [List.length_map, List.take_length]
    (repeat (first | (with_reducible first | refine ct_none ?_ | refine ct_some ?_ | refine ex_cons ?_ | refine ex_nil ?_ | refine ite_dec ?_ | refine ite_ndec ?_ | refine and_le rfl ?_ | refine and_tr ?_) | dsimp only [fnW, bindNames, bindNest, upd, look, Nat.reduceBEq, cond_true, cond_false, execW, evalW, evalsW, orW, andW, chainW, bt_name, bt_names, bt_swap, bt_nest, cw_eq, cw_ne, cw_lt, cw_le, cw_gt, cw_ge, cw_is_nn, cw_is_tn, cw_isnot_nn, cw_isnot_tn, bw_add, bw_sub, bw_mul, bw_mod, bw_fdiv, bw_pow, bw_lsh, bw_rsh, bw_and, tob_bool, toi_int, ite_tt, ite_ff, ln1, ln0, gd1, gd0, rev2, rev3, ap0, ap1, not_t, not_f, at_p, at_b, at_g, at_n, isCurve_curve, Nat.reduceAdd, sub_tup, pl0_2, pl1_2, pl0_3, pl1_3, pl2_3, gc1, gc0]))
    (repeat (first | (with_reducible refine And.intro (by first | with_reducible assumption | (refine Bn.small ?_; (repeat' first | (with_reducible refine Bn.base ?_; with_reducible assumption) | with_reducible refine Bn.mul ?_ ?_ | with_reducible refine Bn.add ?_ ?_ | with_reducible refine Bn.sub ?_ ?_ | with_reducible refine Bn.neg ?_ | (with_reducible refine Bn.mod ?_ (by with_reducible assumption); first | with_reducible assumption | omega) | exact Bn.lit (by decide)); done) | omega) ?_) | (with_reducible first | refine ct_none ?_ | refine ct_some ?_ | refine ex_cons ?_ | refine ex_nil ?_ | refine ite_dec ?_ | refine ite_ndec ?_ | refine and_le rfl ?_ | refine and_tr ?_) | dsimp only [fnW, bindNames, bindNest, upd, look, Nat.reduceBEq, cond_true, cond_false, execW, evalW, evalsW, orW, andW, chainW, bt_name, bt_names, bt_swap, bt_nest, cw_eq, cw_ne, cw_lt, cw_le, cw_gt, cw_ge, cw_is_nn, cw_is_tn, cw_isnot_nn, cw_isnot_tn, bw_add, bw_sub, bw_mul, bw_mod, bw_fdiv, bw_pow, bw_lsh, bw_rsh, bw_and, tob_bool, toi_int, ite_tt, ite_ff, ln1, ln0, gd1, gd0, rev2, rev3, ap0, ap1, not_t, not_f, at_p, at_b, at_g, at_n, isCurve_curve, Nat.reduceAdd, sub_tup, pl0_2, pl1_2, pl0_3, pl1_3, pl2_3, gc1, gc0]))
    generalize hst : ([(ns.take 40).map AV.int, (ns.take 40).map (fun c => AV.int (c % 2147483647)), [AV.lst 1, .int 0, .int 11]] : St) = st0
    have W : WellOk 2 st0 := by
      refine ⟨1, (ns.take 40).map (fun c => c % 2147483647), 0, 11, by rw [← hst]; rfl, by rw [← hst, List.map_map]; rfl, by decide, by rw [List.length_map, List.length_take]; omega, by decide, fun a ha => ?_, by unfold Bd; decide⟩
      obtain ⟨c, _, rfl⟩ := List.mem_map.mp ha
      exact bd_mod (by decide) (by unfold Bd; decide)
    clear hst
    (repeat (first | (with_reducible first | refine ct_none ?_ | refine ct_some ?_ | refine ex_cons ?_ | refine ex_nil ?_ | refine ite_dec ?_ | refine ite_ndec ?_ | refine and_le rfl ?_ | refine and_tr ?_) | dsimp only [fnW, bindNames, bindNest, upd, look, Nat.reduceBEq, cond_true, cond_false, execW, evalW, evalsW, orW, andW, chainW, bt_name, bt_names, bt_swap, bt_nest, cw_eq, cw_ne, cw_lt, cw_le, cw_gt, cw_ge, cw_is_nn, cw_is_tn, cw_isnot_nn, cw_isnot_tn, bw_add, bw_sub, bw_mul, bw_mod, bw_fdiv, bw_pow, bw_lsh, bw_rsh, bw_and, tob_bool, toi_int, ite_tt, ite_ff, ln1, ln0, gd1, gd0, rev2, rev3, ap0, ap1, not_t, not_f, at_p, at_b, at_g, at_n, isCurve_curve, Nat.reduceAdd, sub_tup, pl0_2, pl1_2, pl0_3, pl1_3, pl2_3, gc1, gc0]))
    refine c_draw 7 W (by decide) fun way st1 w0 w1 W1 X1 _ => ?_
    (repeat (first | (with_reducible first | refine ct_none ?_ | refine ct_some ?_ | refine ex_cons ?_ | refine ex_nil ?_ | refine ite_dec ?_ | refine ite_ndec ?_ | refine and_le rfl ?_ | refine and_tr ?_) | dsimp only [fnW, bindNames, bindNest, upd, look, Nat.reduceBEq, cond_true, cond_false, execW, evalW, evalsW, orW, andW, chainW, bt_name, bt_names, bt_swap, bt_nest, cw_eq, cw_ne, cw_lt, cw_le, cw_gt, cw_ge, cw_is_nn, cw_is_tn, cw_isnot_nn, cw_isnot_tn, bw_add, bw_sub, bw_mul, bw_mod, bw_fdiv, bw_pow, bw_lsh, bw_rsh, bw_and, tob_bool, toi_int, ite_tt, ite_ff, ln1, ln0, gd1, gd0, rev2, rev3, ap0, ap1, not_t, not_f, at_p, at_b, at_g, at_n, isCurve_curve, Nat.reduceAdd, sub_tup, pl0_2, pl1_2, pl0_3, pl1_3, pl2_3, gc1, gc0]))
    by_cases h7 : way = 7
    · refine br_t (h7) ?_; (repeat (first | (with_reducible first | refine ct_none ?_ | refine ct_some ?_ | refine ex_cons ?_ | refine ex_nil ?_ | refine ite_dec ?_ | refine ite_ndec ?_ | refine and_le rfl ?_ | refine and_tr ?_) | dsimp only [fnW, bindNames, bindNest, upd, look, Nat.reduceBEq, cond_true, cond_false, execW, evalW, evalsW, orW, andW, chainW, bt_name, bt_names, bt_swap, bt_nest, cw_eq, cw_ne, cw_lt, cw_le, cw_gt, cw_ge, cw_is_nn, cw_is_tn, cw_isnot_nn, cw_isnot_tn, bw_add, bw_sub, bw_mul, bw_mod, bw_fdiv, bw_pow, bw_lsh, bw_rsh, bw_and, tob_bool, toi_int, ite_tt, ite_ff, ln1, ln0, gd1, gd0, rev2, rev3, ap0, ap1, not_t, not_f, at_p, at_b, at_g, at_n, isCurve_curve, Nat.reduceAdd, sub_tup, pl0_2, pl1_2, pl0_3, pl1_3, pl2_3, gc1, gc0]))
      exact c_great 3 G W1 fun _ => rfl
    · refine br_f (h7) ?_; (repeat (first | (with_reducible first | refine ct_none ?_ | refine ct_some ?_ | refine ex_cons ?_ | refine ex_nil ?_ | refine ite_dec ?_ | refine ite_ndec ?_ | refine and_le rfl ?_ | refine and_tr ?_) | dsimp only [fnW, bindNames, bindNest, upd, look, Nat.reduceBEq, cond_true, cond_false, execW, evalW, evalsW, orW, andW, chainW, bt_name, bt_names, bt_swap, bt_nest, cw_eq, cw_ne, cw_lt, cw_le, cw_gt, cw_ge, cw_is_nn, cw_is_tn, cw_isnot_nn, cw_isnot_tn, bw_add, bw_sub, bw_mul, bw_mod, bw_fdiv, bw_pow, bw_lsh, bw_rsh, bw_and, tob_bool, toi_int, ite_tt, ite_ff, ln1, ln0, gd1, gd0, rev2, rev3, ap0, ap1, not_t, not_f, at_p, at_b, at_g, at_n, isCurve_curve, Nat.reduceAdd, sub_tup, pl0_2, pl1_2, pl0_3, pl1_3, pl2_3, gc1, gc0]))
      by_cases h6 : way = 6
      · refine br_t (h6) ?_; (repeat (first | (with_reducible first | refine ct_none ?_ | refine ct_some ?_ | refine ex_cons ?_ | refine ex_nil ?_ | refine ite_dec ?_ | refine ite_ndec ?_ | refine and_le rfl ?_ | refine and_tr ?_) | dsimp only [fnW, bindNames, bindNest, upd, look, Nat.reduceBEq, cond_true, cond_false, execW, evalW, evalsW, orW, andW, chainW, bt_name, bt_names, bt_swap, bt_nest, cw_eq, cw_ne, cw_lt, cw_le, cw_gt, cw_ge, cw_is_nn, cw_is_tn, cw_isnot_nn, cw_isnot_tn, bw_add, bw_sub, bw_mul, bw_mod, bw_fdiv, bw_pow, bw_lsh, bw_rsh, bw_and, tob_bool, toi_int, ite_tt, ite_ff, ln1, ln0, gd1, gd0, rev2, rev3, ap0, ap1, not_t, not_f, at_p, at_b, at_g, at_n, isCurve_curve, Nat.reduceAdd, sub_tup, pl0_2, pl1_2, pl0_3, pl1_3, pl2_3, gc1, gc0]))
        exact c_even 3 E W1 fun _ => rfl
      · refine br_f (h6) ?_; (repeat (first | (with_reducible first | refine ct_none ?_ | refine ct_some ?_ | refine ex_cons ?_ | refine ex_nil ?_ | refine ite_dec ?_ | refine ite_ndec ?_ | refine and_le rfl ?_ | refine and_tr ?_) | dsimp only [fnW, bindNames, bindNest, upd, look, Nat.reduceBEq, cond_true, cond_false, execW, evalW, evalsW, orW, andW, chainW, bt_name, bt_names, bt_swap, bt_nest, cw_eq, cw_ne, cw_lt, cw_le, cw_gt, cw_ge, cw_is_nn, cw_is_tn, cw_isnot_nn, cw_isnot_tn, bw_add, bw_sub, bw_mul, bw_mod, bw_fdiv, bw_pow, bw_lsh, bw_rsh, bw_and, tob_bool, toi_int, ite_tt, ite_ff, ln1, ln0, gd1, gd0, rev2, rev3, ap0, ap1, not_t, not_f, at_p, at_b, at_g, at_n, isCurve_curve, Nat.reduceAdd, sub_tup, pl0_2, pl1_2, pl0_3, pl1_3, pl2_3, gc1, gc0]))
        have hcase : way = 0 ∨ way = 1 ∨ way = 2 ∨ way = 3 ∨ way = 4 ∨ way = 5 := by omega
        rcases hcase with rfl | rfl | rfl | rfl | rfl | rfl
        · (repeat (first | (with_reducible first | refine ct_none ?_ | refine ct_some ?_ | refine ex_cons ?_ | refine ex_nil ?_ | refine ite_dec ?_ | refine ite_ndec ?_ | refine and_le rfl ?_ | refine and_tr ?_) | dsimp only [fnW, bindNames, bindNest, upd, look, Nat.reduceBEq, cond_true, cond_false, execW, evalW, evalsW, orW, andW, chainW, bt_name, bt_names, bt_swap, bt_nest, cw_eq, cw_ne, cw_lt, cw_le, cw_gt, cw_ge, cw_is_nn, cw_is_tn, cw_isnot_nn, cw_isnot_tn, bw_add, bw_sub, bw_mul, bw_mod, bw_fdiv, bw_pow, bw_lsh, bw_rsh, bw_and, tob_bool, toi_int, ite_tt, ite_ff, ln1, ln0, gd1, gd0, rev2, rev3, ap0, ap1, not_t, not_f, at_p, at_b, at_g, at_n, isCurve_curve, Nat.reduceAdd, sub_tup, pl0_2, pl1_2, pl0_3, pl1_3, pl2_3, gc1, gc0, globV_0, curvesV, pl0_6, pl1_6, pl2_6, pl3_6, pl4_6, pl5_6]))
          exact law_mid_ok 3 C0 (fun z => by omega) W1 rfl rfl rfl rfl rfl fun _ _ => rfl
        · (repeat (first | (with_reducible first | refine ct_none ?_ | refine ct_some ?_ | refine ex_cons ?_ | refine ex_nil ?_ | refine ite_dec ?_ | refine ite_ndec ?_ | refine and_le rfl ?_ | refine and_tr ?_) | dsimp only [fnW, bindNames, bindNest, upd, look, Nat.reduceBEq, cond_true, cond_false, execW, evalW, evalsW, orW, andW, chainW, bt_name, bt_names, bt_swap, bt_nest, cw_eq, cw_ne, cw_lt, cw_le, cw_gt, cw_ge, cw_is_nn, cw_is_tn, cw_isnot_nn, cw_isnot_tn, bw_add, bw_sub, bw_mul, bw_mod, bw_fdiv, bw_pow, bw_lsh, bw_rsh, bw_and, tob_bool, toi_int, ite_tt, ite_ff, ln1, ln0, gd1, gd0, rev2, rev3, ap0, ap1, not_t, not_f, at_p, at_b, at_g, at_n, isCurve_curve, Nat.reduceAdd, sub_tup, pl0_2, pl1_2, pl0_3, pl1_3, pl2_3, gc1, gc0, globV_0, curvesV, pl0_6, pl1_6, pl2_6, pl3_6, pl4_6, pl5_6]))
          exact law_mid_ok 3 C1 (fun z => by omega) W1 rfl rfl rfl rfl rfl fun _ _ => rfl
        · (repeat (first | (with_reducible first | refine ct_none ?_ | refine ct_some ?_ | refine ex_cons ?_ | refine ex_nil ?_ | refine ite_dec ?_ | refine ite_ndec ?_ | refine and_le rfl ?_ | refine and_tr ?_) | dsimp only [fnW, bindNames, bindNest, upd, look, Nat.reduceBEq, cond_true, cond_false, execW, evalW, evalsW, orW, andW, chainW, bt_name, bt_names, bt_swap, bt_nest, cw_eq, cw_ne, cw_lt, cw_le, cw_gt, cw_ge, cw_is_nn, cw_is_tn, cw_isnot_nn, cw_isnot_tn, bw_add, bw_sub, bw_mul, bw_mod, bw_fdiv, bw_pow, bw_lsh, bw_rsh, bw_and, tob_bool, toi_int, ite_tt, ite_ff, ln1, ln0, gd1, gd0, rev2, rev3, ap0, ap1, not_t, not_f, at_p, at_b, at_g, at_n, isCurve_curve, Nat.reduceAdd, sub_tup, pl0_2, pl1_2, pl0_3, pl1_3, pl2_3, gc1, gc0, globV_0, curvesV, pl0_6, pl1_6, pl2_6, pl3_6, pl4_6, pl5_6]))
          exact law_mid_ok 3 C2 (fun z => by omega) W1 rfl rfl rfl rfl rfl fun _ _ => rfl
        · (repeat (first | (with_reducible first | refine ct_none ?_ | refine ct_some ?_ | refine ex_cons ?_ | refine ex_nil ?_ | refine ite_dec ?_ | refine ite_ndec ?_ | refine and_le rfl ?_ | refine and_tr ?_) | dsimp only [fnW, bindNames, bindNest, upd, look, Nat.reduceBEq, cond_true, cond_false, execW, evalW, evalsW, orW, andW, chainW, bt_name, bt_names, bt_swap, bt_nest, cw_eq, cw_ne, cw_lt, cw_le, cw_gt, cw_ge, cw_is_nn, cw_is_tn, cw_isnot_nn, cw_isnot_tn, bw_add, bw_sub, bw_mul, bw_mod, bw_fdiv, bw_pow, bw_lsh, bw_rsh, bw_and, tob_bool, toi_int, ite_tt, ite_ff, ln1, ln0, gd1, gd0, rev2, rev3, ap0, ap1, not_t, not_f, at_p, at_b, at_g, at_n, isCurve_curve, Nat.reduceAdd, sub_tup, pl0_2, pl1_2, pl0_3, pl1_3, pl2_3, gc1, gc0, globV_0, curvesV, pl0_6, pl1_6, pl2_6, pl3_6, pl4_6, pl5_6]))
          exact law_mid_ok 3 C3 (fun z => by omega) W1 rfl rfl rfl rfl rfl fun _ _ => rfl
        · (repeat (first | (with_reducible first | refine ct_none ?_ | refine ct_some ?_ | refine ex_cons ?_ | refine ex_nil ?_ | refine ite_dec ?_ | refine ite_ndec ?_ | refine and_le rfl ?_ | refine and_tr ?_) | dsimp only [fnW, bindNames, bindNest, upd, look, Nat.reduceBEq, cond_true, cond_false, execW, evalW, evalsW, orW, andW, chainW, bt_name, bt_names, bt_swap, bt_nest, cw_eq, cw_ne, cw_lt, cw_le, cw_gt, cw_ge, cw_is_nn, cw_is_tn, cw_isnot_nn, cw_isnot_tn, bw_add, bw_sub, bw_mul, bw_mod, bw_fdiv, bw_pow, bw_lsh, bw_rsh, bw_and, tob_bool, toi_int, ite_tt, ite_ff, ln1, ln0, gd1, gd0, rev2, rev3, ap0, ap1, not_t, not_f, at_p, at_b, at_g, at_n, isCurve_curve, Nat.reduceAdd, sub_tup, pl0_2, pl1_2, pl0_3, pl1_3, pl2_3, gc1, gc0, globV_0, curvesV, pl0_6, pl1_6, pl2_6, pl3_6, pl4_6, pl5_6]))
          exact law_mid_ok 3 C4 (fun z => by omega) W1 rfl rfl rfl rfl rfl fun _ _ => rfl
        · (repeat (first | (with_reducible first | refine ct_none ?_ | refine ct_some ?_ | refine ex_cons ?_ | refine ex_nil ?_ | refine ite_dec ?_ | refine ite_ndec ?_ | refine and_le rfl ?_ | refine and_tr ?_) | dsimp only [fnW, bindNames, bindNest, upd, look, Nat.reduceBEq, cond_true, cond_false, execW, evalW, evalsW, orW, andW, chainW, bt_name, bt_names, bt_swap, bt_nest, cw_eq, cw_ne, cw_lt, cw_le, cw_gt, cw_ge, cw_is_nn, cw_is_tn, cw_isnot_nn, cw_isnot_tn, bw_add, bw_sub, bw_mul, bw_mod, bw_fdiv, bw_pow, bw_lsh, bw_rsh, bw_and, tob_bool, toi_int, ite_tt, ite_ff, ln1, ln0, gd1, gd0, rev2, rev3, ap0, ap1, not_t, not_f, at_p, at_b, at_g, at_n, isCurve_curve, Nat.reduceAdd, sub_tup, pl0_2, pl1_2, pl0_3, pl1_3, pl2_3, gc1, gc0, globV_0, curvesV, pl0_6, pl1_6, pl2_6, pl3_6, pl4_6, pl5_6]))
          exact law_mid_ok 3 C5 (fun _ => ⟨rfl, rfl, rfl, hg⟩) W1 rfl rfl rfl rfl rfl fun _ _ => rfl
end Mine
set_option maxRecDepth 100000
set_option maxHeartbeats 4000000
set_option linter.unusedSimpArgs false
set_option linter.unusedVariables false
set_option exponentiation.threshold 300
namespace Mine
open PySem PySem.W PyProof.Rows

noncomputable def cell (B i : Nat) : Nat := (B >>> (16 * i)) % 65536
noncomputable def ptOf (c : Nat) : Pt := if c = 0 then Option.none else some (((c / 256 - 1 : Nat) : Int), ((c % 256 : Nat) : Int))
noncomputable def tc (B i : Nat) : Pt := ptOf (cell B i)
noncomputable def ivc (IV d : Nat) : Int := (cell IV d : Nat)
noncomputable def ptBeq : Pt → Pt → Bool
  | Option.none, Option.none => true
  | some (x, y), some (u, v) => decide (x = u) && decide (y = v)
  | _, _ => false
theorem ptBeq_eq : ∀ {P R : Pt}, ptBeq P R = true → P = R
  | Option.none, Option.none, _ => rfl
  | some (x, y), some (u, v), h => by
    simp only [ptBeq, Bool.and_eq_true, decide_eq_true_eq] at h
    rw [h.1, h.2]
  | Option.none, some _, h => by cases h
  | some _, Option.none, h => by cases h
noncomputable def sumG (p : Int) (iv : Nat → Int) : Pt → Pt → Pt
  | Option.none, q => q
  | some a, Option.none => some a
  | some (x, y), some (u, v) => if x = u ∧ (y + v) % p = 0 then Option.none else
    let slope := if x = u then 3 * x * x * iv (2 * y % p).toNat else (v - y) * iv ((u - x) % p).toNat
    let far := (slope * slope - x - u) % p
    some (far, (slope * (x - far) - y) % p)
/-- all numbers that go on from k by steps of w -/
noncomputable def qchk (p : Int) (m B i : Nat) : Nat → Tr → Tr → Nat → Nat → Bool
  | 0, _, _, k, w => Nat.ble m (k + w)
  | f + 1, T, H, k, w => Nat.ble m (k + w) || (
    ptBeq (narrow p (wadd' p T H).1 (wadd' p T H).2.1 (wadd' p T H).2.2) (tc B ((k + w) * i % m)) && qchk p m B i f (wadd' p T H) (wdbl' p H) (k + w) (2 * w) && qchk p m B i f T (wdbl' p H) k (2 * w))
noncomputable def mchk (p m B i : Nat) : Bool := match tc B i with
  | Option.none => true
  | some (x, y) => qchk p m B i 8 (1, 1, 0) (x, y, 1) 0 1
noncomputable def schk (p m B IV i : Nat) : Bool := (List.range m).all fun j => ptBeq (sumG p (ivc IV) (tc B i) (tc B j)) (tc B ((i + j) % m))
end Mine
set_option maxRecDepth 100000
set_option maxHeartbeats 4000000
set_option linter.unusedSimpArgs false
set_option linter.unusedVariables false
set_option exponentiation.threshold 300
namespace Mine
open PySem PySem.W PyProof.Rows

theorem qchk_ok {p : Int} {m B i : Nat} : ∀ (f : Nat) (T H : Tr) (k w : Nat), qchk p m B i f T H k w = true → ∀ (f' j : Nat), 1 ≤ j → j < 2 ^ f' → k + w * j < m →
    narrow p (tloop p f' j T H).1 (tloop p f' j T H).2.1 (tloop p f' j T H).2.2 = tc B ((k + w * j) * i % m)
  | 0, T, H, k, w, h, f', j, hj, hf, hk => by
    unfold qchk at h
    have := Nat.le_of_ble_eq_true h
    have : w ≤ w * j := Nat.le_mul_of_pos_right _ hj
    omega
  | f + 1, T, H, k, w, h, f', j, hj, hf, hk => by
    unfold qchk at h
    have hw : w ≤ w * j := Nat.le_mul_of_pos_right _ hj
    rw [Bool.or_eq_true] at h
    rcases h with h | h
    · have := Nat.le_of_ble_eq_true h
      omega
    · simp only [Bool.and_eq_true] at h
      obtain ⟨⟨h1, h2⟩, h3⟩ := h
      obtain ⟨f'', rfl⟩ : ∃ f'', f' = f'' + 1 := by
        cases f' with
        | zero => simp at hf; omega
        | succ n => exact ⟨n, rfl⟩
      unfold tloop
      rw [if_neg (by omega)]
      have hf2 : j / 2 < 2 ^ f'' := by rw [Nat.pow_succ] at hf; omega
      by_cases hodd : j % 2 = 1
      · rw [if_pos hodd]
        by_cases h0 : j / 2 = 0
        · have : j = 1 := by omega
          subst this
          rw [h0, tloop_zero, Nat.mul_one]
          exact ptBeq_eq h1
        · have e : k + w * j = (k + w) + 2 * w * (j / 2) := by
            have : j = 2 * (j / 2) + 1 := by omega
            rw [show w * j = w * (2 * (j / 2) + 1) by rw [← this], Nat.mul_add, Nat.mul_comm 2 w, Nat.mul_assoc]; omega
          rw [e] at hk ⊢
          exact qchk_ok f _ _ _ _ h2 f'' (j / 2) (by omega) hf2 hk
      · rw [if_neg hodd]
        have e : k + w * j = k + 2 * w * (j / 2) := by
          have : j = 2 * (j / 2) := by omega
          rw [show w * j = w * (2 * (j / 2)) by rw [← this], Nat.mul_comm 2 w, Nat.mul_assoc]
        rw [e] at hk ⊢
        exact qchk_ok f _ _ _ _ h3 f'' (j / 2) (by omega) hf2 hk

noncomputable abbrev XX (B i : Nat) : Nat := cell B i / 256 - 1
noncomputable abbrev YY (B i : Nat) : Nat := cell B i % 256
structure Raw (p b m B IV : Nat) (idx : List Nat) : Prop where
  p3 : 3 ≤ p
  p100 : p ≤ 100
  podd : p % 2 = 1
  b100 : b ≤ 100
  m3 : 3 ≤ m
  m100 : m ≤ 100
  modd : m % 2 = 1
  z : cell B 0 = 0
  s : ((List.range m).all fun i => i == 0 || (!(cell B i == 0) && Nat.blt (XX B i) p && Nat.blt (YY B i) p && Nat.blt 0 (YY B i))) = true
  inv : ((List.range p).all fun d => decide (ivc IV d = (invF p).getD d 0)) = true
  pw : ((List.range p).all fun (d : Nat) => decide (pmod d (p - 2) p = ivc IV d)) = true
  sum : ∀ i, i < m → schk p m B IV i = true
  mul : ∀ i, i < m → mchk p m B i = true
  xx : ((List.range m).all fun i => i == 0 || (List.range m).all fun j => j == 0 || !(XX B i == XX B j) || (YY B i == YY B j || YY B i + YY B j == p)) = true
  ng : ((List.range m).all fun i => i == 0 || (XX B (m - i) == XX B i && YY B (m - i) + YY B i == p)) = true
  pts : pointsF p b p = idx.map fun i => ((XX B i : Int), (YY B i : Int))
  ix : (idx.all fun i => Nat.blt 0 i && Nat.blt i m) = true
  xi : ((List.range m).all fun i => i == 0 || idx.contains i) = true
  len : idx.length = m - 1
  lf : ((List.range p).all fun (x : Nat) => [0, 1].all fun (par : Int) => ptBeq (liftF p b x par) (filt (pointsF p b p) x par).head?) = true
  pm : ((List.range m).all fun (k : Nat) => decide (pmod k (m - 2) m = (invF m).getD k 0)) = true
  iv : ((List.range m).all fun (k : Nat) => k == 0 || decide ((k : Int) * (invF m).getD k 0 % m = 1)) = true

theorem all_range {n : Nat} {f : Nat → Bool} (h : (List.range n).all f = true) {i : Nat} (hi : i < n) : f i = true := List.all_eq_true.mp h i (List.mem_range.mpr hi)
theorem on_pts {q : Nat} (hq : 0 < q) (b : Int) (x y : Int) : onF q b (some (x, y)) = decide ((x, y) ∈ pointsF q b q) := by
  have q0 : (0 : Int) < q := by omega
  have key : (x, y) ∈ pointsF q b q ↔ (0 ≤ x ∧ x < q) ∧ (0 ≤ y ∧ y < q) ∧ (y * y - x * x * x - b) % q = 0 := by
    unfold pointsF
    rw [List.mem_flatMap]
    constructor
    · rintro ⟨a, ha, hm⟩
      have ha := List.mem_range.mp ha
      rw [List.mem_map] at hm
      obtain ⟨c, hc, e⟩ := hm
      cases e
      unfold rootsN at hc
      rw [List.mem_filter] at hc
      have hc1 := List.mem_range.mp hc.1
      have hc2 : c * c % q = (((a : Int) * a * a + b) % q).toNat := by simpa using hc.2
      refine ⟨by omega, by omega, ?_⟩
      have r0 := Int.emod_nonneg ((a : Int) * a * a + b) (Int.ne_of_gt q0)
      have e1 : ((c : Int) * c) % q = ((a : Int) * a * a + b) % q := by
        have : (((c * c % q : Nat)) : Int) = ((a : Int) * a * a + b) % q := by rw [hc2, Int.toNat_of_nonneg r0]
        rw [← this]; simp
      rw [show (c : Int) * c - a * a * a - b = (c : Int) * c - (a * a * a + b) by omega]
      exact Int.emod_eq_emod_iff_emod_sub_eq_zero.mp e1
    · rintro ⟨⟨x0, x1⟩, ⟨y0, y1⟩, h⟩
      refine ⟨x.toNat, List.mem_range.mpr (by omega), ?_⟩
      rw [List.mem_map]
      refine ⟨y.toNat, ?_, by rw [Int.toNat_of_nonneg x0, Int.toNat_of_nonneg y0]⟩
      unfold rootsN
      rw [List.mem_filter]
      refine ⟨List.mem_range.mpr (by omega), ?_⟩
      rw [Int.toNat_of_nonneg x0]
      have e1 : (y * y) % (q : Int) = (x * x * x + b) % q := by
        refine Int.emod_eq_emod_iff_emod_sub_eq_zero.mpr ?_
        rw [show y * y - (x * x * x + b) = y * y - x * x * x - b by omega]
        exact h
      have r0 := Int.emod_nonneg (x * x * x + b) (Int.ne_of_gt q0)
      have e2 : ((y.toNat * y.toNat % q : Nat) : Int) = (x * x * x + b) % q := by
        rw [← e1]
        rw [Int.natCast_emod, Int.natCast_mul, Int.toNat_of_nonneg y0]
      simp only [beq_iff_eq]
      omega
  unfold onF
  by_cases hm : (x, y) ∈ pointsF q b q
  · obtain ⟨⟨x0, x1⟩, ⟨y0, y1⟩, h⟩ := key.mp hm
    simp only [hm, x0, x1, y0, y1, h, decide_true, Bool.and_self]
  · rw [decide_eq_false hm]
    by_cases hc : (0 ≤ x ∧ x < q) ∧ (0 ≤ y ∧ y < q) ∧ (y * y - x * x * x - b) % q = 0
    · exact absurd (key.mpr hc) hm
    · rw [Bool.eq_false_iff]
      intro h
      simp only [Bool.and_eq_true, decide_eq_true_eq] at h
      exact hc ⟨h.1.1, h.1.2, h.2⟩
namespace Raw
variable {p b m B IV : Nat} {idx : List Nat} (X : Raw p b m B IV idx)
include X
theorem tz : tc B 0 = Option.none := by unfold tc ptOf; rw [X.z]; rfl
theorem ts {i : Nat} (h0 : 0 < i) (h1 : i < m) : tc B i = some ((XX B i : Int), (YY B i : Int)) ∧ XX B i < p ∧ YY B i < p ∧ 0 < YY B i := by
  have := all_range X.s h1
  simp only [Bool.or_eq_true, beq_iff_eq, Bool.and_eq_true, Bool.not_eq_true', beq_eq_false_iff_ne, Nat.blt_eq] at this
  rcases this with h | ⟨⟨⟨h2, h3⟩, h4⟩, h5⟩
  · omega
  · refine ⟨?_, h3, h4, h5⟩
    unfold tc ptOf
    rw [if_neg h2]
theorem pwI (a : Int) : pmod a (p - 2) p = (invF p).getD (a % p).toNat 0 := by
  have p0 : (0 : Int) < p := by have := X.p3; omega
  have k0 := Int.emod_nonneg a (Int.ne_of_gt p0)
  have k1 := Int.emod_lt_of_pos a p0
  have e : pmod a (p - 2) p = pmod ((a % p).toNat : Nat) (p - 2) p := by
    unfold pmod
    rw [Int.toNat_of_nonneg k0, Int.emod_emod]
  have hlt : (a % p).toNat < p := by omega
  have h1 := all_range X.pw hlt
  have h2 := all_range X.inv hlt
  simp only [decide_eq_true_eq] at h1 h2
  rw [e, h1, h2]
theorem sumI {i j : Nat} (hi : i < m) (hj : j < m) : sumF p (invF p) (tc B i) (tc B j) = tc B ((i + j) % m) := by
  have h := ptBeq_eq (all_range (show (List.range m).all _ = true from X.sum i hi) hj)
  rw [← h]
  have p0 : (0 : Int) < p := by have := X.p3; omega
  have key : ∀ a : Int, (invF p).getD (a % p).toNat 0 = ivc IV (a % p).toNat := fun a => by
    have k0 := Int.emod_nonneg a (Int.ne_of_gt p0)
    have k1 := Int.emod_lt_of_pos a p0
    have h2 := all_range X.inv (i := (a % p).toNat) (by omega)
    simp only [decide_eq_true_eq] at h2
    exact h2.symm
  generalize tc B i = P
  generalize tc B j = R
  match P, R with
  | Option.none, _ => rfl
  | some _, Option.none => rfl
  | some (x, y), some (u, v) =>
    unfold sumF sumG
    simp only [key]
theorem addI {i j : Nat} (hi : i < m) (hj : j < m) : addF p (tc B i) (tc B j) = tc B ((i + j) % m) := by
  rw [← X.sumI hi hj]
  by_cases i0 : i = 0
  · rw [i0, X.tz]; rfl
  by_cases j0 : j = 0
  · rw [j0, X.tz]
    obtain ⟨e, _⟩ := X.ts (by omega) hi
    rw [e]; rfl
  obtain ⟨e1, x1, y1, y10⟩ := X.ts (by omega : 0 < i) hi
  obtain ⟨e2, x2, y2, y20⟩ := X.ts (by omega : 0 < j) hj
  have hx := all_range X.xx hi
  simp only [Bool.or_eq_true, beq_iff_eq] at hx
  have hx := all_range (hx.resolve_left i0) hj
  simp only [Bool.or_eq_true, beq_iff_eq, Bool.not_eq_true', beq_eq_false_iff_ne] at hx
  have hodd := X.podd
  rw [e1, e2]
  generalize XX B i = x at *
  generalize YY B i = y at *
  generalize XX B j = u at *
  generalize YY B j = v at *
  unfold addF sumF
  dsimp only
  by_cases hxu : x = u
  · subst hxu
    rw [if_pos rfl]
    by_cases hyv : y = v
    · subst hyv
      have hne : ¬ (((y : Int) + y) % p = 0) := by
        intro h
        have : ((y : Int) + y) = p := by
          have h1 : ((y : Int) + y) < 2 * p := by omega
          have h2 : 0 < (y : Int) + y := by omega
          obtain ⟨c, hc⟩ := Int.dvd_of_emod_eq_zero h
          have : c = 1 := by
            have p0 : (0 : Int) < p := by omega
            have c1 : c < 2 := by
              apply Classical.byContradiction
              intro hn
              have : (p : Int) * 2 ≤ p * c := Int.mul_le_mul_of_nonneg_left (by omega) (by omega)
              omega
            have c0 : 0 < c := by
              apply Classical.byContradiction
              intro hn
              have : (p : Int) * c ≤ 0 := Int.mul_nonpos_of_nonneg_of_nonpos (by omega) (by omega)
              omega
            omega
          rw [this] at hc; omega
        omega
      rw [if_pos rfl, if_neg (fun z => hne z.2)]
      unfold dblF
      dsimp only
      rw [if_neg (by omega : ¬ ((y : Int) = 0)), X.pwI]
      simp only [if_true]
      have e3 : ∀ s : Int, s * s - x - x = s * s - 2 * x := fun s => by omega
      rw [e3]
    · have hs : y + v = p := by
        rcases hx with (h | h) | (h | h)
        · exact absurd h j0
        · exact absurd rfl h
        · exact absurd h hyv
        · exact h
      rw [if_neg (by omega), if_pos ⟨rfl, by rw [show (y : Int) + v = p by omega]; exact Int.emod_self⟩]
  · have hxi : ¬ ((x : Int) = u) := by omega
    rw [if_neg hxi, if_neg (fun z => hxi z.1), if_neg hxi, X.pwI]
theorem inj {i j : Nat} (hi : i < m) (hj : j < m) (e : tc B i = tc B j) : i = j := by
  have hm := X.m3
  have h1 := X.sumI hi (Nat.mod_lt _ (by omega) : (m - j) % m < m)
  have h2 := X.sumI hj (Nat.mod_lt _ (by omega) : (m - j) % m < m)
  rw [e, h2] at h1
  have e0 : (j + (m - j) % m) % m = 0 := by
    rw [Nat.add_mod_mod, show j + (m - j) = m by omega, Nat.mod_self]
  rw [e0, X.tz] at h1
  have hlt : (i + (m - j) % m) % m < m := Nat.mod_lt _ (by omega)
  by_cases hz : (i + (m - j) % m) % m = 0
  · rw [Nat.add_mod_mod] at hz
    have : i + (m - j) = m ∨ i + (m - j) = 0 := by
      have h3 : i + (m - j) < 2 * m := by omega
      have h4 := Nat.div_add_mod (i + (m - j)) m
      rw [hz] at h4
      have h5 : (i + (m - j)) / m < 2 := Nat.div_lt_of_lt_mul (by omega)
      have h6 : (i + (m - j)) / m = 0 ∨ (i + (m - j)) / m = 1 := by
        generalize (i + (m - j)) / m = d at h5
        omega
      rcases h6 with h6 | h6
      · rw [h6] at h4; omega
      · rw [h6] at h4; omega
    omega
  · obtain ⟨q, _⟩ := X.ts (by omega) hlt
    rw [q] at h1; cases h1
theorem tab : Tab p b m (pointsF p b p) (tc B) where
  p3 := X.p3
  p100 := X.p100
  podd := X.podd
  b100 := X.b100
  m3 := X.m3
  m100 := X.m100
  modd := X.modd
  zero := X.tz
  som := fun i h0 h1 => let ⟨e, a, c, _⟩ := X.ts h0 h1; ⟨_, _, e, a, c⟩
  add := fun i hi j hj => X.addI hi hj
  dbl := fun i hi => by
    have h := X.addI hi hi
    rw [Nat.two_mul, ← h]
    by_cases i0 : i = 0
    · rw [i0, X.tz]; rfl
    · obtain ⟨e, _⟩ := X.ts (by omega) hi
      rw [e]; unfold addF; dsimp only; rw [if_pos rfl, if_pos rfl]
  mul := fun i hi k hk => by
    by_cases i0 : i = 0
    · rw [i0, X.tz, Nat.mul_zero, Nat.zero_mod, X.tz]; rfl
    · obtain ⟨e, _⟩ := X.ts (by omega) hi
      have hm := X.mul i hi
      unfold mchk at hm
      rw [e] at hm ⊢
      dsimp only at hm
      unfold timesF
      have ek : ((k : Int) % m).toNat = k := by rw [← Int.natCast_emod, Int.toNat_natCast, Nat.mod_eq_of_lt hk]
      dsimp only
      rw [ek]
      by_cases k0 : k = 0
      · rw [k0, tloop_zero, Nat.zero_mul, Nat.zero_mod, X.tz]
        unfold narrow
        rw [if_pos rfl]
      · have hk300 : k < 2 ^ 300 := Nat.lt_trans hk (Nat.lt_of_le_of_lt X.m100 (by decide))
        have := qchk_ok 8 _ _ _ _ hm 300 k (by omega) hk300 (by omega)
        rw [Nat.zero_add, Nat.one_mul] at this
        exact this
  mem := fun i h0 h1 q e => by
    obtain ⟨e1, _⟩ := X.ts h0 h1
    rw [e1] at e; cases e
    rw [X.pts, List.mem_map]
    have := all_range X.xi h1
    simp only [Bool.or_eq_true, beq_iff_eq, List.contains_iff_mem] at this
    exact ⟨i, this.resolve_left (by omega), rfl⟩
  all := fun q hq => by
    rw [X.pts, List.mem_map] at hq
    obtain ⟨i, hi, rfl⟩ := hq
    have := List.all_eq_true.mp X.ix i hi
    simp only [Bool.and_eq_true, Nat.blt_eq] at this
    exact ⟨i, this.1, this.2, (X.ts this.1 this.2).1⟩
  pts := by
    have hl : (pointsF p b p).length = m - 1 := by rw [X.pts, List.length_map, X.len]
    have m1 := X.m3
    have m2 := X.m100
    refine ⟨X.p3, X.p100, X.b100, fun q hq => ?_, fun x x0 x1 par p0 p1 => ?_, fun x y => on_pts (by have := X.p3; omega) b x y, by omega, by omega⟩
    · rw [X.pts, List.mem_map] at hq
      obtain ⟨i, hi, rfl⟩ := hq
      have := List.all_eq_true.mp X.ix i hi
      simp only [Bool.and_eq_true, Nat.blt_eq] at this
      obtain ⟨_, h1, h2, _⟩ := X.ts this.1 this.2
      dsimp only
      omega
    · have h := all_range X.lf (i := x.toNat) (by omega)
      rw [Int.toNat_of_nonneg x0] at h
      have hp : par = 0 ∨ par = 1 := by omega
      have h2 := List.all_eq_true.mp h par (by rcases hp with rfl | rfl <;> simp)
      exact ptBeq_eq h2
  uniq := fun i hi j hj x y z ei ej hyz => by
    by_cases i0 : i = 0
    · rw [i0, X.tz] at ei; cases ei
    by_cases j0 : j = 0
    · rw [j0, X.tz] at ej; cases ej
    obtain ⟨e1, x1, y1, y10⟩ := X.ts (by omega : 0 < i) hi
    obtain ⟨e2, x2, y2, y20⟩ := X.ts (by omega : 0 < j) hj
    have hx := all_range X.xx hi
    simp only [Bool.or_eq_true, beq_iff_eq] at hx
    have hx := all_range (hx.resolve_left i0) hj
    simp only [Bool.or_eq_true, beq_iff_eq, Bool.not_eq_true', beq_eq_false_iff_ne] at hx
    refine X.inj hi hj ?_
    have hodd := X.podd
    have a1 := Option.some.inj (e1.symm.trans ei)
    have a2 := Option.some.inj (e2.symm.trans ej)
    rw [Prod.mk.injEq] at a1 a2
    rw [e1, e2]
    rcases hx with (h | h) | (h | h)
    · exact absurd h j0
    · omega
    · rw [show XX B i = XX B j by omega, h]
    · omega
  neg := fun i h0 h1 x y e => by
    obtain ⟨e1, x1, y1, y10⟩ := X.ts h0 h1
    obtain ⟨e2, x2, y2, y20⟩ := X.ts (by omega : 0 < m - i) (by omega)
    have := all_range X.ng h1
    simp only [Bool.or_eq_true, beq_iff_eq, Bool.and_eq_true] at this
    have hn := this.resolve_left (by omega)
    rw [e1] at e
    cases e
    rw [e2]
    congr 2
    · omega
    · omega
  powm := fun k hk => by simpa using all_range X.pm hk
  invm := fun k h0 hk => by
    have := all_range X.iv hk
    simp only [Bool.or_eq_true, beq_iff_eq, decide_eq_true_eq] at this
    exact this.resolve_left (by omega)
end Raw
end Mine
set_option maxRecDepth 100000
set_option maxHeartbeats 4000000
set_option linter.unusedSimpArgs false
set_option linter.unusedVariables false
set_option exponentiation.threshold 300
namespace Mine
open PySem PySem.W PyProof.Rows

theorem cancel {a a' m : Nat} (h : a * a' % m = 1) {i : Nat} (hi : i < m) : a' * (a * i % m) % m = i := by
  rw [Nat.mul_mod_mod, ← Nat.mul_assoc, Nat.mul_comm a' a, ← Nat.mod_mul_mod, h, Nat.one_mul, Nat.mod_eq_of_lt hi]
theorem cancel2 {a a' m : Nat} (h : a * a' % m = 1) {i : Nat} (hi : i < m) : a * (a' * i % m) % m = i := by
  rw [Nat.mul_mod_mod, ← Nat.mul_assoc, ← Nat.mod_mul_mod, h, Nat.one_mul, Nat.mod_eq_of_lt hi]
namespace Tab
variable {p b m : Nat} {pts : List (Int × Int)} {T : Nat → Pt} (X : Tab p b m pts T)
include X
theorem inverse {a : Nat} (h0 : 0 < a) (h1 : a < m) : ∃ a', a * a' % m = 1 := by
  have m0 : (0 : Int) < m := by have := X.m3; omega
  have h := X.invm a h0 h1
  have k0 := Int.emod_nonneg ((invF (m : Int)).getD a 0) (Int.ne_of_gt m0)
  refine ⟨((invF (m : Int)).getD a 0 % m).toNat, ?_⟩
  have e : (((a * ((invF (m : Int)).getD a 0 % m).toNat % m : Nat)) : Int) = 1 := by
    rw [Int.natCast_emod, Int.natCast_mul, Int.toNat_of_nonneg k0, Int.mul_emod, Int.emod_emod, ← Int.mul_emod]
    exact h
  omega
theorem scale {a : Nat} (h0 : 0 < a) (h1 : a < m) : Tab p b m pts (fun i => T (a * i % m)) := by
  obtain ⟨a', ha⟩ := X.inverse h0 h1
  have m0 : 0 < m := by omega
  have lt : ∀ i, a * i % m < m := fun i => Nat.mod_lt _ m0
  have nz : ∀ i, 0 < i → i < m → 0 < a * i % m := fun i i0 i1 => by
    have hc := cancel ha i1
    apply Classical.byContradiction
    intro hn
    have : a * i % m = 0 := by omega
    rw [this, Nat.mul_zero, Nat.zero_mod] at hc
    omega
  have inj : ∀ i j, i < m → j < m → a * i % m = a * j % m → i = j := fun i j hi hj e => by
    rw [← cancel ha hi, e, cancel ha hj]
  refine ⟨X.p3, X.p100, X.podd, X.b100, X.m3, X.m100, X.modd, ?_, fun i i0 i1 => X.som _ (nz i i0 i1) (lt i), fun i hi j hj => ?_, fun i hi => ?_, fun i hi k hk => ?_, fun i i0 i1 q e => X.mem _ (nz i i0 i1) (lt i) q e, fun q hq => ?_, X.pts, fun i hi j hj x y z e1 e2 e3 => ?_, fun i i0 i1 x y e => ?_, X.powm, X.invm⟩
  · show T (a * 0 % m) = Option.none
    rw [Nat.mul_zero, Nat.zero_mod]; exact X.zero
  · show addF p (T (a * i % m)) (T (a * j % m)) = T (a * ((i + j) % m) % m)
    rw [X.add _ (lt i) _ (lt j), ← Nat.add_mod, ← Nat.mul_add, Nat.mul_mod_mod]
  · show dblF p (T (a * i % m)) = T (a * (2 * i % m) % m)
    rw [X.dbl _ (lt i), Nat.mul_mod_mod, Nat.mul_mod_mod]
    congr 2
    rw [Nat.mul_left_comm]
  · show timesF p m k (T (a * i % m)) = T (a * (k * i % m) % m)
    rw [X.mul _ (lt i) k hk, Nat.mul_mod_mod, Nat.mul_mod_mod]
    congr 2
    rw [Nat.mul_left_comm]
  · obtain ⟨i, i0, i1, e⟩ := X.all q hq
    refine ⟨a' * i % m, ?_, Nat.mod_lt _ m0, ?_⟩
    · have hc := cancel2 ha i1
      apply Classical.byContradiction
      intro hn
      have : a' * i % m = 0 := by omega
      rw [this, Nat.mul_zero, Nat.zero_mod] at hc
      omega
    · show T (a * (a' * i % m) % m) = some q
      rw [cancel2 ha i1, e]
  · exact inj i j hi hj (X.uniq _ (lt i) _ (lt j) x y z e1 e2 e3)
  · show T (a * (m - i) % m) = some (x, p - y)
    have hr := nz i i0 i1
    have hs := lt i
    have e1 : (a * (m - i) + a * i) % m = 0 := by
      rw [← Nat.mul_add, show m - i + i = m by omega, Nat.mul_mod_left]
    rw [Nat.add_mod] at e1
    have hs2 := lt (m - i)
    have e2 : a * (m - i) % m = m - a * i % m := by
      generalize a * (m - i) % m = s at *
      generalize a * i % m = r at *
      have h4 := Nat.div_add_mod (s + r) m
      rw [e1] at h4
      have h5 : (s + r) / m < 2 := Nat.div_lt_of_lt_mul (by omega)
      have h6 : (s + r) / m = 0 ∨ (s + r) / m = 1 := by
        generalize (s + r) / m = d at h5
        omega
      rcases h6 with h6 | h6
      · rw [h6] at h4; omega
      · rw [h6] at h4; omega
    rw [e2]
    exact X.neg _ hr hs x y e
end Tab
theorem points_mono {q : Nat} {b : Int} {i j : Nat} (h : i ≤ j) : (pointsF q b i).length ≤ (pointsF q b j).length := by
  induction h with
  | refl => exact Nat.le_refl _
  | step h ih => rw [points_succ, List.length_append]; omega
theorem Raw.curve {p b m B IV : Nat} {idx : List Nat} (X : Raw p b m B IV idx) : CurveOk p b m := by
  have Y := X.tab
  refine ⟨X.p3, X.p100, X.b100, X.m3, X.m100, fun i hi => ?_, by rw [X.pts, List.length_map, X.len], fun g hg => ?_⟩
  · have h1 := points_mono (q := p) (b := (b : Int)) hi
    have h2 : (pointsF p b p).length = m - 1 := by rw [X.pts, List.length_map, X.len]
    have := X.m100
    omega
  · obtain ⟨a, a0, a1, e⟩ := Y.all g hg
    refine ⟨fun i => tc B (a * i % m), Y.scale a0 a1, ?_, ?_⟩
    · show tc B (a * 1 % m) = some g
      rw [Nat.mul_one, Nat.mod_eq_of_lt a1, e]
    · have key : ∀ i, kth p (invF p) (some g) i = tc B (a * i % m) := by
        intro i
        induction i with
        | zero => show Option.none = _; rw [Nat.mul_zero, Nat.zero_mod, X.tz]
        | succ i ih =>
          show sumF p (invF p) (kth p (invF p) (some g) i) (some g) = _
          rw [ih, ← e, X.sumI (Nat.mod_lt _ (by omega)) a1, Nat.mod_add_mod]
          rfl
      unfold tabF
      exact List.map_congr_left fun i _ => key i
end Mine
set_option maxRecDepth 100000
set_option maxHeartbeats 4000000
set_option linter.unusedSimpArgs false
set_option linter.unusedVariables false
set_option exponentiation.threshold 300
namespace Mine
open PySem PySem.W PyProof.Rows

noncomputable def tB0 : Nat := 3245433620949145506489404597736297251586162153710847099273216
noncomputable def tI0 : Nat := 475372601899939764988270411776
noncomputable def tX0 : List Nat := [1, 12, 3, 10, 5, 8, 9, 4, 6, 7, 2, 11]
noncomputable def tL0 : List (Int × Int) := [(1, 2), (1, 5), (2, 2), (2, 5), (3, 3), (3, 4), (4, 2), (4, 5), (5, 3), (5, 4), (6, 3), (6, 4)]
theorem pts0 : pointsF 7 3 7 = tL0 := by decide +kernel
theorem sum0_0 : ((List.range 10).all fun i => schk 7 13 tB0 tI0 (0 + i)) = true := by decide +kernel
theorem sum0_10 : ((List.range 3).all fun i => schk 7 13 tB0 tI0 (10 + i)) = true := by decide +kernel
theorem sum0 (i : Nat) (hi : i < 13) : schk 7 13 tB0 tI0 i = true := by
  by_cases h0 : i < 10
  · have := all_range sum0_0 (i := i - 0) (by omega)
    rwa [show 0 + (i - 0) = i by omega] at this
  have := all_range sum0_10 (i := i - 10) (by omega)
  rwa [show 10 + (i - 10) = i by omega] at this
theorem mul0_0 : ((List.range 10).all fun i => mchk 7 13 tB0 (0 + i)) = true := by decide +kernel
theorem mul0_10 : ((List.range 3).all fun i => mchk 7 13 tB0 (10 + i)) = true := by decide +kernel
theorem mul0 (i : Nat) (hi : i < 13) : mchk 7 13 tB0 i = true := by
  by_cases h0 : i < 10
  · have := all_range mul0_0 (i := i - 0) (by omega)
    rwa [show 0 + (i - 0) = i by omega] at this
  have := all_range mul0_10 (i := i - 10) (by omega)
  rwa [show 10 + (i - 10) = i by omega] at this
theorem raw0 : Raw 7 3 13 tB0 tI0 tX0 where
  p3 := by decide
  p100 := by decide
  podd := by decide
  b100 := by decide
  m3 := by decide
  m100 := by decide
  modd := by decide
  z := by decide +kernel
  s := by decide +kernel
  inv := by decide +kernel
  pw := by decide +kernel
  sum := sum0
  mul := mul0
  xx := by decide +kernel
  ng := by decide +kernel
  pts := by rw [show ((pointsF 7 ((3 : Nat) : Int) 7)) = tL0 from pts0]; decide +kernel
  ix := by decide +kernel
  xi := by decide +kernel
  len := by decide +kernel
  lf := by rw [show ((pointsF 7 ((3 : Nat) : Int) 7)) = tL0 from pts0]; decide +kernel
  pm := by decide +kernel
  iv := by decide +kernel
noncomputable def tB1 : Nat := 81527642214959994212688758702080
noncomputable def tI1 : Nat := 475372601899939764988270411776
noncomputable def tX1 : List Nat := [1, 6, 2, 5, 4, 3]
noncomputable def tL1 : List (Int × Int) := [(3, 2), (3, 5), (5, 2), (5, 5), (6, 2), (6, 5)]
theorem pts1 : pointsF 7 5 7 = tL1 := by decide +kernel
theorem sum1_0 : ((List.range 7).all fun i => schk 7 7 tB1 tI1 (0 + i)) = true := by decide +kernel
theorem sum1 (i : Nat) (hi : i < 7) : schk 7 7 tB1 tI1 i = true := by
  have := all_range sum1_0 (i := i - 0) (by omega)
  rwa [show 0 + (i - 0) = i by omega] at this
theorem mul1_0 : ((List.range 7).all fun i => mchk 7 7 tB1 (0 + i)) = true := by decide +kernel
theorem mul1 (i : Nat) (hi : i < 7) : mchk 7 7 tB1 i = true := by
  have := all_range mul1_0 (i := i - 0) (by omega)
  rwa [show 0 + (i - 0) = i by omega] at this
theorem raw1 : Raw 7 5 7 tB1 tI1 tX1 where
  p3 := by decide
  p100 := by decide
  podd := by decide
  b100 := by decide
  m3 := by decide
  m100 := by decide
  modd := by decide
  z := by decide +kernel
  s := by decide +kernel
  inv := by decide +kernel
  pw := by decide +kernel
  sum := sum1
  mul := mul1
  xx := by decide +kernel
  ng := by decide +kernel
  pts := by rw [show ((pointsF 7 ((5 : Nat) : Int) 7)) = tL1 from pts1]; decide +kernel
  ix := by decide +kernel
  xi := by decide +kernel
  len := by decide +kernel
  lf := by rw [show ((pointsF 7 ((5 : Nat) : Int) 7)) = tL1 from pts1]; decide +kernel
  pm := by decide +kernel
  iv := by decide +kernel
noncomputable def tB2 : Nat := 8135589826128984922499205955377487405870460597556443508572160
noncomputable def tI2 : Nat := 8951886553024179141271734483083372034539263009307192685133301985641485880694902179823616
noncomputable def tX2 : List Nat := [1, 12, 3, 10, 7, 6, 9, 4, 8, 5, 11, 2]
noncomputable def tL2 : List (Int × Int) := [(4, 3), (4, 16), (6, 3), (6, 16), (8, 1), (8, 18), (9, 3), (9, 16), (12, 1), (12, 18), (18, 1), (18, 18)]
theorem pts2 : pointsF 19 2 19 = tL2 := by decide +kernel
theorem sum2_0 : ((List.range 10).all fun i => schk 19 13 tB2 tI2 (0 + i)) = true := by decide +kernel
theorem sum2_10 : ((List.range 3).all fun i => schk 19 13 tB2 tI2 (10 + i)) = true := by decide +kernel
theorem sum2 (i : Nat) (hi : i < 13) : schk 19 13 tB2 tI2 i = true := by
  by_cases h0 : i < 10
  · have := all_range sum2_0 (i := i - 0) (by omega)
    rwa [show 0 + (i - 0) = i by omega] at this
  have := all_range sum2_10 (i := i - 10) (by omega)
  rwa [show 10 + (i - 10) = i by omega] at this
theorem mul2_0 : ((List.range 10).all fun i => mchk 19 13 tB2 (0 + i)) = true := by decide +kernel
theorem mul2_10 : ((List.range 3).all fun i => mchk 19 13 tB2 (10 + i)) = true := by decide +kernel
theorem mul2 (i : Nat) (hi : i < 13) : mchk 19 13 tB2 i = true := by
  by_cases h0 : i < 10
  · have := all_range mul2_0 (i := i - 0) (by omega)
    rwa [show 0 + (i - 0) = i by omega] at this
  have := all_range mul2_10 (i := i - 10) (by omega)
  rwa [show 10 + (i - 10) = i by omega] at this
theorem raw2 : Raw 19 2 13 tB2 tI2 tX2 where
  p3 := by decide
  p100 := by decide
  podd := by decide
  b100 := by decide
  m3 := by decide
  m100 := by decide
  modd := by decide
  z := by decide +kernel
  s := by decide +kernel
  inv := by decide +kernel
  pw := by decide +kernel
  sum := sum2
  mul := mul2
  xx := by decide +kernel
  ng := by decide +kernel
  pts := by rw [show ((pointsF 19 ((2 : Nat) : Int) 19)) = tL2 from pts2]; decide +kernel
  ix := by decide +kernel
  xi := by decide +kernel
  len := by decide +kernel
  lf := by rw [show ((pointsF 19 ((2 : Nat) : Int) 19)) = tL2 from pts2]; decide +kernel
  pm := by decide +kernel
  iv := by decide +kernel
noncomputable def tB3 : Nat := 260616848307155418017885816911794270483329286027298371999761102231926804217341395708870656
noncomputable def tI3 : Nat := 8951886553024179141271734483083372034539263009307192685133301985641485880694902179823616
noncomputable def tX3 : List Nat := [1, 18, 5, 14, 16, 3, 11, 8, 9, 10, 17, 2, 7, 12, 6, 13, 4, 15]
noncomputable def tL3 : List (Int × Int) := [(1, 7), (1, 12), (4, 6), (4, 13), (6, 6), (6, 13), (7, 7), (7, 12), (8, 3), (8, 16), (9, 6), (9, 13), (11, 7), (11, 12), (12, 3), (12, 16), (18, 3), (18, 16)]
theorem pts3 : pointsF 19 10 19 = tL3 := by decide +kernel
theorem sum3_0 : ((List.range 10).all fun i => schk 19 19 tB3 tI3 (0 + i)) = true := by decide +kernel
theorem sum3_10 : ((List.range 9).all fun i => schk 19 19 tB3 tI3 (10 + i)) = true := by decide +kernel
theorem sum3 (i : Nat) (hi : i < 19) : schk 19 19 tB3 tI3 i = true := by
  by_cases h0 : i < 10
  · have := all_range sum3_0 (i := i - 0) (by omega)
    rwa [show 0 + (i - 0) = i by omega] at this
  have := all_range sum3_10 (i := i - 10) (by omega)
  rwa [show 10 + (i - 10) = i by omega] at this
theorem mul3_0 : ((List.range 10).all fun i => mchk 19 19 tB3 (0 + i)) = true := by decide +kernel
theorem mul3_10 : ((List.range 9).all fun i => mchk 19 19 tB3 (10 + i)) = true := by decide +kernel
theorem mul3 (i : Nat) (hi : i < 19) : mchk 19 19 tB3 i = true := by
  by_cases h0 : i < 10
  · have := all_range mul3_0 (i := i - 0) (by omega)
    rwa [show 0 + (i - 0) = i by omega] at this
  have := all_range mul3_10 (i := i - 10) (by omega)
  rwa [show 10 + (i - 10) = i by omega] at this
theorem raw3 : Raw 19 10 19 tB3 tI3 tX3 where
  p3 := by decide
  p100 := by decide
  podd := by decide
  b100 := by decide
  m3 := by decide
  m100 := by decide
  modd := by decide
  z := by decide +kernel
  s := by decide +kernel
  inv := by decide +kernel
  pw := by decide +kernel
  sum := sum3
  mul := mul3
  xx := by decide +kernel
  ng := by decide +kernel
  pts := by rw [show ((pointsF 19 ((10 : Nat) : Int) 19)) = tL3 from pts3]; decide +kernel
  ix := by decide +kernel
  xi := by decide +kernel
  len := by decide +kernel
  lf := by rw [show ((pointsF 19 ((10 : Nat) : Int) 19)) = tL3 from pts3]; decide +kernel
  pm := by decide +kernel
  iv := by decide +kernel
noncomputable def tB4 : Nat := 10602491056124190105100499172662153323530872418303721148972014260429570351460947302048965152126419137471754362948332160108197385409014122447529402848882842360922009327439108064187001252017091758856620605440
noncomputable def tI4 : Nat := 93653171028287940824428925401709487341620658946046171161165280271918782606314698980331489162732675747611426347221271036135976389660826853351424000
noncomputable def tX4 : List Nat := [1, 42, 10, 33, 6, 37, 30, 13, 16, 27, 20, 23, 34, 9, 28, 15, 32, 11, 2, 41, 25, 18, 12, 31, 17, 26, 40, 3, 21, 22, 39, 4, 36, 7, 5, 38, 19, 24, 29, 14, 8, 35]
noncomputable def tL4 : List (Int × Int) := [(1, 2), (1, 29), (4, 6), (4, 25), (5, 2), (5, 29), (6, 8), (6, 23), (7, 6), (7, 25), (8, 9), (8, 22), (9, 9), (9, 22), (11, 1), (11, 30), (14, 9), (14, 22), (16, 10), (16, 21), (17, 7), (17, 24), (18, 10), (18, 21), (20, 6), (20, 25), (22, 7), (22, 24), (23, 7), (23, 24), (24, 1), (24, 30), (25, 2), (25, 29), (26, 8), (26, 23), (27, 1), (27, 30), (28, 10), (28, 21), (30, 8), (30, 23)]
theorem pts4 : pointsF 31 3 31 = tL4 := by decide +kernel
theorem sum4_0 : ((List.range 10).all fun i => schk 31 43 tB4 tI4 (0 + i)) = true := by decide +kernel
theorem sum4_10 : ((List.range 10).all fun i => schk 31 43 tB4 tI4 (10 + i)) = true := by decide +kernel
theorem sum4_20 : ((List.range 10).all fun i => schk 31 43 tB4 tI4 (20 + i)) = true := by decide +kernel
theorem sum4_30 : ((List.range 10).all fun i => schk 31 43 tB4 tI4 (30 + i)) = true := by decide +kernel
theorem sum4_40 : ((List.range 3).all fun i => schk 31 43 tB4 tI4 (40 + i)) = true := by decide +kernel
theorem sum4 (i : Nat) (hi : i < 43) : schk 31 43 tB4 tI4 i = true := by
  by_cases h0 : i < 10
  · have := all_range sum4_0 (i := i - 0) (by omega)
    rwa [show 0 + (i - 0) = i by omega] at this
  by_cases h10 : i < 20
  · have := all_range sum4_10 (i := i - 10) (by omega)
    rwa [show 10 + (i - 10) = i by omega] at this
  by_cases h20 : i < 30
  · have := all_range sum4_20 (i := i - 20) (by omega)
    rwa [show 20 + (i - 20) = i by omega] at this
  by_cases h30 : i < 40
  · have := all_range sum4_30 (i := i - 30) (by omega)
    rwa [show 30 + (i - 30) = i by omega] at this
  have := all_range sum4_40 (i := i - 40) (by omega)
  rwa [show 40 + (i - 40) = i by omega] at this
theorem mul4_0 : ((List.range 10).all fun i => mchk 31 43 tB4 (0 + i)) = true := by decide +kernel
theorem mul4_10 : ((List.range 10).all fun i => mchk 31 43 tB4 (10 + i)) = true := by decide +kernel
theorem mul4_20 : ((List.range 10).all fun i => mchk 31 43 tB4 (20 + i)) = true := by decide +kernel
theorem mul4_30 : ((List.range 10).all fun i => mchk 31 43 tB4 (30 + i)) = true := by decide +kernel
theorem mul4_40 : ((List.range 3).all fun i => mchk 31 43 tB4 (40 + i)) = true := by decide +kernel
theorem mul4 (i : Nat) (hi : i < 43) : mchk 31 43 tB4 i = true := by
  by_cases h0 : i < 10
  · have := all_range mul4_0 (i := i - 0) (by omega)
    rwa [show 0 + (i - 0) = i by omega] at this
  by_cases h10 : i < 20
  · have := all_range mul4_10 (i := i - 10) (by omega)
    rwa [show 10 + (i - 10) = i by omega] at this
  by_cases h20 : i < 30
  · have := all_range mul4_20 (i := i - 20) (by omega)
    rwa [show 20 + (i - 20) = i by omega] at this
  by_cases h30 : i < 40
  · have := all_range mul4_30 (i := i - 30) (by omega)
    rwa [show 30 + (i - 30) = i by omega] at this
  have := all_range mul4_40 (i := i - 40) (by omega)
  rwa [show 40 + (i - 40) = i by omega] at this
theorem raw4 : Raw 31 3 43 tB4 tI4 tX4 where
  p3 := by decide
  p100 := by decide
  podd := by decide
  b100 := by decide
  m3 := by decide
  m100 := by decide
  modd := by decide
  z := by decide +kernel
  s := by decide +kernel
  inv := by decide +kernel
  pw := by decide +kernel
  sum := sum4
  mul := mul4
  xx := by decide +kernel
  ng := by decide +kernel
  pts := by rw [show ((pointsF 31 ((3 : Nat) : Int) 31)) = tL4 from pts4]; decide +kernel
  ix := by decide +kernel
  xi := by decide +kernel
  len := by decide +kernel
  lf := by rw [show ((pointsF 31 ((3 : Nat) : Int) 31)) = tL4 from pts4]; decide +kernel
  pm := by decide +kernel
  iv := by decide +kernel
noncomputable def tB5 : Nat := 3941270154581190866390761267606472489425290504419327010750572890299757724072005372388824695297882356913432517569398159463132583145735892559401729186620896964604183781725662931624259928238338292501598575201313047867925519378689022354402611635486954579184631526138847856720180974219991156688661486417134907380516540326984803771395535583289547718360761387457536779958914873248055296
noncomputable def tI5 : Nat := 50959208057242711253717907731648146466367486437686226917491895634365283348416812292748802565733107521115270867013962013009565634288503353914688423656469444638006124888601524521799543316592580876489073665316448772673303805381870195125741229691826175810290654659555422740510211886602442580396612464910462676180526075805696
noncomputable def tX5 : List Nat := [1, 78, 40, 39, 14, 65, 53, 26, 55, 24, 6, 73, 58, 21, 70, 9, 67, 12, 72, 7, 52, 27, 35, 44, 71, 8, 57, 22, 11, 68, 4, 75, 16, 63, 41, 38, 42, 37, 46, 33, 19, 60, 34, 45, 30, 49, 74, 5, 54, 25, 31, 48, 51, 28, 59, 20, 2, 77, 15, 64, 62, 17, 13, 66, 10, 69, 23, 56, 43, 36, 76, 3, 29, 50, 47, 32, 18, 61]
noncomputable def tL5 : List (Int × Int) := [(2, 22), (2, 45), (4, 2), (4, 65), (5, 20), (5, 47), (6, 25), (6, 42), (7, 22), (7, 45), (11, 20), (11, 47), (12, 23), (12, 44), (13, 23), (13, 44), (14, 2), (14, 65), (16, 4), (16, 63), (17, 30), (17, 37), (18, 12), (18, 55), (21, 25), (21, 42), (23, 28), (23, 39), (24, 30), (24, 37), (25, 17), (25, 50), (26, 30), (26, 37), (27, 27), (27, 40), (30, 26), (30, 41), (34, 7), (34, 60), (38, 26), (38, 41), (40, 25), (40, 42), (42, 23), (42, 44), (46, 27), (46, 40), (47, 28), (47, 39), (48, 7), (48, 60), (49, 2), (49, 65), (51, 20), (51, 47), (52, 7), (52, 60), (53, 12), (53, 55), (54, 17), (54, 50), (55, 17), (55, 50), (56, 4), (56, 63), (58, 22), (58, 45), (61, 27), (61, 40), (62, 4), (62, 63), (63, 12), (63, 55), (64, 28), (64, 39), (66, 26), (66, 41)]
theorem pts5 : pointsF 67 7 67 = tL5 := by decide +kernel
theorem sum5_0 : ((List.range 10).all fun i => schk 67 79 tB5 tI5 (0 + i)) = true := by decide +kernel
theorem sum5_10 : ((List.range 10).all fun i => schk 67 79 tB5 tI5 (10 + i)) = true := by decide +kernel
theorem sum5_20 : ((List.range 10).all fun i => schk 67 79 tB5 tI5 (20 + i)) = true := by decide +kernel
theorem sum5_30 : ((List.range 10).all fun i => schk 67 79 tB5 tI5 (30 + i)) = true := by decide +kernel
theorem sum5_40 : ((List.range 10).all fun i => schk 67 79 tB5 tI5 (40 + i)) = true := by decide +kernel
theorem sum5_50 : ((List.range 10).all fun i => schk 67 79 tB5 tI5 (50 + i)) = true := by decide +kernel
theorem sum5_60 : ((List.range 10).all fun i => schk 67 79 tB5 tI5 (60 + i)) = true := by decide +kernel
theorem sum5_70 : ((List.range 9).all fun i => schk 67 79 tB5 tI5 (70 + i)) = true := by decide +kernel
theorem sum5 (i : Nat) (hi : i < 79) : schk 67 79 tB5 tI5 i = true := by
  by_cases h0 : i < 10
  · have := all_range sum5_0 (i := i - 0) (by omega)
    rwa [show 0 + (i - 0) = i by omega] at this
  by_cases h10 : i < 20
  · have := all_range sum5_10 (i := i - 10) (by omega)
    rwa [show 10 + (i - 10) = i by omega] at this
  by_cases h20 : i < 30
  · have := all_range sum5_20 (i := i - 20) (by omega)
    rwa [show 20 + (i - 20) = i by omega] at this
  by_cases h30 : i < 40
  · have := all_range sum5_30 (i := i - 30) (by omega)
    rwa [show 30 + (i - 30) = i by omega] at this
  by_cases h40 : i < 50
  · have := all_range sum5_40 (i := i - 40) (by omega)
    rwa [show 40 + (i - 40) = i by omega] at this
  by_cases h50 : i < 60
  · have := all_range sum5_50 (i := i - 50) (by omega)
    rwa [show 50 + (i - 50) = i by omega] at this
  by_cases h60 : i < 70
  · have := all_range sum5_60 (i := i - 60) (by omega)
    rwa [show 60 + (i - 60) = i by omega] at this
  have := all_range sum5_70 (i := i - 70) (by omega)
  rwa [show 70 + (i - 70) = i by omega] at this
theorem mul5_0 : ((List.range 10).all fun i => mchk 67 79 tB5 (0 + i)) = true := by decide +kernel
theorem mul5_10 : ((List.range 10).all fun i => mchk 67 79 tB5 (10 + i)) = true := by decide +kernel
theorem mul5_20 : ((List.range 10).all fun i => mchk 67 79 tB5 (20 + i)) = true := by decide +kernel
theorem mul5_30 : ((List.range 10).all fun i => mchk 67 79 tB5 (30 + i)) = true := by decide +kernel
theorem mul5_40 : ((List.range 10).all fun i => mchk 67 79 tB5 (40 + i)) = true := by decide +kernel
theorem mul5_50 : ((List.range 10).all fun i => mchk 67 79 tB5 (50 + i)) = true := by decide +kernel
theorem mul5_60 : ((List.range 10).all fun i => mchk 67 79 tB5 (60 + i)) = true := by decide +kernel
theorem mul5_70 : ((List.range 9).all fun i => mchk 67 79 tB5 (70 + i)) = true := by decide +kernel
theorem mul5 (i : Nat) (hi : i < 79) : mchk 67 79 tB5 i = true := by
  by_cases h0 : i < 10
  · have := all_range mul5_0 (i := i - 0) (by omega)
    rwa [show 0 + (i - 0) = i by omega] at this
  by_cases h10 : i < 20
  · have := all_range mul5_10 (i := i - 10) (by omega)
    rwa [show 10 + (i - 10) = i by omega] at this
  by_cases h20 : i < 30
  · have := all_range mul5_20 (i := i - 20) (by omega)
    rwa [show 20 + (i - 20) = i by omega] at this
  by_cases h30 : i < 40
  · have := all_range mul5_30 (i := i - 30) (by omega)
    rwa [show 30 + (i - 30) = i by omega] at this
  by_cases h40 : i < 50
  · have := all_range mul5_40 (i := i - 40) (by omega)
    rwa [show 40 + (i - 40) = i by omega] at this
  by_cases h50 : i < 60
  · have := all_range mul5_50 (i := i - 50) (by omega)
    rwa [show 50 + (i - 50) = i by omega] at this
  by_cases h60 : i < 70
  · have := all_range mul5_60 (i := i - 60) (by omega)
    rwa [show 60 + (i - 60) = i by omega] at this
  have := all_range mul5_70 (i := i - 70) (by omega)
  rwa [show 70 + (i - 70) = i by omega] at this
theorem raw5 : Raw 67 7 79 tB5 tI5 tX5 where
  p3 := by decide
  p100 := by decide
  podd := by decide
  b100 := by decide
  m3 := by decide
  m100 := by decide
  modd := by decide
  z := by decide +kernel
  s := by decide +kernel
  inv := by decide +kernel
  pw := by decide +kernel
  sum := sum5
  mul := mul5
  xx := by decide +kernel
  ng := by decide +kernel
  pts := by rw [show ((pointsF 67 ((7 : Nat) : Int) 67)) = tL5 from pts5]; decide +kernel
  ix := by decide +kernel
  xi := by decide +kernel
  len := by decide +kernel
  lf := by rw [show ((pointsF 67 ((7 : Nat) : Int) 67)) = tL5 from pts5]; decide +kernel
  pm := by decide +kernel
  iv := by decide +kernel
theorem in67 : ((2 : Int), (22 : Int)) ∈ pointsF 67 7 67 := by
  rw [pts5]; decide +kernel

noncomputable def tLe : List (Int × Int) := [(0, 1), (0, 6), (1, 3), (1, 4), (2, 3), (2, 4), (3, 0), (4, 3), (4, 4), (5, 0), (6, 0)]
theorem ptsE : p71 = tLe := by decide +kernel
theorem evA : (l71.all fun P => l71.all fun R => ptBeq (addF 7 P R) (sumF 7 (invF 7) P R)) = true := by decide +kernel
theorem evD : (l71.all fun P => ptBeq (dblF 7 P) (sumF 7 (invF 7) P P)) = true := by decide +kernel
theorem evM : (l71.all fun P => (List.range 12).all fun (k : Nat) => ptBeq (timesF 7 12 k P) (kth 7 (invF 7) P k)) = true := by decide +kernel
theorem evL : ((List.range 7).all fun (x : Nat) => [0, 1].all fun (par : Int) => ptBeq (liftF 7 1 x par) (filt tLe x par).head?) = true := by decide +kernel
theorem evR : (tLe.all fun q => decide (0 ≤ q.1) && decide (q.1 < 7) && decide (0 ≤ q.2) && decide (q.2 < 7)) = true := by decide +kernel
theorem even : Even where
  add := fun P hP R hR => ptBeq_eq (List.all_eq_true.mp (List.all_eq_true.mp evA P hP) R hR)
  dbl := fun P hP => ptBeq_eq (List.all_eq_true.mp evD P hP)
  mul := fun P hP k hk => ptBeq_eq (all_range (List.all_eq_true.mp evM P hP) hk)
  len := by rw [ptsE]; rfl
  lens := fun i hi => by
    have h1 := points_mono (q := 7) (b := 1) hi
    have h2 : (pointsF 7 1 7).length = 11 := by
      rw [show pointsF 7 1 7 = tLe from ptsE]; rfl
    omega
  pts := by
    have hl : p71.length = 11 := by rw [ptsE]; rfl
    refine ⟨by decide, by decide, by decide, fun q hq => ?_, fun x x0 x1 par p0 p1 => ?_, fun x y => on_pts (by decide) 1 x y, by omega, by omega⟩
    · rw [ptsE] at hq
      have := List.all_eq_true.mp evR q hq
      simp only [Bool.and_eq_true, decide_eq_true_eq] at this
      omega
    · have h := all_range evL (i := x.toNat) (by omega)
      rw [Int.toNat_of_nonneg x0] at h
      have hp : par = 0 ∨ par = 1 := by omega
      have h2 := List.all_eq_true.mp h par (by rcases hp with rfl | rfl <;> simp)
      rw [ptsE]
      exact ptBeq_eq h2
theorem grA1 : ptBeq (timesF pGreat nGreat 1 gGreat) (some (55066263022277343669578718895168534326250603453777594175500187360389116729240, 32670510020758816978083085130507043184471273380659243275938904335757337482424)) = true := by decide +kernel
theorem grB1 : ptBeq (timesF pGreat nGreat (nGreat - 1) gGreat) (some (55066263022277343669578718895168534326250603453777594175500187360389116729240, pGreat - 32670510020758816978083085130507043184471273380659243275938904335757337482424)) = true := by decide +kernel
theorem grA2 : ptBeq (timesF pGreat nGreat 2 gGreat) (some (89565891926547004231252920425935692360644145829622209833684329913297188986597, 12158399299693830322967808612713398636155367887041628176798871954788371653930)) = true := by decide +kernel
theorem grB2 : ptBeq (timesF pGreat nGreat (nGreat - 2) gGreat) (some (89565891926547004231252920425935692360644145829622209833684329913297188986597, pGreat - 12158399299693830322967808612713398636155367887041628176798871954788371653930)) = true := by decide +kernel
theorem grA3 : ptBeq (timesF pGreat nGreat 3 gGreat) (some (112711660439710606056748659173929673102114977341539408544630613555209775888121, 25583027980570883691656905877401976406448868254816295069919888960541586679410)) = true := by decide +kernel
theorem grB3 : ptBeq (timesF pGreat nGreat (nGreat - 3) gGreat) (some (112711660439710606056748659173929673102114977341539408544630613555209775888121, pGreat - 25583027980570883691656905877401976406448868254816295069919888960541586679410)) = true := by decide +kernel
theorem great : Great where
  on := by decide +kernel
  tw := fun k k1 k3 => by
    have hk : k = 1 ∨ k = 2 ∨ k = 3 := by omega
    rcases hk with rfl | rfl | rfl
    · exact ⟨_, _, ptBeq_eq grA1, ptBeq_eq grB1⟩
    · exact ⟨_, _, ptBeq_eq grA2, ptBeq_eq grB2⟩
    · exact ⟨_, _, ptBeq_eq grA3, ptBeq_eq grB3⟩
theorem lawOK (ns : List Int) (h : ns.length ≤ 63) : fnW ⟨callW 9, globV⟩ a_law b_law [.scr ns] [] fun d _ => d = .bool true :=
  law_ok great even raw0.curve raw1.curve raw2.curve raw3.curve raw4.curve raw5.curve in67 ns h
end Mine
set_option maxRecDepth 100000
set_option maxHeartbeats 8000000
namespace Mine
open PySem PySem.W PySem.Calls
@[reducible] noncomputable def S (x : String) : Str := Str.ofString x
@[reducible] noncomputable def st (x : String) (t : Nat) : Value := .str (Str.ofString x) t
noncomputable def en (P : Params) (x : String) (t : Nat) (v : Value) : DictEntry := { hash := PyData.keyHash P (Str.ofString x), key := .str (Str.ofString x) t, val := v }
noncomputable def nthS : List Stmt → Nat → Stmt
  | [], _ => .Pass ⟨0, 0, 0, 0⟩
  | s :: _, 0 => s
  | _ :: r, n + 1 => nthS r n
/-- the n-th statement of the text -/
noncomputable def tS (n : Nat) : Stmt := nthS PySem.Challenge.pw_pq0391_01.main.body n
/-- the n-th statement of its first class -/
noncomputable def mS (n : Nat) : Stmt := match tS 1 with
  | .ClassDef _ _ _ body _ _ _ _ _ _ _ => nthS body n
  | s => s
/-- the function that the def makes -/
noncomputable def fO (s : Stmt) (q m : String) (t : Nat) (c : Addr) : Obj := match s with
  | .FunctionDef n ps body _ _ _ sc _ _ _ => { cls := .type "function", data := .func { name := n, qualname := Str.ofString q, params := ps, body := .stmts body, scope := sc, globals := 3, closure := [], defaults := .none, kwdefaults := .none, pyModule := .str (Str.ofString m) t, code := .ref c } }
  | _ => { cls := .none, data := .dict #[] 0 }
noncomputable def kK : Params → Frag := fun P => [
(2, { cls := .none, data := .dict #[] }),
  (3, { cls := .type "dict", data := .dict #[en P "__name__" 165 (st "law_pq0391_01" 374), en P "__doc__" 166 (.none), en P "__package__" 167 (.none), en P "__loader__" 168 (.builtin "__main__.__loader__#opaque"), en P "__spec__" 169 (.none), en P "__annotations__" 170 (.ref 6), en P "__builtins__" 171 (.ref 4), en P "__file__" 173 (st "/claim/cut.py" 172), en P "__cached__" 174 (.none), en P "Curve" 278 (.ref 66), en P "wide_doubled" 293 (.ref 77), en P "wide_added" 318 (.ref 84), en P "narrowed" 331 (.ref 91), en P "signature" 345 (.ref 98), en P "recovered" 358 (.ref 105), en P "secp256k1" 367 (.ref 112), en P "small_curve" 373 (.ref 119), en P "_law_curves" 394 (.ref 126), en P "_law_draw" 406 (.ref 133), en P "_law_number" 416 (.ref 140), en P "_law_word" 426 (.ref 147), en P "_law_inverses" 435 (.ref 154), en P "_law_listed" 441 (.ref 159), en P "_law_sum" 457 (.ref 166), en P "_law_multiples" 469 (.ref 173), en P "_law_sums_right" 482 (.ref 180), en P "_law_places_right" 488 (.ref 185), en P "_law_signed_right" 508 (.ref 192), en P "_law_wild_right" 514 (.ref 197), en P "_law_even_right" 530 (.ref 204), en P "_law_great_right" 541 (.ref 211), en P "law" 547 (.ref 216)] 32 }),
  (27, { cls := .type "code", data := .fields #[st "__init__" 201, st "Curve.__init__" 202, st "/claim/cut.py" 203, .int 4 0, .int 5 0, .int 0 0, .int 0 0, .int 3 0, .ref 22, .bool true, .int 181 0, .ref 23, .none, .ref 24, .ref 25, .ref 26, .int 209 0, .int 4 0, st "/claim/cut.py" 210] }),
  (28, fO (mS 0) "Curve.__init__" "gasledger.curve" 187 27),
  (34, { cls := .type "code", data := .fields #[st "is_on" 212, st "Curve.is_on" 213, st "/claim/cut.py" 214, .int 10 0, .int 2 0, .int 0 0, .int 0 0, .int 3 0, .ref 29, .bool true, .int 181 0, .ref 30, .none, .ref 31, .ref 32, .ref 33, .int 219 0, .int 10 0, st "/claim/cut.py" 220] }),
  (35, fO (mS 1) "Curve.is_on" "gasledger.curve" 187 34),
  (41, { cls := .type "code", data := .fields #[st "doubled" 222, st "Curve.doubled" 223, st "/claim/cut.py" 224, .int 16 0, .int 2 0, .int 0 0, .int 0 0, .int 3 0, .ref 36, .bool true, .int 181 0, .ref 37, .none, .ref 38, .ref 39, .ref 40, .int 231 0, .int 16 0, st "/claim/cut.py" 232] }),
  (42, fO (mS 2) "Curve.doubled" "gasledger.curve" 187 41),
  (48, { cls := .type "code", data := .fields #[st "added" 234, st "Curve.added" 235, st "/claim/cut.py" 236, .int 24 0, .int 3 0, .int 0 0, .int 0 0, .int 3 0, .ref 43, .bool true, .int 181 0, .ref 44, .none, .ref 45, .ref 46, .ref 47, .int 242 0, .int 24 0, st "/claim/cut.py" 243] }),
  (49, fO (mS 3) "Curve.added" "gasledger.curve" 187 48),
  (55, { cls := .type "code", data := .fields #[st "times" 245, st "Curve.times" 246, st "/claim/cut.py" 247, .int 33 0, .int 3 0, .int 0 0, .int 0 0, .int 3 0, .ref 50, .bool true, .int 181 0, .ref 51, .none, .ref 52, .ref 53, .ref 54, .int 253 0, .int 33 0, st "/claim/cut.py" 254] }),
  (56, fO (mS 4) "Curve.times" "gasledger.curve" 187 55),
  (62, { cls := .type "code", data := .fields #[st "lifted" 256, st "Curve.lifted" 257, st "/claim/cut.py" 258, .int 45 0, .int 3 0, .int 0 0, .int 0 0, .int 3 0, .ref 57, .bool true, .int 181 0, .ref 58, .none, .ref 59, .ref 60, .ref 61, .int 264 0, .int 45 0, st "/claim/cut.py" 265] }),
  (63, fO (mS 5) "Curve.lifted" "gasledger.curve" 187 62),
  (65, { cls := .type "dict", data := .dict #[en P "__module__" 196 (st "gasledger.curve" 187), en P "__firstlineno__" 200 (.int 2 199), en P "__init__" 211 (.ref 28), en P "is_on" 221 (.ref 35), en P "doubled" 233 (.ref 42), en P "added" 244 (.ref 49), en P "times" 255 (.ref 56), en P "lifted" 266 (.ref 63), en P "__static_attributes__" 271 (.ref 64), en P "__dict__" 273 (.ref 67), en P "__weakref__" 275 (.ref 68), en P "__doc__" 276 (.none)] 4 }),
  (66, { cls := .type "type", data := .cls { name := S "Curve", bases := [.type "object"], mro := [.ref 66, .type "object"], ns := 65, qualname := S "Curve" }, slots := #[none, none, some (st "Curve" 189), some (st "Curve" 197), some (.builtin "object.__new__"), some (.bool true)] }),
  (67, { cls := .type "getset_descriptor", data := .fields #[st "__dict__" 272, .ref 66, .builtin "function.__dict__", .builtin "function.__dict__#set"] }),
  (68, { cls := .type "getset_descriptor", data := .fields #[st "__weakref__" 274, .ref 66, .builtin "ExceptionGroup.__weakref__", .none] }),
  (76, { cls := .type "code", data := .fields #[st "wide_doubled" 279, st "wide_doubled" 280, st "/claim/cut.py" 281, .int 55 0, .int 2 0, .int 0 0, .int 0 0, .int 3 0, .ref 71, .bool true, .int 181 0, .ref 72, .none, .ref 73, .ref 74, .ref 75, .int 291 0, .int 55 0, st "/claim/cut.py" 292] }),
  (77, fO (tS 2) "wide_doubled" "gasledger.curve" 187 76),
  (83, { cls := .type "code", data := .fields #[st "wide_added" 294, st "wide_added" 295, st "/claim/cut.py" 296, .int 64 0, .int 3 0, .int 0 0, .int 0 0, .int 3 0, .ref 78, .bool true, .int 181 0, .ref 79, .none, .ref 80, .ref 81, .ref 82, .int 316 0, .int 64 0, st "/claim/cut.py" 317] }),
  (84, fO (tS 3) "wide_added" "gasledger.curve" 187 83),
  (90, { cls := .type "code", data := .fields #[st "narrowed" 319, st "narrowed" 320, st "/claim/cut.py" 321, .int 78 0, .int 2 0, .int 0 0, .int 0 0, .int 3 0, .ref 85, .bool true, .int 181 0, .ref 86, .none, .ref 87, .ref 88, .ref 89, .int 329 0, .int 78 0, st "/claim/cut.py" 330] }),
  (91, fO (tS 4) "narrowed" "gasledger.curve" 187 90),
  (97, { cls := .type "code", data := .fields #[st "signature" 332, st "signature" 333, st "/claim/cut.py" 334, .int 85 0, .int 4 0, .int 0 0, .int 0 0, .int 3 0, .ref 92, .bool true, .int 181 0, .ref 93, .none, .ref 94, .ref 95, .ref 96, .int 343 0, .int 85 0, st "/claim/cut.py" 344] }),
  (98, fO (tS 5) "signature" "gasledger.curve" 187 97),
  (104, { cls := .type "code", data := .fields #[st "recovered" 346, st "recovered" 347, st "/claim/cut.py" 348, .int 96 0, .int 5 0, .int 0 0, .int 0 0, .int 3 0, .ref 99, .bool true, .int 181 0, .ref 100, .none, .ref 101, .ref 102, .ref 103, .int 356 0, .int 96 0, st "/claim/cut.py" 357] }),
  (105, fO (tS 6) "recovered" "gasledger.curve" 187 104),
  (111, { cls := .type "code", data := .fields #[st "secp256k1" 359, st "secp256k1" 360, st "/claim/cut.py" 361, .int 104 0, .int 0 0, .int 0 0, .int 0 0, .int 3 0, .ref 106, .bool true, .int 181 0, .ref 107, .none, .ref 108, .ref 109, .ref 110, .int 365 0, .int 104 0, st "/claim/cut.py" 366] }),
  (112, fO (tS 7) "secp256k1" "gasledger.curve" 187 111),
  (118, { cls := .type "code", data := .fields #[st "small_curve" 368, st "small_curve" 369, st "/claim/cut.py" 370, .int 109 0, .int 0 0, .int 0 0, .int 0 0, .int 3 0, .ref 113, .bool true, .int 181 0, .ref 114, .none, .ref 115, .ref 116, .ref 117, .int 371 0, .int 109 0, st "/claim/cut.py" 372] }),
  (119, fO (tS 8) "small_curve" "gasledger.curve" 187 118),
  (120, { cls := .type "tuple", data := .seq #[.int 7 376, .int 3 377, .int 13 378] }),
  (121, { cls := .type "tuple", data := .seq #[.int 7 379, .int 5 380, .int 7 381] }),
  (122, { cls := .type "tuple", data := .seq #[.int 19 382, .int 2 383, .int 13 384] }),
  (123, { cls := .type "tuple", data := .seq #[.int 19 385, .int 10 386, .int 19 387] }),
  (124, { cls := .type "tuple", data := .seq #[.int 31 388, .int 3 389, .int 43 390] }),
  (125, { cls := .type "tuple", data := .seq #[.int 67 391, .int 7 392, .int 79 393] }),
  (126, { cls := .type "tuple", data := .seq #[.ref 120, .ref 121, .ref 122, .ref 123, .ref 124, .ref 125] }),
  (132, { cls := .type "code", data := .fields #[st "_law_draw" 395, st "_law_draw" 396, st "/claim/cut.py" 397, .int 113 0, .int 2 0, .int 0 0, .int 0 0, .int 3 0, .ref 127, .bool true, .int 181 0, .ref 128, .none, .ref 129, .ref 130, .ref 131, .int 404 0, .int 113 0, st "/claim/cut.py" 405] }),
  (133, fO (tS 11) "_law_draw" "law_pq0391_01" 374 132),
  (139, { cls := .type "code", data := .fields #[st "_law_number" 407, st "_law_number" 408, st "/claim/cut.py" 409, .int 120 0, .int 2 0, .int 0 0, .int 0 0, .int 3 0, .ref 134, .bool true, .int 181 0, .ref 135, .none, .ref 136, .ref 137, .ref 138, .int 414 0, .int 120 0, st "/claim/cut.py" 415] }),
  (140, fO (tS 12) "_law_number" "law_pq0391_01" 374 139),
  (146, { cls := .type "code", data := .fields #[st "_law_word" 417, st "_law_word" 418, st "/claim/cut.py" 419, .int 124 0, .int 2 0, .int 0 0, .int 0 0, .int 3 0, .ref 141, .bool true, .int 181 0, .ref 142, .none, .ref 143, .ref 144, .ref 145, .int 424 0, .int 124 0, st "/claim/cut.py" 425] }),
  (147, fO (tS 13) "_law_word" "law_pq0391_01" 374 146),
  (153, { cls := .type "code", data := .fields #[st "_law_inverses" 427, st "_law_inverses" 428, st "/claim/cut.py" 429, .int 128 0, .int 1 0, .int 0 0, .int 0 0, .int 3 0, .ref 148, .bool true, .int 181 0, .ref 149, .none, .ref 150, .ref 151, .ref 152, .int 433 0, .int 128 0, st "/claim/cut.py" 434] }),
  (154, fO (tS 14) "_law_inverses" "law_pq0391_01" 374 153),
  (158, { cls := .type "code", data := .fields #[st "_law_listed" 436, st "_law_listed" 437, st "/claim/cut.py" 438, .int 133 0, .int 2 0, .int 0 0, .int 0 0, .int 3 0, .ref 155, .bool true, .int 181 0, .ref 156, .none, .none, .none, .ref 157, .int 439 0, .int 133 0, st "/claim/cut.py" 440] }),
  (159, fO (tS 15) "_law_listed" "law_pq0391_01" 374 158),
  (165, { cls := .type "code", data := .fields #[st "_law_sum" 442, st "_law_sum" 443, st "/claim/cut.py" 444, .int 138 0, .int 4 0, .int 0 0, .int 0 0, .int 3 0, .ref 160, .bool true, .int 181 0, .ref 161, .none, .ref 162, .ref 163, .ref 164, .int 455 0, .int 138 0, st "/claim/cut.py" 456] }),
  (166, fO (tS 16) "_law_sum" "law_pq0391_01" 374 165),
  (172, { cls := .type "code", data := .fields #[st "_law_multiples" 458, st "_law_multiples" 459, st "/claim/cut.py" 460, .int 147 0, .int 3 0, .int 0 0, .int 0 0, .int 3 0, .ref 167, .bool true, .int 181 0, .ref 168, .none, .ref 169, .ref 170, .ref 171, .int 467 0, .int 147 0, st "/claim/cut.py" 468] }),
  (173, fO (tS 17) "_law_multiples" "law_pq0391_01" 374 172),
  (179, { cls := .type "code", data := .fields #[st "_law_sums_right" 470, st "_law_sums_right" 471, st "/claim/cut.py" 472, .int 152 0, .int 3 0, .int 0 0, .int 0 0, .int 3 0, .ref 174, .bool true, .int 181 0, .ref 175, .none, .ref 176, .ref 177, .ref 178, .int 480 0, .int 152 0, st "/claim/cut.py" 481] }),
  (180, fO (tS 18) "_law_sums_right" "law_pq0391_01" 374 179),
  (184, { cls := .type "code", data := .fields #[st "_law_places_right" 483, st "_law_places_right" 484, st "/claim/cut.py" 485, .int 162 0, .int 3 0, .int 0 0, .int 0 0, .int 3 0, .ref 181, .bool true, .int 181 0, .ref 182, .none, .none, .none, .ref 183, .int 486 0, .int 162 0, st "/claim/cut.py" 487] }),
  (185, fO (tS 19) "_law_places_right" "law_pq0391_01" 374 184),
  (191, { cls := .type "code", data := .fields #[st "_law_signed_right" 489, st "_law_signed_right" 490, st "/claim/cut.py" 491, .int 170 0, .int 4 0, .int 0 0, .int 0 0, .int 3 0, .ref 186, .bool true, .int 181 0, .ref 187, .none, .ref 188, .ref 189, .ref 190, .int 506 0, .int 170 0, st "/claim/cut.py" 507] }),
  (192, fO (tS 20) "_law_signed_right" "law_pq0391_01" 374 191),
  (196, { cls := .type "code", data := .fields #[st "_law_wild_right" 509, st "_law_wild_right" 510, st "/claim/cut.py" 511, .int 183 0, .int 4 0, .int 0 0, .int 0 0, .int 3 0, .ref 193, .bool true, .int 181 0, .ref 194, .none, .none, .none, .ref 195, .int 512 0, .int 183 0, st "/claim/cut.py" 513] }),
  (197, fO (tS 21) "_law_wild_right" "law_pq0391_01" 374 196),
  (203, { cls := .type "code", data := .fields #[st "_law_even_right" 515, st "_law_even_right" 516, st "/claim/cut.py" 517, .int 191 0, .int 1 0, .int 0 0, .int 0 0, .int 3 0, .ref 198, .bool true, .int 181 0, .ref 199, .none, .ref 200, .ref 201, .ref 202, .int 528 0, .int 191 0, st "/claim/cut.py" 529] }),
  (204, fO (tS 22) "_law_even_right" "law_pq0391_01" 374 203),
  (210, { cls := .type "code", data := .fields #[st "_law_great_right" 531, st "_law_great_right" 532, st "/claim/cut.py" 533, .int 203 0, .int 1 0, .int 0 0, .int 0 0, .int 3 0, .ref 205, .bool true, .int 181 0, .ref 206, .none, .ref 207, .ref 208, .ref 209, .int 539 0, .int 203 0, st "/claim/cut.py" 540] }),
  (211, fO (tS 23) "_law_great_right" "law_pq0391_01" 374 210),
  (215, { cls := .type "code", data := .fields #[st "law" 542, st "law" 543, st "/claim/cut.py" 544, .int 207 0, .int 1 0, .int 0 0, .int 0 0, .int 3 0, .ref 212, .bool true, .int 181 0, .ref 213, .none, .none, .none, .ref 214, .int 545 0, .int 207 0, st "/claim/cut.py" 546] }),
  (216, fO (tS 24) "law" "law_pq0391_01" 374 215)]
noncomputable def kA : List Addr := [2, 3, 27, 28, 34, 35, 41, 42, 48, 49, 55, 56, 62, 63, 65, 66, 67, 68, 76, 77, 83, 84, 90, 91, 97, 98, 104, 105, 111, 112, 118, 119, 120, 121, 122, 123, 124, 125, 126, 132, 133, 139, 140, 146, 147, 153, 154, 158, 159, 165, 166, 172, 173, 179, 180, 184, 185, 191, 192, 196, 197, 203, 204, 210, 211, 215, 216]
end Mine
namespace Mine
open PySem PySem.W PyProof.Rows PySem.Calls
theorem k1 (P : Params) : ((List.range 29).all fun f => !isGl f || glChk (kK P) f) = true := by kernel_rfl
theorem k2 (P : Params) : ((List.range 29).all fun f => !isMe f || meChk (kK P) f) = true := by kernel_rfl
theorem k3 (P : Params) : ((List.range 29).all fun f => !isBl f || blChk (kK P) f) = true := by kernel_rfl
theorem k4 (P : Params) : ((List.range 29).all fun f => bodyChk (kK P) f) = true := by kernel_rfl
theorem k5 (P : Params) : initChk (kK P) = true := by kernel_rfl
theorem k6 (P : Params) : restChk (kK P) = true := by kernel_rfl
end Mine
open PySem PySem.W PyProof.Rows PySem.Calls
theorem PySem.Challenge.cw_pq0391_01_holds : PySem.Challenge.rw_pq0391_01.Holds := by
  w_on
  o_law
  o_head (kHook Mine.kK Mine.kA (fun _ => by kernel_rfl))
  case hw => w_witness2
  w_strict
    (intro w s₀ s₁ mg mb G Y fa o pm cd doc dV kV ho hd hcd hD hmg hg args vals as hpre hlay hrd hwl hlo
     have KX := kIn_of Y
     have X := (Ground.X G).1
     have V := (Ground.X G).2
     have GL := glob_more (Ground.glob G (by decide +kernel) (by decide +kernel)) V
     refine Ground.open G ?_
     intro T B D TE TW
     obtain ⟨_, _, M⟩ := bmod_of_top T
     have TA := at_of_top T
     obtain ⟨_, _, he, B0⟩ := based_of_top T rfl hmg ho hd
     have he' : cd = _ := he
     subst he'
     clear he
     clear hmg
     wrow_args hpre hlay hrd hwl hlo
     first | refine callC_kw (enter_call ?_) | refine enter_call ?_ | refine callC_kw (enter_callW ?_) | refine enter_callW ?_ | w_how
     w_top on
     try refine codeAny_mono ?_ (fun _ _ g => GoodW.toG g)
     have K0 := below_caller (Top.heap T)
     w_call any ho hd hcd hD T F
     clear hd TA)
  rename Heap.IsList _ _ _ => hL
  rename IntsAre _ _ => hI
  rename _ = #[] => hg
  rename ¬ ((63 : Nat) : Int) < _ => hlen
  refine Mine.lawTop (Mine.base_of KX T.g T.b T.builtins T.nolimit (Mine.k1 _) (Mine.k2 _) (Mine.k3 _) (Mine.k4 _) (Mine.k5 _) (Mine.k6 _)) hL hI ?b1 ?b2 ?b3 ?b4 F (Mine.push_new _) ?b5 (Mine.lawOK _ ?b6) (fun h' tk keep => ?b7)
  case b1 => kernel_rfl
  case b2 => rfl
  case b3 => kernel_rfl
  case b4 => kernel_rfl
  case b5 => kernel_rfl
  case b6 => omega
  case b7 => refine ⟨.inl ⟨_, _, [], rfl, (fun _ => by rfl), .bool _, ?b8, fun _ => ⟨.nil, fun _ ha => nomatch ha⟩⟩, keep, rfl, hg⟩
             · wrow_post
