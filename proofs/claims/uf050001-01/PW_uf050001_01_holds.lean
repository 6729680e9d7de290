import PyProof.Rows.All

import Wide.All

import OpenK.AllK

import Wide.FinOn

import PySem.Challenge.RW_uf050001_01

set_option autoImplicit false
set_option linter.all false
set_option Elab.async false
set_option genSizeOf false

section
namespace Mine
open PySem (CmpOp)

/-- values of the pure reading: none, bools, ints, texts (code points), tuples, lists that nobody changes any more, places of the store, exceptions, defs -/
inductive V where
  | none
  | bool (b : Bool)
  | int (i : Int)
  | str (s : List Nat)
  | tup (vs : List V)
  | lst (vs : List V)
  | loc (l : Nat)
  | exn (c : Nat)
  | fn (k : Nat)
deriving Inhabited

inductive PObj where
  | dead
  | list (vs : List V)
  | dictS (es : List (List (List Nat) × V))
  | inst (d : Nat)
  | attrs (rows ways : Option V)
deriving Inhabited

abbrev St := List PObj

inductive Out (α : Type) where
  | ok (a : α) (s : St)
  | exc (c : Nat) (s : St)
  | bad

noncomputable def Out.bind {α β : Type} (o : Out α) (f : α → St → Out β) : Out β :=
  match o with
  | .ok a s => f a s
  | .exc c s => .exc c s
  | .bad => .bad

@[simp] theorem Out.ok_bind {α β : Type} (a : α) (s : St) (f : α → St → Out β) : (Out.ok a s).bind f = f a s := rfl
@[simp] theorem Out.exc_bind {α β : Type} (c : Nat) (s : St) (f : α → St → Out β) : (Out.exc c s : Out α).bind f = .exc c s := rfl
@[simp] theorem Out.bad_bind {α β : Type} (f : α → St → Out β) : (Out.bad : Out α).bind f = .bad := rfl

abbrev Env := List (Option V)
abbrev E := Env → St → Out V
abbrev T := Env → St → Out Bool

mutual
/-- one more than the greatest place that a value names -/
noncomputable def V.top : V → Nat
  | .tup vs => V.topL vs
  | .lst vs => V.topL vs
  | .loc l => l + 1
  | _ => 0
noncomputable def V.topL : List V → Nat
  | [] => 0
  | v :: vs => max (V.top v) (V.topL vs)
end
@[simp] theorem V.top_none : V.top .none = 0 := by simp [V.top]
@[simp] theorem V.top_bool (b) : V.top (.bool b) = 0 := by simp [V.top]
@[simp] theorem V.top_int (b) : V.top (.int b) = 0 := by simp [V.top]
@[simp] theorem V.top_str (b) : V.top (.str b) = 0 := by simp [V.top]
@[simp] theorem V.top_exn (b) : V.top (.exn b) = 0 := by simp [V.top]
@[simp] theorem V.top_fn (b) : V.top (.fn b) = 0 := by simp [V.top]
@[simp] theorem V.top_loc (l) : V.top (.loc l) = l + 1 := by simp [V.top]
@[simp] theorem V.top_tup (vs) : V.top (.tup vs) = V.topL vs := by simp [V.top]
@[simp] theorem V.top_lst (vs) : V.top (.lst vs) = V.topL vs := by simp [V.top]
@[simp] theorem V.topL_nil : V.topL [] = 0 := by simp [V.topL]
@[simp] theorem V.topL_cons (v vs) : V.topL (v :: vs) = max (V.top v) (V.topL vs) := by simp [V.topL]
theorem V.topL_le {n : Nat} {vs : List V} : V.topL vs ≤ n ↔ ∀ v ∈ vs, V.top v ≤ n := by
  induction vs with
  | nil => simp
  | cons v vs ih => simp [ih, Nat.max_le]
theorem V.topL_zero {vs : List V} (h : ∀ v ∈ vs, V.top v = 0) : V.topL vs = 0 :=
  Nat.le_zero.mp (V.topL_le.mpr fun v hv => by rw [h v hv]; exact Nat.le_refl _)
theorem V.topL_map {α : Type} {f : α → V} (h : ∀ x, V.top (f x) = 0) (xs : List α) : V.topL (xs.map f) = 0 :=
  V.topL_zero fun v hv => by obtain ⟨x, _, rfl⟩ := List.mem_map.mp hv; exact h x

noncomputable def PObj.top : PObj → Nat
  | .dead => 0
  | .list vs => V.topL vs
  | .dictS es => V.topL (es.map (·.2))
  | .inst d => d + 1
  | .attrs r w => max ((r.map V.top).getD 0) ((w.map V.top).getD 0)

/-- what is no data -/
noncomputable def opq : V → Bool
  | .loc _ => true
  | .exn _ => true
  | .fn _ => true
  | _ => false
noncomputable def unlike (b : V) : Option Bool := if opq b then none else some false
mutual
/-- Python's == on data without places -/
noncomputable def veq : V → V → Option Bool
  | .none, b => match b with
    | .none => some true
    | b => unlike b
  | .bool x, b => match b with
    | .bool y => some (x == y)
    | .int y => some ((if x then 1 else 0) == y)
    | b => unlike b
  | .int x, b => match b with
    | .int y => some (x == y)
    | .bool y => some (x == (if y then 1 else 0))
    | b => unlike b
  | .str x, b => match b with
    | .str y => some (x == y)
    | b => unlike b
  | .tup x, b => match b with
    | .tup y => veqL x y
    | b => unlike b
  | .lst x, b => match b with
    | .lst y => veqL x y
    | b => unlike b
  | _, _ => none
noncomputable def veqL : List V → List V → Option Bool
  | [], [] => some true
  | [], _ :: _ => some false
  | _ :: _, [] => some false
  | a :: as, b :: bs => match veq a b with
    | some true => veqL as bs
    | some false => some false
    | Option.none => Option.none
end

noncomputable def asList (σ : St) : V → Option (List V)
  | .lst vs => some vs
  | .loc l => match σ[l]? with
    | some (.list vs) => some vs
    | _ => none
  | _ => none

/-- what a for takes, turn by turn -/
noncomputable def asIter (σ : St) : V → Option (List V)
  | .lst vs => some vs
  | .tup vs => some vs
  | .str s => some (s.map fun c => .str [c])
  | .loc l => match σ[l]? with
    | some (.list vs) => some vs
    | _ => none
  | _ => none

/-- places within lists and tuples read out -/
noncomputable def deep (σ : St) : Nat → V → Option V
  | 0, _ => none
  | n + 1, .lst vs => (vs.mapM (deep σ n)).map .lst
  | n + 1, .tup vs => (vs.mapM (deep σ n)).map .tup
  | n + 1, .loc l => match σ[l]? with
    | some (.list vs) => (vs.mapM (deep σ n)).map .lst
    | _ => none
  | _ + 1, .exn _ => none
  | _ + 1, .fn _ => none
  | _ + 1, v => some v

noncomputable def LIM : Nat := 1000000

noncomputable def eqV (a b : V) (σ : St) : Option Bool :=
  match deep σ 6 a, deep σ 6 b with
  | some a', some b' => veq a' b'
  | _, _ => none

/-- the letters -/
noncomputable def abc : List Nat := [97, 98, 99, 100, 101, 102, 103, 104, 105, 106, 107, 108, 109, 110, 111, 112, 113, 114, 115, 116, 117, 118, 119, 120, 121, 122]

/-! primitives -/
noncomputable def pAdd (a b : V) (σ : St) : Out V := match a with
  | .int x => match b with
    | .int y => .ok (.int (x + y)) σ
    | _ => .bad
  | .str x => match b with
    | .str y => if x.length + y.length ≤ LIM then .ok (.str (x ++ y)) σ else .bad
    | _ => .bad
  | _ => .bad
noncomputable def short (a : Int) : Bool := decide (a.natAbs < 9223372036854775808)
/-- ints and texts alone -/
noncomputable def pMulS (a b : V) (σ : St) : Out V := match b with
  | .int n => match a with
    | .int a => if (short a || short n) = true then .ok (.int (a * n)) σ else .bad
    | .str s => if 0 ≤ n ∧ n ≤ 1000 ∧ s.length ≤ 1000 then .ok (.str (List.replicate n.toNat s).flatten) σ else .bad
    | _ => .bad
  | _ => .bad
noncomputable def pDiv : V → V → St → Out V
  | .int a, .int b, σ => if 0 < b ∧ b < 1000000000 then .ok (.int (a / b)) σ else .bad
  | _, _, _ => .bad
noncomputable def pMod : V → V → St → Out V
  | .int a, .int b, σ => if 0 < b then .ok (.int (a % b)) σ else .bad
  | _, _, _ => .bad
noncomputable def truth (σ : St) : V → Option Bool
  | .none => some false
  | .bool b => some b
  | .int i => some (i != 0)
  | .str s => some (!s.isEmpty)
  | .tup vs => some (!vs.isEmpty)
  | .lst vs => some (!vs.isEmpty)
  | .loc l => match σ[l]? with
    | some (.list vs) => some (!vs.isEmpty)
    | _ => none
  | _ => none

noncomputable def asStrs : V → Option (List (List Nat))
  | .tup vs => vs.mapM fun v => match v with | .str s => some s | _ => none
  | _ => none
/-- x in a list or a tuple, both read out -/
noncomputable def inSeq (x c : V) (σ : St) : Option Bool :=
  match deep σ 6 x, deep σ 6 c with
  | some x', some (.lst ds) => some (ds.any fun d => veq d x' == some true)
  | some x', some (.tup ds) => some (ds.any fun d => veq d x' == some true)
  | _, _ => none

noncomputable def pIn (x : V) (c : V) (σ : St) : Option Bool :=
  match c with
  | .str h => match x with
    | .str [c] => some (h.contains c)
    | _ => none
  | .tup vs => inSeq x (.tup vs) σ
  | .lst vs => inSeq x (.lst vs) σ
  | .loc l => match σ[l]? with
    | some (.list _) => inSeq x (.loc l) σ
    | some (.dictS es) => (asStrs x).map fun k => (es.lookup k).isSome
    | _ => none
  | _ => none

noncomputable def isNoneV : V → Bool
  | .none => true
  | _ => false
noncomputable def cmpV (op : CmpOp) (a b : V) (σ : St) : Option Bool :=
  match op with
  | .Eq => eqV a b σ
  | .NotEq => (eqV a b σ).map (!·)
  | .Lt => match a, b with | .int a, .int b => some (decide (a < b)) | _, _ => none
  | .LtE => match a, b with
    | .int a, .int b => some (decide (a ≤ b))
    | _, _ => none
  | .Gt => match a, b with | .int a, .int b => some (decide (b < a)) | _, _ => none
  | .GtE => match a, b with | .int a, .int b => some (decide (b ≤ a)) | _, _ => none
  | .Is => match b with | .none => some (isNoneV a) | _ => none
  | .IsNot => match b with | .none => some (!isNoneV a) | _ => none
  | .In => pIn a b σ
  | .NotIn => (pIn a b σ).map (!·)

noncomputable def lift {α : Type} (o : Option α) (σ : St) : Out α :=
  match o with
  | some a => .ok a σ
  | none => .bad
@[simp] theorem lift_some {α : Type} (a : α) (σ : St) : lift (some a) σ = .ok a σ := rfl
@[simp] theorem lift_none {α : Type} (σ : St) : lift (none : Option α) σ = .bad := rfl

/-- Python's xs[i] -/
noncomputable def pyIdx {α : Type} (xs : List α) (i : Int) : Option α :=
  if 0 ≤ i then xs[i.toNat]? else if -(xs.length : Int) ≤ i then xs[(xs.length + i).toNat]? else none

noncomputable def idxL (vs : List V) (σ : St) : V → Out V
  | .int i => lift (pyIdx vs i) σ
  | _ => .bad
noncomputable def pIdx (a i : V) (σ : St) : Out V := match a with
  | .str s => match i with
    | .int i => match pyIdx s i with
      | some c => .ok (.str [c]) σ
      | none => .bad
    | _ => .bad
  | .tup vs => idxL vs σ i
  | .lst vs => idxL vs σ i
  | .loc l => match σ[l]? with
    | some (.list vs) => idxL vs σ i
    | some (.dictS es) => lift ((asStrs i).bind fun k => es.lookup k) σ
    | _ => .bad
  | _ => .bad
/-- a slice's bound, clamped -/
noncomputable def clampI (n : Nat) (d : Nat) : Option Int → Nat
  | none => d
  | some i => if 0 ≤ i then min i.toNat n else (n + i).toNat
noncomputable def pySlice {α : Type} (xs : List α) (lo hi : Option Int) : List α :=
  (xs.take (clampI xs.length xs.length hi)).drop (clampI xs.length 0 lo)

noncomputable def optInt : V → Option (Option Int)
  | .none => some none
  | .int i => some (some i)
  | _ => none

noncomputable def pSlice (v lo hi : V) (σ : St) : Out V :=
  match optInt lo, optInt hi with
  | some lo, some hi => match v with
    | .str s => .ok (.str (pySlice s lo hi)) σ
    | _ => .bad
  | _, _ => .bad
noncomputable def pLen : V → St → Out V
  | .str s, σ => .ok (.int s.length) σ
  | .tup vs, σ => .ok (.int vs.length) σ
  | .lst vs, σ => .ok (.int vs.length) σ
  | .loc l, σ => match σ[l]? with
    | some (.list vs) => .ok (.int vs.length) σ
    | _ => .bad
  | _, _ => .bad

/-! expressions -/
noncomputable def cst (v : V) : E := fun _ σ => .ok v σ
noncomputable def var (i : Nat) : E := fun ρ σ => match ρ[i]? with
  | some (some v) => .ok v σ
  | _ => .bad
noncomputable def un (f : V → St → Out V) (a : E) : E := fun ρ σ => (a ρ σ).bind f
noncomputable def bin (f : V → V → St → Out V) (a b : E) : E := fun ρ σ => (a ρ σ).bind fun x σ => (b ρ σ).bind fun y σ => f x y σ
/-- a method of a value that chk knows -/
noncomputable def bin0 (chk : St → V → Bool) (f : V → St → Out V) (a : E) : E := fun ρ σ => (a ρ σ).bind fun x σ => if chk σ x then f x σ else .bad
noncomputable def binM (chk : St → V → Bool) (f : V → V → St → Out V) (a b : E) : E := fun ρ σ => (a ρ σ).bind fun x σ => if chk σ x then (b ρ σ).bind fun y σ => f x y σ else .bad
noncomputable def tri (f : V → V → V → St → Out V) (a b c : E) : E := fun ρ σ => (a ρ σ).bind fun x σ => (b ρ σ).bind fun y σ => (c ρ σ).bind fun z σ => f x y z σ
noncomputable def evs : List E → Env → St → Out (List V)
  | [], _, σ => .ok [] σ
  | e :: es, ρ, σ => (e ρ σ).bind fun v σ => (evs es ρ σ).bind fun vs σ => .ok (v :: vs) σ
abbrev F := List V → St → Out V
noncomputable def app (f : F) (args : List E) : E := fun ρ σ => (evs args ρ σ).bind f
noncomputable def tupE (es : List E) : E := fun ρ σ => (evs es ρ σ).bind fun vs σ => .ok (.tup vs) σ
/-- a list display that nobody changes -/
noncomputable def lstE (es : List E) : E := fun ρ σ => (evs es ρ σ).bind fun vs σ => .ok (.lst vs) σ
/-- a new object of the store -/
noncomputable def alloc (o : PObj) (σ : St) : Out V := .ok (.loc σ.length) (σ ++ [o])
/-- a list display that is changed later -/
noncomputable def newL (es : List E) : E := fun ρ σ => (evs es ρ σ).bind fun vs σ => alloc (.list vs) σ
noncomputable def newD (o : PObj) : E := fun _ σ => alloc o σ
noncomputable def pListM (v : V) (σ : St) : Out V := match v with
  | .str _ => .bad
  | v => match asIter σ v with
    | some vs => alloc (.list vs) σ
    | none => .bad
noncomputable def tOf (e : E) : T := fun ρ σ => (e ρ σ).bind fun v σ => lift (truth σ v) σ
noncomputable def tNot (t : T) : T := fun ρ σ => (t ρ σ).bind fun b σ => .ok (!b) σ
noncomputable def tCmp (op : CmpOp) (a b : E) : T := fun ρ σ => (a ρ σ).bind fun x σ => (b ρ σ).bind fun y σ => lift (cmpV op x y σ) σ
noncomputable def tAnd : List T → T
  | [], _, σ => .ok true σ
  | t :: ts, ρ, σ => (t ρ σ).bind fun b σ => if b then tAnd ts ρ σ else .ok false σ
noncomputable def tOr : List T → T
  | [], _, σ => .ok false σ
  | t :: ts, ρ, σ => (t ρ σ).bind fun b σ => if b then .ok true σ else tOr ts ρ σ
noncomputable def tChain (x : V) : List (CmpOp × E) → T
  | [], _, σ => .ok true σ
  | (op, e) :: r, ρ, σ => (e ρ σ).bind fun y σ => (lift (cmpV op x y σ) σ).bind fun b σ => if b then tChain y r ρ σ else .ok false σ
noncomputable def tCmps (a : E) (r : List (CmpOp × E)) : T := fun ρ σ => (a ρ σ).bind fun x σ => tChain x r ρ σ
/-- a test as a value -/
noncomputable def ofT (t : T) : E := fun ρ σ => (t ρ σ).bind fun b σ => .ok (.bool b) σ
/-- and, or as values: bools alone are handed on -/
noncomputable def andE : List E → E
  | [], _, _ => .bad
  | [e], ρ, σ => e ρ σ
  | e :: es, ρ, σ => (e ρ σ).bind fun v σ => (lift (truth σ v) σ).bind fun b σ => if b then andE es ρ σ else .ok v σ
noncomputable def orE : List E → E
  | [], _, _ => .bad
  | [e], ρ, σ => e ρ σ
  | e :: es, ρ, σ => (e ρ σ).bind fun v σ => (lift (truth σ v) σ).bind fun b σ => if b then .ok v σ else orE es ρ σ

/-! comprehensions: one clause, one name, whose slot lies behind the frame's -/
noncomputable def compGo (ifs : T) (elt : E) (src : V) (ρ : Env) : Nat → Nat → List V → St → Out V
  | 0, _, _, _ => .bad
  | f + 1, i, acc, σ => match asIter σ src with
    | none => .bad
    | some vs => match vs[i]? with
      | none => .ok (.lst acc) σ
      | some x => (ifs (ρ ++ [some x]) σ).bind fun b σ =>
          if b then (elt (ρ ++ [some x]) σ).bind fun y σ => compGo ifs elt src ρ f (i + 1) (acc ++ [y]) σ
          else compGo ifs elt src ρ f (i + 1) acc σ
noncomputable def comp (src : E) (ifs : T) (elt : E) : E := fun ρ σ => (src ρ σ).bind fun v σ => match asIter σ v with
  | none => .bad
  | some vs => compGo ifs elt v ρ (vs.length + 1) 0 [] σ
noncomputable def tTrue : T := fun _ σ => .ok true σ

/-! ranges -/
noncomputable def rangeL (a b : Int) : List V := (List.range (b - a).toNat).map fun (k : Nat) => V.int (a + k)
noncomputable def pRange1 : V → St → Out V
  | .int b, σ => if b.natAbs ≤ 1000 then .ok (.lst (rangeL 0 b)) σ else .bad
  | _, _ => .bad
/-! built-ins -/
noncomputable def asBool : V → Option Bool
  | .bool b => some b
  | _ => none
noncomputable def pAll (v : V) (σ : St) : Out V := match v with
  | .lst vs => match vs.mapM asBool with
    | some bs => .ok (.bool (bs.all id)) σ
    | none => .bad
  | _ => .bad
noncomputable def asStr : V → Option (List Nat)
  | .str s => some s
  | _ => none
/-- sep.join(texts) -/
noncomputable def glue (sep : List Nat) : List (List Nat) → List Nat
  | [] => []
  | [x] => x
  | x :: y :: r => x ++ sep ++ glue sep (y :: r)
noncomputable def pJoin (sep v : V) (σ : St) : Out V := match sep, v with
  | .str sep, .lst vs => match vs.mapM asStr with
    | some ss => if ss.length ≤ 1000 ∧ (ss.flatten).length ≤ 100000 ∧ sep.length ≤ 10 then .ok (.str (glue sep ss)) σ else .bad
    | none => .bad
  | _, _ => .bad
noncomputable def isL (σ : St) (v : V) : Bool := (asList σ v).isSome
noncomputable def isS (_ : St) (v : V) : Bool := match v with | .str _ => true | _ => false
/-! classes: 0 FareError; 1 .. 9 the others, each straight under it -/
inductive Ty where
  | str | int | bool | list | tuple | valueError
  | own (c : Nat)
noncomputable def isInst (σ : St) : V → Ty → Option Bool
  | .str _, t => some (match t with | .str => true | _ => false)
  | .none, _ => some false
  | .bool _, t => some (match t with | .bool | .int => true | _ => false)
  | .int _, t => some (match t with | .int => true | _ => false)
  | .tup _, t => some (match t with | .tuple => true | _ => false)
  | .lst _, t => some (match t with | .list => true | _ => false)
  | .loc l, t => match σ[l]? with
    | some (.list _) => some (match t with | .list => true | _ => false)
    | _ => none
  | .exn c, t => match t with
    | .own d => some (c == d || d == 0)
    | .valueError => some true
    | _ => none
  | .fn _, _ => none
noncomputable def isI (t : Ty) (v : V) (σ : St) : Out V := (lift (isInst σ v t) σ).bind fun b σ => .ok (.bool b) σ

/-! statements -/
inductive SOut where
  | next (ρ : Env) (σ : St)
  | ret (v : V) (σ : St)
  | exc (c : Nat) (ρ : Env) (σ : St)
  | bad
abbrev S := Env → St → SOut

noncomputable def Out.to {α : Type} (o : Out α) (ρ : Env) (f : α → St → SOut) : SOut :=
  match o with
  | .ok a s => f a s
  | .exc c s => .exc c ρ s
  | .bad => .bad
@[simp] theorem Out.ok_to {α : Type} (a : α) (s : St) (ρ : Env) (f : α → St → SOut) : (Out.ok a s).to ρ f = f a s := rfl
@[simp] theorem Out.exc_to {α : Type} (c : Nat) (s : St) (ρ : Env) (f : α → St → SOut) : (Out.exc c s : Out α).to ρ f = .exc c ρ s := rfl
@[simp] theorem Out.bad_to {α : Type} (ρ : Env) (f : α → St → SOut) : (Out.bad : Out α).to ρ f = .bad := rfl

noncomputable def SOut.then (o : SOut) (f : S) : SOut :=
  match o with
  | .next ρ σ => f ρ σ
  | o => o
@[simp] theorem SOut.next_then (ρ : Env) (σ : St) (f : S) : (SOut.next ρ σ).then f = f ρ σ := rfl
@[simp] theorem SOut.ret_then (v : V) (σ : St) (f : S) : (SOut.ret v σ).then f = .ret v σ := rfl
@[simp] theorem SOut.exc_then (c : Nat) (ρ : Env) (σ : St) (f : S) : (SOut.exc c ρ σ).then f = .exc c ρ σ := rfl
@[simp] theorem SOut.bad_then (f : S) : SOut.bad.then f = .bad := rfl

noncomputable def seq : List S → S
  | [], ρ, σ => .next ρ σ
  | s :: ss, ρ, σ => (s ρ σ).then (seq ss)
noncomputable def asg (i : Nat) (e : E) : S := fun ρ σ => (e ρ σ).to ρ fun v σ => .next (ρ.set i (some v)) σ
noncomputable def exprS (e : E) : S := fun ρ σ => (e ρ σ).to ρ fun _ σ => .next ρ σ
noncomputable def ifS (t : T) (a b : S) : S := fun ρ σ => (t ρ σ).to ρ fun c σ => if c then a ρ σ else b ρ σ
noncomputable def retS (e : E) : S := fun ρ σ => (e ρ σ).to ρ fun v σ => .ret v σ
/-- return, the list given back being changed no more -/
noncomputable def retF (e : E) : S := fun ρ σ => (e ρ σ).to ρ fun v σ => match v with
  | .loc l => match σ[l]? with
    | some (.list vs) => .ret (.lst vs) (σ.set l .dead)
    | _ => .bad
  | _ => .bad
/-- a statement that is not followed -/
noncomputable def badS : S := fun _ _ => .bad
noncomputable def raiseA (k : Nat) (ces : List E) : S := fun ρ σ => (evs ces ρ σ).to ρ fun _ σ => .exc k ρ σ
noncomputable def forget : List Nat → Env → Env
  | [], ρ => ρ
  | i :: is, ρ => forget is (ρ.set i none)
noncomputable def forGo (slot : Nat) (temps : List Nat) (body : S) (src : V) : Nat → Nat → S
  | 0, _, _, _ => .bad
  | f + 1, i, ρ, σ => match asIter σ src with
    | none => .bad
    | some vs => match vs[i]? with
      | none => .next ρ σ
      | some x => (body (ρ.set slot (some x)) σ).then fun ρ σ => forGo slot temps body src f (i + 1) (forget temps ρ) σ
noncomputable def forS (slot : Nat) (temps : List Nat) (src : E) (body : S) : S := fun ρ σ => (src ρ σ).to ρ fun v σ =>
  match asIter σ v with
  | none => .bad
  | some vs => forGo slot temps body v (vs.length + 1) 0 ρ σ
/-! defs -/
open Classical in
noncomputable def fin (σ : St) (v : V) (σ' : St) : Out V :=
  if v.top ≤ σ.length ∧ (σ'.take σ.length = σ ∨ ∀ o ∈ σ'.take σ.length, o.top ≤ σ.length) then .ok v (σ'.take σ.length) else .ok v σ'
open Classical in
noncomputable def finX (σ : St) (c : Nat) (σ' : St) : Out V :=
  if σ'.take σ.length = σ ∨ ∀ o ∈ σ'.take σ.length, o.top ≤ σ.length then .exc c (σ'.take σ.length) else .exc c σ'
noncomputable def mkF (pars slots : Nat) (body : S) : F := fun args σ =>
  if args.length = pars then
    match body (args.map some ++ List.replicate (slots - pars) none) σ with
    | .ret v σ' => fin σ v σ'
    | .next _ σ' => fin σ .none σ'
    | .exc c _ σ' => finX σ c σ'
    | .bad => .bad
  else .bad

/-! lists and dicts changed -/
noncomputable def pAppend (v x : V) (σ : St) : Out V := match v with
  | .loc l => match σ[l]? with
    | some (.list vs) => if vs.length < LIM then .ok .none (σ.set l (.list (vs ++ [x]))) else .bad
    | _ => .bad
  | _ => .bad
noncomputable def pClear (v : V) (σ : St) : Out V := match v with
  | .loc l => match σ[l]? with
    | some (.list _) => .ok .none (σ.set l (.list []))
    | _ => .bad
  | _ => .bad
noncomputable def putKV {α β : Type} [BEq α] (k : α) (v : β) : List (α × β) → List (α × β)
  | [] => [(k, v)]
  | (a, b) :: r => if a == k then (a, v) :: r else (a, b) :: putKV k v r
noncomputable def pPut (v k x : V) (σ : St) : Out V := match v with
  | .loc l => match σ[l]? with
    | some (.dictS es) => match asStrs k with
      | some k => if es.length < LIM then .ok .none (σ.set l (.dictS (putKV k x es))) else .bad
      | none => .bad
    | _ => .bad
  | _ => .bad
/-- d.get(k, dflt) -/
noncomputable def pGet (v k d : V) (σ : St) : Out V := match v with
  | .loc l => match σ[l]? with
    | some (.dictS es) => lift ((asStrs k).map fun k => (es.lookup k).getD d) σ
    | _ => .bad
  | _ => .bad
noncomputable def pGet1 (v k : V) (σ : St) : Out V := pGet v k .none σ
noncomputable def isD (σ : St) : V → Bool
  | .loc l => match σ[l]? with
    | some (.dictS _) => true
    | _ => false
  | _ => false
/-- an attribute's place: rows 0, ways 1 -/
noncomputable def pAttr (n : Nat) (v : V) (σ : St) : Out V := match v with
  | .loc l => match σ[l]? with
    | some (.inst d) => match σ[d]? with
      | some (.attrs r w) => lift (if n = 0 then r else w) σ
      | _ => .bad
    | _ => .bad
  | _ => .bad
noncomputable def pSetAttr (n : Nat) (v x : V) (σ : St) : Out V := match v with
  | .loc l => match σ[l]? with
    | some (.inst d) => match σ[d]? with
      | some (.attrs r w) => .ok .none (σ.set d (if n = 0 then .attrs (some x) w else .attrs r (some x)))
      | _ => .bad
    | _ => .bad
  | _ => .bad
/-- an instance of the class -/
noncomputable def isT (σ : St) : V → Bool
  | .loc l => match σ[l]? with
    | some (.inst d) => match σ[d]? with
      | some (.attrs _ _) => true
      | _ => false
    | _ => false
  | _ => false
/-- o.method(args) -/
noncomputable def appM (f : F) (o : E) (args : List E) : E := fun ρ σ => (o ρ σ).bind fun x σ => if isT σ x then (evs args ρ σ).bind fun vs σ => f (x :: vs) σ else .bad
/-- the class's call -/
noncomputable def newInst (init : F) : F := fun args σ => (init (.loc (σ.length + 1) :: args) (σ ++ [.attrs none none, .inst σ.length])).bind fun v σ' => match v with
  | .none => .ok (.loc (σ.length + 1)) σ'
  | _ => .bad
end Mine
end

section
namespace Mine
open PySem

/-- what does not change through a law's run -/
structure Ctx where
  prog : Program
  w : World
  base : Heap
  exc : Nat → Addr
  fn : Nat → Addr
  mg : Str → Option Value
  mb : Str → Option Value
  cls : Addr

/-- the addresses of the places; the objects that stay as they are -/
structure Cfg where
  mu : List Addr
  frz : Addr → Prop

noncomputable def tupObj (items : Array Value) (n : Nat) : Obj := { cls := .type "tuple", data := .seq items n }
noncomputable def lstObj (items : Array Value) (n : Nat) : Obj := { cls := .type "list", data := .seq items n }

mutual
noncomputable def VRep (X : Ctx) (c : Cfg) (h : Heap) (v : Value) : V → Prop
  | .none => v = .none
  | .bool b => v = .bool b
  | .int i => ∃ t, v = .int i t
  | .str s => (∃ t, v = .str ⟨s.toArray⟩ t) ∧ (∀ c ∈ s, c < 128) ∧ s.length ≤ LIM
  | .tup vs => ∃ a items n, v = .ref a ∧ c.frz a ∧ h.get? a = some (tupObj items n) ∧ VReps X c h items.toList vs ∧ vs.length ≤ LIM
  | .lst vs => ∃ a items n, v = .ref a ∧ c.frz a ∧ h.get? a = some (lstObj items n) ∧ VReps X c h items.toList vs ∧ vs.length ≤ LIM
  | .loc l => ∃ a, v = .ref a ∧ c.mu[l]? = some a
  | .exn k => ∃ a o fs, v = .ref a ∧ c.frz a ∧ h.get? a = some o ∧ (o.cls = .ref (X.exc k) ∧ o.dict = none) ∧ o.data = .fields fs
  | .fn k => v = .ref (X.fn k)
noncomputable def VReps (X : Ctx) (c : Cfg) (h : Heap) : List Value → List V → Prop
  | vs, [] => vs = []
  | vs, d :: ds => ∃ v r, vs = v :: r ∧ VRep X c h v d ∧ VReps X c h r ds
end

mutual
theorem VRep.mono {X : Ctx} {c c' : Cfg} {h h' : Heap} (hm : ∀ (l : Nat) (a : Addr), c.mu[l]? = some a → c'.mu[l]? = some a) (hf : ∀ a, c.frz a → c'.frz a)
    (hk : ∀ a o, c.frz a → h.get? a = some o → h'.get? a = some o) : ∀ {v : Value} (d : V), VRep X c h v d → VRep X c' h' v d
  | _, .none, x => by simpa only [VRep] using x
  | _, .bool _, x => by simpa only [VRep] using x
  | _, .int _, x => by simpa only [VRep] using x
  | _, .str _, x => by simpa only [VRep] using x
  | _, .tup vs, x => by
    simp only [VRep] at x ⊢
    obtain ⟨a, items, n, e, f, g, r⟩ := x
    exact ⟨a, items, n, e, hf _ f, hk _ _ f g, VReps.mono hm hf hk vs r.1, r.2⟩
  | _, .lst vs, x => by
    simp only [VRep] at x ⊢
    obtain ⟨a, items, n, e, f, g, r⟩ := x
    exact ⟨a, items, n, e, hf _ f, hk _ _ f g, VReps.mono hm hf hk vs r.1, r.2⟩
  | _, .loc _, x => by
    simp only [VRep] at x ⊢
    obtain ⟨a, e, m⟩ := x
    exact ⟨a, e, hm _ _ m⟩
  | _, .exn _, x => by
    simp only [VRep] at x ⊢
    obtain ⟨a, o, fs, e, f, g, r⟩ := x
    exact ⟨a, o, fs, e, hf _ f, hk _ _ f g, r⟩
  | _, .fn _, x => by simpa only [VRep] using x
theorem VReps.mono {X : Ctx} {c c' : Cfg} {h h' : Heap} (hm : ∀ (l : Nat) (a : Addr), c.mu[l]? = some a → c'.mu[l]? = some a) (hf : ∀ a, c.frz a → c'.frz a)
    (hk : ∀ a o, c.frz a → h.get? a = some o → h'.get? a = some o) : ∀ {vs : List Value} (ds : List V), VReps X c h vs ds → VReps X c' h' vs ds
  | _, [], x => by simpa only [VReps] using x
  | _, d :: ds, x => by
    simp only [VReps] at x ⊢
    obtain ⟨v, r, e, y, z⟩ := x
    exact ⟨v, r, e, VRep.mono hm hf hk d y, VReps.mono hm hf hk ds z⟩
end

mutual
theorem VRep.cut {X : Ctx} {c c' : Cfg} {h : Heap} {n : Nat} (hm : ∀ (l : Nat) (a : Addr), l < n → c.mu[l]? = some a → c'.mu[l]? = some a) (hf : ∀ a, c.frz a → c'.frz a) :
    ∀ {v : Value} (d : V), d.top ≤ n → VRep X c h v d → VRep X c' h v d
  | _, .none, _, x => by simpa only [VRep] using x
  | _, .bool _, _, x => by simpa only [VRep] using x
  | _, .int _, _, x => by simpa only [VRep] using x
  | _, .str _, _, x => by simpa only [VRep] using x
  | _, .tup vs, t, x => by
    simp only [VRep] at x ⊢
    obtain ⟨a, items, n, e, f, g, r⟩ := x
    exact ⟨a, items, n, e, hf _ f, g, VReps.cut hm hf vs (by simpa using t) r.1, r.2⟩
  | _, .lst vs, t, x => by
    simp only [VRep] at x ⊢
    obtain ⟨a, items, n, e, f, g, r⟩ := x
    exact ⟨a, items, n, e, hf _ f, g, VReps.cut hm hf vs (by simpa using t) r.1, r.2⟩
  | _, .loc _, t, x => by
    simp only [VRep] at x ⊢
    obtain ⟨a, e, m⟩ := x
    exact ⟨a, e, hm _ _ (by simp at t; omega) m⟩
  | _, .exn _, _, x => by
    simp only [VRep] at x ⊢
    obtain ⟨a, o, fs, e, f, r⟩ := x
    exact ⟨a, o, fs, e, hf _ f, r⟩
  | _, .fn _, _, x => by simpa only [VRep] using x
theorem VReps.cut {X : Ctx} {c c' : Cfg} {h : Heap} {n : Nat} (hm : ∀ (l : Nat) (a : Addr), l < n → c.mu[l]? = some a → c'.mu[l]? = some a) (hf : ∀ a, c.frz a → c'.frz a) :
    ∀ {vs : List Value} (ds : List V), V.topL ds ≤ n → VReps X c h vs ds → VReps X c' h vs ds
  | _, [], _, x => by simpa only [VReps] using x
  | _, d :: ds, t, x => by
    simp only [VReps] at x ⊢
    obtain ⟨v, r, e, y, z⟩ := x
    have t' : max d.top (V.topL ds) ≤ n := by simpa using t
    exact ⟨v, r, e, VRep.cut hm hf d (Nat.le_trans (Nat.le_max_left ..) t') y, VReps.cut hm hf ds (Nat.le_trans (Nat.le_max_right ..) t') z⟩
end

mutual
/-- a value that is borne names only places that there are -/
theorem VRep.top {X : Ctx} {c : Cfg} {h : Heap} : ∀ {v : Value} (d : V), VRep X c h v d → d.top ≤ c.mu.length
  | _, .none, _ => by simp
  | _, .bool _, _ => by simp
  | _, .int _, _ => by simp
  | _, .str _, _ => by simp
  | _, .tup vs, x => by
    simp only [VRep] at x
    obtain ⟨a, items, n, e, f, g, r⟩ := x
    simpa using VReps.top vs r.1
  | _, .lst vs, x => by
    simp only [VRep] at x
    obtain ⟨a, items, n, e, f, g, r⟩ := x
    simpa using VReps.top vs r.1
  | _, .loc l, x => by
    simp only [VRep] at x
    obtain ⟨a, e, m⟩ := x
    have := (List.getElem?_eq_some_iff.mp m).1
    simp; omega
  | _, .exn _, _ => by simp
  | _, .fn _, _ => by simp
theorem VReps.top {X : Ctx} {c : Cfg} {h : Heap} : ∀ {vs : List Value} (ds : List V), VReps X c h vs ds → V.topL ds ≤ c.mu.length
  | _, [], _ => by simp
  | _, d :: ds, x => by
    simp only [VReps] at x
    obtain ⟨v, r, e, y, z⟩ := x
    simp only [V.topL_cons]
    exact Nat.max_le.mpr ⟨VRep.top d y, VReps.top ds z⟩
end

theorem VReps.length {X : Ctx} {c : Cfg} {h : Heap} : ∀ {vs : List Value} (ds : List V), VReps X c h vs ds → vs.length = ds.length
  | _, [], x => by simp only [VReps] at x; rw [x]; rfl
  | _, d :: ds, x => by
    simp only [VReps] at x
    obtain ⟨v, r, rfl, y, z⟩ := x
    simp [VReps.length ds z]
theorem VReps.get {X : Ctx} {c : Cfg} {h : Heap} : ∀ {vs : List Value} (ds : List V), VReps X c h vs ds → ∀ {i : Nat} {d : V}, ds[i]? = some d → ∃ v, vs[i]? = some v ∧ VRep X c h v d
  | _, [], _, i, d, e => by simp at e
  | _, d :: ds, x, i, d', e => by
    simp only [VReps] at x
    obtain ⟨v, r, rfl, y, z⟩ := x
    cases i with
    | zero => simp at e; subst e; exact ⟨v, by simp, y⟩
    | succ i => simp at e; simpa using VReps.get ds z e
theorem VReps.append {X : Ctx} {c : Cfg} {h : Heap} : ∀ {vs vs' : List Value} (ds ds' : List V), VReps X c h vs ds → VReps X c h vs' ds' → VReps X c h (vs ++ vs') (ds ++ ds')
  | _, _, [], _, x, y => by simp only [VReps] at x; subst x; simpa using y
  | _, _, d :: ds, ds', x, y => by
    simp only [VReps] at x
    obtain ⟨v, r, rfl, z, u⟩ := x
    exact by simp only [List.cons_append, VReps]; exact ⟨v, _, rfl, z, VReps.append ds ds' u y⟩

noncomputable def strOf (s : List Nat) : Str := ⟨s.toArray⟩
theorem strOf_inj {a b : List Nat} (h : strOf a = strOf b) : a = b := by
  have : a.toArray = b.toArray := congrArg Str.cps h
  simpa using congrArg Array.toList this

noncomputable def PObj.isDead : PObj → Bool
  | .dead => true
  | _ => false

/-- an address that a place of the store stands for: what may be changed -/
noncomputable def live (c : Cfg) (σ : St) (a : Addr) : Prop := ∃ (l : Nat) (o : PObj), c.mu[l]? = some a ∧ σ[l]? = some o ∧ PObj.isDead o = false

noncomputable def ObjRep (X : Ctx) (c : Cfg) (h : Heap) (a : Addr) : PObj → Prop
  | .dead => True
  | .list vs => ∃ items n, h.get? a = some (lstObj items n) ∧ VReps X c h items.toList vs ∧ vs.length ≤ LIM
  | .dictS es => (a == sysModules) = false ∧ ∃ xs : List (List Str × Addr × Value), h.DictOfH (tupleKind (strKind X.prog X.w)) a xs ∧ (∀ x ∈ xs, c.frz x.2.1) ∧ xs.map (·.1) = es.map (fun e => e.1.map strOf) ∧ VReps X c h (xs.map (·.2.2)) (es.map (·.2))
  | .inst d => ∃ dx, c.mu[d]? = some dx ∧ h.get? a = some { cls := .ref X.cls, dict := some dx, data := .plain }
  | .attrs r w => ∃ m, h.Ns1 a m ∧ (∀ v, r = some v → ∃ v', m "rows" = some v' ∧ VRep X c h v' v) ∧ (∀ v, w = some v → ∃ v', m "ways" = some v' ∧ VRep X c h v' v) ∧ ∀ x : Str, x ≠ "rows" → x ≠ "ways" → m x = none

noncomputable def frzOk (o : Obj) : Prop := (∀ es ep, o.data ≠ .dict es ep) ∧ ∀ v, o.data ≠ .cell v

structure Rel (X : Ctx) (c : Cfg) (σ : St) (h : Heap) : Prop where
  len : c.mu.length = σ.length
  nd : c.mu.Nodup
  there : ∀ a ∈ c.mu, ∃ o, h.get? a = some o ∧ ∀ vs, o.data ≠ .fields vs
  obj : ∀ (l : Nat) (o : PObj) (a : Addr), σ[l]? = some o → o.isDead = false → c.mu[l]? = some a → ¬ c.frz a ∧ X.base.get? a = none ∧ ObjRep X c h a o
  frz : ∀ a, c.frz a → ∃ o, h.get? a = some o ∧ frzOk o
  base : ∀ b o, X.base.get? b = some o → h.get? b = some o

/-- from one state to a later one; own: what may be changed besides (a frame's locals and cells) -/
structure EvoO (own : Addr → Prop) (fr : List Addr) (c : Cfg) (σ : St) (s : Shared) (c' : Cfg) (σ' : St) (s' : Shared) : Prop where
  same : ∀ a o, s.heap.get? a = some o → ¬ live c σ a → ¬ own a → a ∉ fr → s'.heap.get? a = some o
  frs : ∀ a o, s.heap.get? a = some o → ¬ live c σ a → ¬ own a → a ∈ fr → ∃ sl, s'.heap.get? a = some { o with slots := sl }
  exist : ∀ a o, s.heap.get? a = some o → ∃ o', s'.heap.get? a = some o'
  lives : ∀ a, live c' σ' a → live c σ a ∨ s.heap.get? a = none
  mu : ∀ (l : Nat) (a : Addr), c.mu[l]? = some a → c'.mu[l]? = some a
  frz : ∀ a, c.frz a → c'.frz a
  newf : ∀ a, c'.frz a → c.frz a ∨ live c σ a ∨ s.heap.get? a = none
  gens : s'.gens = s.gens
  os : s'.os = s.os
noncomputable def noOwn : Addr → Prop := fun _ => False
abbrev Evo := EvoO noOwn

theorem EvoO.refl {own : Addr → Prop} {fr : List Addr} {c : Cfg} {σ : St} {s : Shared} (t : Nat) : EvoO own fr c σ s c σ { s with toks := t } :=
  ⟨fun _ _ e _ _ _ => e, fun _ o e _ _ _ => ⟨o.slots, e⟩, fun _ o e => ⟨o, e⟩, fun _ h => .inl h, fun _ _ h => h, fun _ h => h, fun _ h => .inl h, rfl, rfl⟩
theorem EvoO.self {own : Addr → Prop} {fr : List Addr} {c : Cfg} {σ : St} {s : Shared} : EvoO own fr c σ s c σ s :=
  ⟨fun _ _ e _ _ _ => e, fun _ o e _ _ _ => ⟨o.slots, e⟩, fun _ o e => ⟨o, e⟩, fun _ h => .inl h, fun _ _ h => h, fun _ h => h, fun _ h => .inl h, rfl, rfl⟩
theorem EvoO.weak {own : Addr → Prop} {fr : List Addr} {c c' : Cfg} {σ σ' : St} {s s' : Shared} (x : Evo fr c σ s c' σ' s') : EvoO own fr c σ s c' σ' s' :=
  ⟨fun a o e n _ f => x.same a o e n id f, fun a o e n _ f => x.frs a o e n id f, x.exist, x.lives, x.mu, x.frz, x.newf, x.gens, x.os⟩
theorem EvoO.notLive {own : Addr → Prop} {fr : List Addr} {c c' : Cfg} {σ σ' : St} {s s' : Shared} (x : EvoO own fr c σ s c' σ' s') {a : Addr} {o : Obj} (e : s.heap.get? a = some o) (nl : ¬ live c σ a) : ¬ live c' σ' a := by
  intro l
  rcases x.lives a l with l | q
  · exact nl l
  · rw [e] at q; cases q
theorem EvoO.fresh {own : Addr → Prop} {fr : List Addr} {c c' : Cfg} {σ σ' : St} {s s' : Shared} (x : EvoO own fr c σ s c' σ' s') {a : Addr} (q : s'.heap.get? a = none) : s.heap.get? a = none := by
  cases e : s.heap.get? a with
  | none => rfl
  | some o => obtain ⟨o', e'⟩ := x.exist a o e; rw [q] at e'; cases e'
theorem EvoO.trans {own : Addr → Prop} {fr : List Addr} {c c' c'' : Cfg} {σ σ' σ'' : St} {s s' s'' : Shared} (x : EvoO own fr c σ s c' σ' s') (y : EvoO own fr c' σ' s' c'' σ'' s'') : EvoO own fr c σ s c'' σ'' s'' where
  same a o e nl no nf := y.same a o (x.same a o e nl no nf) (x.notLive e nl) no nf
  frs a o e nl no hf := by
    obtain ⟨sl, e'⟩ := x.frs a o e nl no hf
    obtain ⟨sl', e''⟩ := y.frs a _ e' (x.notLive e nl) no hf
    exact ⟨sl', e''⟩
  exist a o e := let ⟨o', e'⟩ := x.exist a o e; y.exist a o' e'
  lives a l := by
    rcases y.lives a l with l | q
    · exact x.lives a l
    · exact .inr (x.fresh q)
  mu l a e := y.mu l a (x.mu l a e)
  frz a f := y.frz a (x.frz a f)
  newf a f := by
    rcases y.newf a f with f | l | q
    · exact x.newf a f
    · exact (x.lives a l).elim (fun l => .inr (.inl l)) (fun q => .inr (.inr q))
    · exact .inr (.inr (x.fresh q))
  gens := y.gens.trans x.gens
  os := y.os.trans x.os
/-- a frozen object is not live -/
theorem Rel.notLive {X : Ctx} {c : Cfg} {σ : St} {h : Heap} (R : Rel X c σ h) {a : Addr} (f : c.frz a) : ¬ live c σ a := by
  rintro ⟨l, o, m, e, d⟩
  exact (R.obj l o a e d m).1 f
/-- frames are dicts, frozen objects are not -/
noncomputable def FrOk (fr : List Addr) (h : Heap) : Prop := ∀ a ∈ fr, ∃ o es ep, h.get? a = some o ∧ o.data = .dict es ep

theorem Rel.frzNotFr {X : Ctx} {c : Cfg} {σ : St} {h : Heap} {fr : List Addr} (R : Rel X c σ h) (hf : FrOk fr h) {a : Addr} (f : c.frz a) : a ∉ fr := by
  intro hm
  obtain ⟨o, es, ep, e, d⟩ := hf a hm
  obtain ⟨o', e', k⟩ := R.frz a f
  rw [e] at e'; cases e'
  exact k.1 es ep d

theorem VRep.evo {X : Ctx} {own : Addr → Prop} {fr : List Addr} {c c' : Cfg} {σ σ' : St} {s s' : Shared} (x : EvoO own fr c σ s c' σ' s') (R : Rel X c σ s.heap) (hf : FrOk fr s.heap) (ho : ∀ a, c.frz a → ¬ own a) {v : Value} {d : V} (r : VRep X c s.heap v d) : VRep X c' s'.heap v d :=
  VRep.mono x.mu x.frz (fun a o f e => x.same a o e (R.notLive f) (ho a f) (R.frzNotFr hf f)) d r
theorem VReps.evo {X : Ctx} {own : Addr → Prop} {fr : List Addr} {c c' : Cfg} {σ σ' : St} {s s' : Shared} (x : EvoO own fr c σ s c' σ' s') (R : Rel X c σ s.heap) (hf : FrOk fr s.heap) (ho : ∀ a, c.frz a → ¬ own a) {vs : List Value} {ds : List V} (r : VReps X c s.heap vs ds) : VReps X c' s'.heap vs ds :=
  VReps.mono x.mu x.frz (fun a o f e => x.same a o e (R.notLive f) (ho a f) (R.frzNotFr hf f)) ds r

/-- the frame at hand -/
structure EnvOk (X : Ctx) (c : Cfg) (σ : St) (h : Heap) (env : PySem.Env) (names : List Str) (ρ : Env) : Prop where
  kind : env.scope.kind = .function
  glob : env.globals = mainGlobals
  blt : env.builtins = builtinsNs
  nodup : names.Nodup
  len : ρ.length = names.length
  ns : ∃ m, h.Ns env.locals m ∧ ∀ (i : Nat) (x : Str) (v : V), names[i]? = some x → ρ[i]? = some (some v) → env.kindOf x = some .local → ∃ v', m x = some v' ∧ VRep X c h v' v
  cells : ∀ x a, env.cells.lookup x = some a → ∃ v, h.IsCell a v
  cell : ∀ (i : Nat) (x : Str) (v : V), names[i]? = some x → ρ[i]? = some (some v) → (env.kindOf x = some .cell ∨ env.kindOf x = some .free) → ∃ a v', env.cells.lookup x = some a ∧ h.IsCell a (some v') ∧ VRep X c h v' v
  apartL : ¬ live c σ env.locals ∧ X.base.get? env.locals = none
  apartC : ∀ x a, env.cells.lookup x = some a → ¬ live c σ a ∧ X.base.get? a = none
  inj : ∀ x y a, env.cells.lookup x = some a → env.cells.lookup y = some a → x = y
  has : ∀ x, env.kindOf x = some .cell → ∃ b, env.cells.lookup x = some b

theorem EvoO.ns {fr : List Addr} {c c' : Cfg} {σ σ' : St} {s s' : Shared} (x : Evo fr c σ s c' σ' s') {L : Addr} {m : Str → Option Value} (h : s.heap.Ns L m) (nl : ¬ live c σ L) : s'.heap.Ns L m := by
  obtain ⟨o, es, ep, e, d, r⟩ := h
  by_cases hf : L ∈ fr
  · obtain ⟨sl, e'⟩ := x.frs L o e nl id hf
    exact ⟨_, es, ep, e', d, r⟩
  · exact ⟨o, es, ep, x.same L o e nl id hf, d, r⟩
theorem EvoO.isCell {fr : List Addr} {c c' : Cfg} {σ σ' : St} {s s' : Shared} (x : Evo fr c σ s c' σ' s') {a : Addr} {v : Option Value} (h : s.heap.IsCell a v) (nl : ¬ live c σ a) : s'.heap.IsCell a v := by
  obtain ⟨o, e, d⟩ := h
  by_cases hf : a ∈ fr
  · obtain ⟨sl, e'⟩ := x.frs a o e nl id hf
    exact ⟨_, e', d⟩
  · exact ⟨o, x.same a o e nl id hf, d⟩
theorem EnvOk.evo {X : Ctx} {fr : List Addr} {c c' : Cfg} {σ σ' : St} {s s' : Shared} {env : PySem.Env} {names : List Str} {ρ : Env} (x : Evo fr c σ s c' σ' s') (R : Rel X c σ s.heap) (hf : FrOk fr s.heap)
    (e : EnvOk X c σ s.heap env names ρ) : EnvOk X c' σ' s'.heap env names ρ where
  kind := e.kind
  glob := e.glob
  blt := e.blt
  nodup := e.nodup
  len := e.len
  ns := by
    obtain ⟨m, hm, h⟩ := e.ns
    exact ⟨m, x.ns hm e.apartL.1, fun i y v h1 h2 h3 => let ⟨v', a, b⟩ := h i y v h1 h2 h3; ⟨v', a, b.evo x R hf (fun _ _ => id)⟩⟩
  cells y a h := let ⟨v, hv⟩ := e.cells y a h; ⟨v, x.isCell hv (e.apartC y a h).1⟩
  cell i y v h1 h2 h3 := let ⟨a, v', p, q, r⟩ := e.cell i y v h1 h2 h3; ⟨a, v', p, x.isCell q (e.apartC y a p).1, r.evo x R hf (fun _ _ => id)⟩
  apartL := by
    obtain ⟨m, ⟨o, es, ep, ho, r⟩, h⟩ := e.ns
    exact ⟨x.notLive ho e.apartL.1, e.apartL.2⟩
  apartC y a h := by
    obtain ⟨v, o, ho, d⟩ := e.cells y a h
    exact ⟨x.notLive ho (e.apartC y a h).1, (e.apartC y a h).2⟩
  inj := e.inj
  has := e.has
theorem FrOk.evo {fr : List Addr} {c c' : Cfg} {σ σ' : St} {s s' : Shared} (x : Evo fr c σ s c' σ' s') (hf : FrOk fr s.heap) (nl : ∀ a ∈ fr, ¬ live c σ a) : FrOk fr s'.heap := fun a ha => by
  obtain ⟨o, es, ep, e, d⟩ := hf a ha
  obtain ⟨sl, e'⟩ := x.frs a o e (nl a ha) id ha
  exact ⟨_, es, ep, e', d⟩
end Mine
end

section
namespace Mine
open PySem

structure RInv (X : Ctx) (fr : List Addr) (c : Cfg) (σ : St) (s : Shared) : Prop where
  rel : Rel X c σ s.heap
  fro : FrOk fr s.heap
  frl : ∀ f ∈ fr, ¬ live c σ f ∧ X.base.get? f = none

theorem RInv.toks {X : Ctx} {fr : List Addr} {c : Cfg} {σ : St} {s : Shared} (h : RInv X fr c σ s) (t : Nat) : RInv X fr c σ { s with toks := t } := ⟨h.rel, h.fro, h.frl⟩

/-- what a primitive leaves -/
noncomputable def POk (X : Ctx) (fr : List Addr) (c : Cfg) (σ : St) (s : Shared) (o : Out V) (v' : Value) (s' : Shared) : Prop :=
  ∃ v σ' c', o = .ok v σ' ∧ RInv X fr c' σ' s' ∧ Evo fr c σ s c' σ' s' ∧ VRep X c' s'.heap v' v

theorem POk.plain {X : Ctx} {fr : List Addr} {c : Cfg} {σ : St} {s : Shared} {v : V} {v' : Value} (I : RInv X fr c σ s) (t : Nat) (r : VRep X c s.heap v' v) : POk X fr c σ s (.ok v σ) v' { s with toks := t } :=
  ⟨v, σ, c, rfl, I.toks t, EvoO.refl t, r⟩
theorem POk.same {X : Ctx} {fr : List Addr} {c : Cfg} {σ : St} {s : Shared} {v : V} {v' : Value} (I : RInv X fr c σ s) (r : VRep X c s.heap v' v) : POk X fr c σ s (.ok v σ) v' s :=
  ⟨v, σ, c, rfl, I, EvoO.self, r⟩

structure Act where
  A : Around
  env : PySem.Env
  names : List Str
  envs : List PySem.Env
noncomputable def Act.fr (a : Act) : List Addr := a.envs.filterMap (·.frame)

/-- a block: its scope, its names in the slots' order, how deep it may call, whether it may raise -/
structure Dom where
  sc : Scope
  names : List Str
  n : Nat
  rs : Bool

structure ARoom (A : Around) (n : Nat) : Prop where
  guards : A.guards = some []
  depth : A.depth + 20 * n < 900
  units : A.units + 100 * n < 9000

structure ActOk (D : Dom) (a : Act) : Prop where
  sc : a.env.scope = D.sc
  names : a.names = D.names
  room : ARoom a.A D.n
  hd : D.rs = true → a.A.handled = none
  frames : a.A.frames = some a.envs
  kinds : ∀ e ∈ a.envs, e.scope.kind ≠ .module ∧ ∃ L, e.frame = some L
  top : ∃ e0 rest L, a.envs = e0 :: rest ∧ e0.frame = some L ∧ a.env.frame = some L

structure Inv (X : Ctx) (a : Act) (c : Cfg) (σ : St) (ρ : Env) (s : Shared) : Prop where
  r : RInv X a.fr c σ s
  env : EnvOk X c σ s.heap a.env a.names ρ

theorem RInv.evo {X : Ctx} {fr : List Addr} {c c' : Cfg} {σ σ' : St} {s s' : Shared} (I : RInv X fr c σ s) (x : Evo fr c σ s c' σ' s') (R : Rel X c' σ' s'.heap) : RInv X fr c' σ' s' :=
  ⟨R, I.fro.evo x (fun a ha => (I.frl a ha).1), fun f hf => by
    obtain ⟨o, es, ep, e, d⟩ := I.fro f hf
    exact ⟨x.notLive e (I.frl f hf).1, (I.frl f hf).2⟩⟩
theorem Inv.evo {X : Ctx} {a : Act} {c c' : Cfg} {σ σ' : St} {ρ : Env} {s s' : Shared} (I : Inv X a c σ ρ s) (x : Evo a.fr c σ s c' σ' s') (R : RInv X a.fr c' σ' s') : Inv X a c' σ' ρ s' :=
  ⟨R, I.env.evo x I.r.rel I.r.fro⟩

/-- an exception that flies within a frame -/
noncomputable def ExcAt (X : Ctx) (c : Cfg) (L : Option Addr) (h₀ h : Heap) (k : Nat) (e : Addr) : Prop := False
noncomputable def OkPost (X : Ctx) (a : Act) (c : Cfg) (σ : St) (ρ : Env) (s : Shared) (o : Out V) (v' : Value) (s' : Shared) : Prop :=
  ∃ v σ' c', o = .ok v σ' ∧ Inv X a c' σ' ρ s' ∧ Evo a.fr c σ s c' σ' s' ∧ VRep X c' s'.heap v' v
noncomputable def ExPost {α : Type} (X : Ctx) (a : Act) (c : Cfg) (σ : St) (ρ : Env) (s : Shared) (o : Out α) (e' : Value) (s' : Shared) : Prop :=
  ∃ k σ' c' e, o = .exc k σ' ∧ e' = .ref e ∧ Inv X a c' σ' ρ s' ∧ Evo a.fr c σ s c' σ' s' ∧ ExcAt X c' a.env.frame s.heap s'.heap k e
noncomputable def OkPostT (X : Ctx) (a : Act) (c : Cfg) (σ : St) (ρ : Env) (s : Shared) (o : Out Bool) (b : Bool) (s' : Shared) : Prop :=
  ∃ σ' c', o = .ok b σ' ∧ Inv X a c' σ' ρ s' ∧ Evo a.fr c σ s c' σ' s'

noncomputable def SoundE (X : Ctx) (D : Dom) (e : Expr) (ce : E) : Prop :=
  ∀ (a : Act) (c : Cfg) (σ : St) (ρ : Env) (s : Shared), ActOk D a → Inv X a c σ ρ s → ce ρ σ ≠ .bad →
    wpAny (model X.prog X.w) a.A (eval e a.env) (OkPost X a c σ ρ s (ce ρ σ)) (ExPost X a c σ ρ s (ce ρ σ)) s
noncomputable def SoundT (X : Ctx) (D : Dom) (e : Expr) (t : T) : Prop :=
  ∀ (a : Act) (c : Cfg) (σ : St) (ρ : Env) (s : Shared), ActOk D a → Inv X a c σ ρ s → t ρ σ ≠ .bad →
    wpAny (model X.prog X.w) a.A (isTrue e a.env (eval e a.env)) (OkPostT X a c σ ρ s (t ρ σ)) (ExPost X a c σ ρ s (t ρ σ)) s

noncomputable def ownOf (env : PySem.Env) (a : Addr) : Prop := a = env.locals ∨ ∃ x, env.cells.lookup x = some a

noncomputable def SPost (X : Ctx) (a : Act) (c : Cfg) (σ : St) (s : Shared) (o : SOut) (f : Flow) (s' : Shared) : Prop :=
  (∃ ρ' σ' c', f = .next ∧ o = .next ρ' σ' ∧ Inv X a c' σ' ρ' s' ∧ EvoO (ownOf a.env) a.fr c σ s c' σ' s') ∨
  (∃ v v' σ' c', f = .ret v' ∧ o = .ret v σ' ∧ (∃ ρ', Inv X a c' σ' ρ' s') ∧ EvoO (ownOf a.env) a.fr c σ s c' σ' s' ∧ VRep X c' s'.heap v' v)
noncomputable def SExc (X : Ctx) (a : Act) (c : Cfg) (σ : St) (s : Shared) (o : SOut) (e' : Value) (s' : Shared) : Prop :=
  ∃ k ρ' σ' c' e, o = .exc k ρ' σ' ∧ e' = .ref e ∧ Inv X a c' σ' ρ' s' ∧ EvoO (ownOf a.env) a.fr c σ s c' σ' s' ∧ ExcAt X c' a.env.frame s.heap s'.heap k e
noncomputable def SoundS (X : Ctx) (D : Dom) (st : Stmt) (cs : S) : Prop :=
  ∀ (a : Act) (c : Cfg) (σ : St) (ρ : Env) (s : Shared), ActOk D a → Inv X a c σ ρ s → cs ρ σ ≠ .bad →
    wpAny (model X.prog X.w) a.A (exec st a.env) (SPost X a c σ s (cs ρ σ)) (SExc X a c σ s (cs ρ σ)) s
noncomputable def SoundB (X : Ctx) (D : Dom) (sts : List Stmt) (cs : S) : Prop :=
  ∀ (a : Act) (c : Cfg) (σ : St) (ρ : Env) (s : Shared), ActOk D a → Inv X a c σ ρ s → cs ρ σ ≠ .bad →
    wpAny (model X.prog X.w) a.A (execs sts a.env) (SPost X a c σ s (cs ρ σ)) (SExc X a c σ s (cs ρ σ)) s

theorem ExcAt.evo {X : Ctx} {cx : Cfg} {L : Option Addr} {own : Addr → Prop} {fr : List Addr} {c c' : Cfg} {σ σ' : St} {s s' : Shared} (x : EvoO own fr c σ s c' σ' s') {h : Heap} {k : Nat} {e : Addr} (z : ExcAt X cx L s'.heap h k e) : ExcAt X cx L s.heap h k e := by
  exact z.elim
section
variable {X : Ctx} {D : Dom}

/-! constants and names -/
theorem sE_none {k : Nat} {pos : Pos} : SoundE X D (.Constant .none k pos) (cst .none) :=
  fun _ c σ _ s _ I _ => wpAny_pure ⟨_, _, c, rfl, I, EvoO.self, by simp [VRep]⟩
theorem sE_bool {b : Bool} {k : Nat} {pos : Pos} : SoundE X D (.Constant (.bool b) k pos) (cst (.bool b)) :=
  fun _ c σ _ s _ I _ => wpAny_pure ⟨_, _, c, rfl, I, EvoO.self, by simp [VRep]⟩
theorem Inv.toks {a : Act} {c : Cfg} {σ : St} {ρ : Env} {s : Shared} (I : Inv X a c σ ρ s) (t : Nat) : Inv X a c σ ρ { s with toks := t } := ⟨I.r.toks t, I.env⟩
theorem sE_int {i : Int} {k : Nat} {pos : Pos} : SoundE X D (.Constant (.int i) k pos) (cst (.int i)) :=
  fun _ c σ _ s _ I _ => wpAny_Constant_int ⟨_, _, c, rfl, I.toks _, EvoO.refl _, by simp [VRep]⟩
theorem sE_str {x : Str} {l : List Nat} {k : Nat} {pos : Pos} (h : x = strOf l) (hl : (∀ c ∈ l, c < 128) ∧ l.length ≤ LIM) : SoundE X D (.Constant (.str x) k pos) (cst (.str l)) :=
  fun _ c σ _ s _ I _ => Calls.Constant_str ⟨_, _, c, rfl, I.toks _, EvoO.refl _, by subst h; simp only [VRep, strOf]; exact ⟨⟨_, rfl⟩, hl⟩⟩

/-- what is proved of an expression whose value is at hand -/
theorem OkPost.here {a : Act} {c : Cfg} {σ : St} {ρ : Env} {s : Shared} {v : V} {v' : Value} (I : Inv X a c σ ρ s) (r : VRep X c s.heap v' v) : OkPost X a c σ ρ s (.ok v σ) v' s :=
  ⟨v, σ, c, rfl, I, EvoO.self, r⟩

theorem sE_local {x : Str} {i : Nat} {pos : Pos} (hi : D.names[i]? = some x) (hk : D.sc.names.lookup x = some .local) (hd : (x == ("__debug__" : Str)) = false) : SoundE X D (.Name x pos) (var i) := by
  intro a c σ ρ s ok I nb
  unfold var at nb ⊢
  cases hv : ρ[i]? with
  | none => rw [hv] at nb; exact absurd rfl nb
  | some o =>
    cases o with
    | none => rw [hv] at nb; exact absurd rfl nb
    | some v =>
      obtain ⟨m, hm, h⟩ := I.env.ns
      have hl : a.env.kindOf x = some .local := by unfold Env.kindOf; rw [ok.sc]; exact hk
      obtain ⟨v', e, r⟩ := h i x v (by rw [ok.names]; exact hi) hv hl
      exact wpAny_Name (wpAny_loadName_local I.env.kind hl hm e (.here I r)) hd
theorem sE_cell {x : Str} {i : Nat} {pos : Pos} (hi : D.names[i]? = some x) (hk : D.sc.names.lookup x = some .cell) (hd : (x == ("__debug__" : Str)) = false) : SoundE X D (.Name x pos) (var i) := by
  intro a c σ ρ s ok I nb
  unfold var at nb ⊢
  cases hv : ρ[i]? with
  | none => rw [hv] at nb; exact absurd rfl nb
  | some o =>
    cases o with
    | none => rw [hv] at nb; exact absurd rfl nb
    | some v =>
      have hl : a.env.kindOf x = some .cell := by unfold Env.kindOf; rw [ok.sc]; exact hk
      obtain ⟨b, v', e, q, r⟩ := I.env.cell i x v (by rw [ok.names]; exact hi) hv (.inl hl)
      exact wpAny_Name (wpAny_loadName_cell I.env.kind hl e q (.here I r)) hd
/-! composition -/
theorem ExPost.bind {α β : Type} {a : Act} {c : Cfg} {σ : St} {ρ : Env} {s s' : Shared} {o : Out α} {f : α → St → Out β} {e' : Value} (p : ExPost X a c σ ρ s o e' s') : ExPost X a c σ ρ s (o.bind f) e' s' := by
  obtain ⟨k, σ', c', e, rfl, r⟩ := p
  exact ⟨k, σ', c', e, rfl, r⟩
theorem OkPost.trans {a : Act} {c c₁ : Cfg} {σ σ₁ : St} {ρ : Env} {s s₁ s' : Shared} {o : Out V} {v' : Value} (x : Evo a.fr c σ s c₁ σ₁ s₁) (p : OkPost X a c₁ σ₁ ρ s₁ o v' s') : OkPost X a c σ ρ s o v' s' := by
  obtain ⟨v, σ', c', e, i, y, r⟩ := p
  exact ⟨v, σ', c', e, i, x.trans y, r⟩
theorem OkPostT.trans {a : Act} {c c₁ : Cfg} {σ σ₁ : St} {ρ : Env} {s s₁ s' : Shared} {o : Out Bool} {b : Bool} (x : Evo a.fr c σ s c₁ σ₁ s₁) (p : OkPostT X a c₁ σ₁ ρ s₁ o b s') : OkPostT X a c σ ρ s o b s' := by
  obtain ⟨σ', c', e, i, y⟩ := p
  exact ⟨σ', c', e, i, x.trans y⟩
theorem ExPost.trans {α : Type} {a : Act} {c c₁ : Cfg} {σ σ₁ : St} {ρ : Env} {s s₁ s' : Shared} {o : Out α} {e' : Value} (x : Evo a.fr c σ s c₁ σ₁ s₁) (p : ExPost X a c₁ σ₁ ρ s₁ o e' s') : ExPost X a c σ ρ s o e' s' := by
  obtain ⟨k, σ', c', e, h1, h2, i, y, z⟩ := p
  exact ⟨k, σ', c', e, h1, h2, i, x.trans y, z.evo x⟩
theorem bind_ok_ne {α β : Type} {o : Out α} {f : α → St → Out β} (nb : o.bind f ≠ .bad) : o ≠ .bad := by
  rintro rfl; exact nb rfl

/-- an expression, then what is done with its value -/
theorem SoundE.then {e : Expr} {ce : E} (hs : SoundE X D e ce) {β : Type} {f : V → St → Out β} {a : Act} {c : Cfg} {σ : St} {ρ : Env} {s : Shared} (ok : ActOk D a) (I : Inv X a c σ ρ s) (nb : (ce ρ σ).bind f ≠ .bad)
    {Q : Value → Shared → Prop} {Ex : Value → Shared → Prop} (hx : ∀ e' s', ExPost X a c σ ρ s ((ce ρ σ).bind f) e' s' → Ex e' s')
    (h : ∀ v' v σ₁ c₁ s₁, ce ρ σ = .ok v σ₁ → (ce ρ σ).bind f = f v σ₁ → f v σ₁ ≠ .bad → Inv X a c₁ σ₁ ρ s₁ → Evo a.fr c σ s c₁ σ₁ s₁ → VRep X c₁ s₁.heap v' v → Q v' s₁) :
    wpAny (model X.prog X.w) a.A (eval e a.env) Q Ex s := by
  refine wpAny_mono (hs a c σ ρ s ok I (bind_ok_ne nb)) (fun v' s₁ p => ?_) fun e' s' p => hx e' s' p.bind
  obtain ⟨v, σ₁, c₁, eq, i, x, r⟩ := p
  have hb : (ce ρ σ).bind f = f v σ₁ := by rw [eq]; rfl
  exact h v' v σ₁ c₁ s₁ eq hb (by rw [← hb]; exact nb) i x r

structure PRoom (A : Around) : Prop where
  guards : A.guards = some []
  depth : A.depth < 900
  units : A.units < 9000
theorem ARoom.p {A : Around} {n : Nat} (h : ARoom A n) : PRoom A := ⟨h.guards, by have := h.depth; omega, by have := h.units; omega⟩

noncomputable def Prim1 (X : Ctx) (t : Value → Sem Value) (p : V → St → Out V) : Prop :=
  ∀ (A : Around) (fr : List Addr) (c : Cfg) (σ : St) (s : Shared) (a' : Value) (a : V), PRoom A → RInv X fr c σ s → VRep X c s.heap a' a → p a σ ≠ .bad →
    wpAny (model X.prog X.w) A (t a') (POk X fr c σ s (p a σ)) (fun _ _ => False) s
noncomputable def Prim2 (X : Ctx) (t : Value → Value → Sem Value) (p : V → V → St → Out V) : Prop :=
  ∀ (A : Around) (fr : List Addr) (c : Cfg) (σ : St) (s : Shared) (a' b' : Value) (a b : V), PRoom A → RInv X fr c σ s → VRep X c s.heap a' a → VRep X c s.heap b' b → p a b σ ≠ .bad →
    wpAny (model X.prog X.w) A (t a' b') (POk X fr c σ s (p a b σ)) (fun _ _ => False) s

theorem POk.act {a : Act} {c : Cfg} {σ : St} {ρ : Env} {s s' : Shared} {o : Out V} {v' : Value} (I : Inv X a c σ ρ s) (p : POk X a.fr c σ s o v' s') : OkPost X a c σ ρ s o v' s' := by
  obtain ⟨v, σ', c', e, r, x, q⟩ := p
  exact ⟨v, σ', c', e, I.evo x r, x, q⟩

theorem sE_bin {l r : Expr} {op : Operator} {pos : Pos} {cl cr : E} {p : V → V → St → Out V} (hp : Prim2 X (binaryOp op) p) (hl : SoundE X D l cl) (hr : SoundE X D r cr) : SoundE X D (.BinOp l op r pos) (bin p cl cr) := by
  intro a c σ ρ s ok I nb
  unfold bin at nb ⊢
  refine wpAny_BinOp (hl.then ok I nb (fun e' s' p => p) fun v' v σ₁ c₁ s₁ e1 eb nb1 I1 x1 r1 => ?_)
  rw [eb]
  refine hr.then ok I1 nb1 (fun e' s' p => p.trans x1) fun w' w σ₂ c₂ s₂ e2 eb2 nb2 I2 x2 r2 => ?_
  rw [eb2]
  exact wpAny_mono (hp a.A a.fr c₂ σ₂ s₂ v' w' v w ok.room.p I2.r (r1.evo x2 I1.r.rel I1.r.fro (fun _ _ => id)) r2 nb2) (fun v3 s3 p3 => (p3.act I2).trans (x1.trans x2)) fun _ _ f => f.elim
end
end Mine
end

section
namespace Mine
open PySem

theorem isTupleKey_mono {X : Ctx} {K : Type} [DecidableEq K] {knd : KeyKind X.prog X.w K} {h h' : Heap} {ks : List K} {a : Addr} (x : IsTupleKey knd h ks a) (he : ∀ ob, h.get? a = some ob → h'.get? a = some ob) : IsTupleKey knd h' ks a := by
  obtain ⟨o, items, n, e, r⟩ := x
  exact ⟨o, items, n, he o e, r⟩
theorem dictOfH_mono {X : Ctx} {K : Type} [DecidableEq K] {knd : KeyKind X.prog X.w K} {h h' : Heap} {d : Addr} {xs : List (List K × Addr × Value)} (x : h.DictOfH (tupleKind knd) d xs) (he : ∀ ob, h.get? d = some ob → h'.get? d = some ob)
    (hk : ∀ y ∈ xs, ∀ ob, h.get? y.2.1 = some ob → h'.get? y.2.1 = some ob) : h'.DictOfH (tupleKind knd) d xs := by
  obtain ⟨o, es, ep, e, r1, r2, r3, r4, r5⟩ := x
  exact ⟨o, es, ep, he o e, r1, r2, r3, fun y hy => isTupleKey_mono (r4 y hy) (hk y hy), r5⟩

theorem ObjRep.mono {X : Ctx} {c c' : Cfg} {h h' : Heap} {a : Addr} (hm : ∀ (l : Nat) (a : Addr), c.mu[l]? = some a → c'.mu[l]? = some a) (hf : ∀ a, c.frz a → c'.frz a)
    (hk : ∀ a o, c.frz a → h.get? a = some o → h'.get? a = some o) (he : ∀ ob, h.get? a = some ob → h'.get? a = some ob) : ∀ (o : PObj), ObjRep X c h a o → ObjRep X c' h' a o
  | .dead, x => x
  | .list vs, ⟨items, n, e, r⟩ => ⟨items, n, he _ e, VReps.mono hm hf hk vs r.1, r.2⟩
  | .dictS es, ⟨q, xs, d, f, k, r⟩ => ⟨q, xs, dictOfH_mono d he (fun y hy ob e => hk _ _ (f y hy) e), fun y hy => hf _ (f y hy), k, VReps.mono hm hf hk _ r⟩
  | .inst d, ⟨dx, m, e⟩ => ⟨dx, hm _ _ m, he _ e⟩
  | .attrs r w, ⟨m, ⟨o, es, ep, e, q⟩, h1, h2, h3⟩ => ⟨m, ⟨o, es, ep, he _ e, q⟩, fun v hv => let ⟨v', a1, a2⟩ := h1 v hv; ⟨v', a1, VRep.mono hm hf hk v a2⟩, fun v hv => let ⟨v', a1, a2⟩ := h2 v hv; ⟨v', a1, VRep.mono hm hf hk v a2⟩, h3⟩

noncomputable def Cfg.freeze (c : Cfg) (a : Addr) : Cfg := ⟨c.mu, fun b => c.frz b ∨ b = a⟩
noncomputable def Cfg.place (c : Cfg) (a : Addr) : Cfg := ⟨c.mu ++ [a], c.frz⟩

section
variable {X : Ctx} {fr : List Addr} {c : Cfg} {σ : St} {s : Shared}

theorem get?_size (h : Heap) : h.get? h.objs.size = none := by
  cases e : h.get? h.objs.size with
  | none => rfl
  | some o => exact absurd (Heap.lt_size e) (Nat.lt_irrefl _)

/-- objects pushed onto the heap that become frozen, or none of ours -/
theorem push_evo (fz : Bool) (o : Obj) : Evo fr c σ s (if fz then c.freeze s.heap.objs.size else c) σ { s with heap := s.heap.push o } where
  same a ob e _ _ _ := Heap.get?_push_of_some o e
  frs a ob e _ _ _ := ⟨ob.slots, Heap.get?_push_of_some o e⟩
  exist a ob e := ⟨ob, Heap.get?_push_of_some o e⟩
  lives a l := .inl (by cases fz <;> exact l)
  mu l a e := by cases fz <;> exact e
  frz a f := by cases fz; exact f; exact .inl f
  newf a f := by
    cases fz
    · exact .inl f
    · rcases f with f | rfl
      · exact .inl f
      · exact .inr (.inr (get?_size _))
  gens := rfl
  os := rfl

theorem RInv.pushFrz (I : RInv X fr c σ s) (o : Obj) (ho : frzOk o) (hfree : o.isFreed = false) : RInv X fr (c.freeze s.heap.objs.size) σ { s with heap := s.heap.push o } := by
  have x : Evo fr c σ s (c.freeze s.heap.objs.size) σ { s with heap := s.heap.push o } := push_evo true o
  refine I.evo x ⟨I.rel.len, I.rel.nd, fun a h => let ⟨ob, e, k⟩ := I.rel.there a h; ⟨ob, Heap.get?_push_of_some o e, k⟩, fun l ob a e d m => ?_, fun a f => ?_, fun b ob e => Heap.get?_push_of_some o (I.rel.base b ob e)⟩
  · obtain ⟨n1, n2, n3⟩ := I.rel.obj l ob a e d m
    refine ⟨fun f => ?_, n2, ObjRep.mono x.mu x.frz (fun a ob _ e => Heap.get?_push_of_some o e) (fun ob e => Heap.get?_push_of_some o e) ob n3⟩
    rcases f with f | rfl
    · exact n1 f
    · have : ∃ ob', s.heap.get? s.heap.objs.size = some ob' := by
        cases ob with
        | dead => cases d
        | list vs => obtain ⟨_, _, e, _⟩ := n3; exact ⟨_, e⟩
        | dictS es => obtain ⟨_, _, ⟨_, _, _, e, _⟩, _⟩ := n3; exact ⟨_, e⟩
        | inst d => obtain ⟨_, _, q⟩ := n3; rw [get?_size] at q; cases q
        | attrs _ _ => obtain ⟨_, ⟨_, _, _, q, _⟩, _⟩ := n3; rw [get?_size] at q; cases q
      obtain ⟨ob', e'⟩ := this
      rw [get?_size] at e'; cases e'
  · rcases f with f | rfl
    · obtain ⟨ob, e, k⟩ := I.rel.frz a f
      exact ⟨ob, Heap.get?_push_of_some o e, k⟩
    · exact ⟨o, Heap.get?_push_size _ hfree, ho⟩

theorem ObjRep.there {h : Heap} {a : Addr} {o : PObj} (d : o.isDead = false) (r : ObjRep X c h a o) : ∃ ob, h.get? a = some ob := by
  cases o with
  | dead => cases d
  | list vs => obtain ⟨_, _, e, _⟩ := r; exact ⟨_, e⟩
  | dictS es => obtain ⟨_, _, ⟨_, _, _, e, _⟩, _⟩ := r; exact ⟨_, e⟩
  | inst d => obtain ⟨_, _, e⟩ := r; exact ⟨_, e⟩
  | attrs _ _ => obtain ⟨_, ⟨_, _, _, e, _⟩, _⟩ := r; exact ⟨_, e⟩
theorem Rel.liveThere {h : Heap} (R : Rel X c σ h) {a : Addr} (l : live c σ a) : ∃ ob, h.get? a = some ob := by
  obtain ⟨l, o, m, e, d⟩ := l
  exact (R.obj l o a e d m).2.2.there d

theorem frzOk_tup (items : Array Value) (n : Nat) : frzOk (tupObj items n) := ⟨fun _ _ h => (nomatch h), fun _ h => (nomatch h)⟩
theorem frzOk_lst (items : Array Value) (n : Nat) : frzOk (lstObj items n) := ⟨fun _ _ h => (nomatch h), fun _ h => (nomatch h)⟩

/-- a new tuple of borne values -/
theorem POk.tup (I : RInv X fr c σ s) {vs' : List Value} {vs : List V} (r : VReps X c s.heap vs' vs) (hlen : vs.length ≤ LIM) (t : Nat) :
    POk X fr c σ s (.ok (.tup vs) σ) (.ref s.heap.objs.size) { s with heap := s.heap.push (tupObj vs'.toArray 0), toks := t } := by
  refine ⟨_, _, c.freeze s.heap.objs.size, rfl, (I.pushFrz (tupObj vs'.toArray 0) (frzOk_tup _ _) rfl).toks t, (push_evo true (tupObj vs'.toArray 0)).trans (EvoO.refl t), ?_⟩
  simp only [VRep]
  refine ⟨_, vs'.toArray, 0, rfl, .inr rfl, Heap.get?_push_size _ rfl, ?_, hlen⟩
  exact VReps.mono (c := c) (c' := c.freeze s.heap.objs.size) (h := s.heap) (fun _ _ e => e) (fun _ f => Or.inl f) (fun _ _ _ e => Heap.get?_push_of_some _ e) vs (by simpa using r)
theorem POk.lst (I : RInv X fr c σ s) {vs' : Array Value} {vs : List V} (r : VReps X c s.heap vs'.toList vs) (hlen : vs.length ≤ LIM) (t : Nat) :
    POk X fr c σ s (.ok (.lst vs) σ) (.ref s.heap.objs.size) { s with heap := s.heap.push (lstObj vs' 0), toks := t } := by
  refine ⟨_, _, c.freeze s.heap.objs.size, rfl, (I.pushFrz (lstObj vs' 0) (frzOk_lst _ _) rfl).toks t, (push_evo true (lstObj vs' 0)).trans (EvoO.refl t), ?_⟩
  simp only [VRep]
  refine ⟨_, vs', 0, rfl, .inr rfl, Heap.get?_push_size _ rfl, ?_, hlen⟩
  exact VReps.mono (c := c) (c' := c.freeze s.heap.objs.size) (h := s.heap) (fun _ _ e => e) (fun _ f => Or.inl f) (fun _ _ _ e => Heap.get?_push_of_some _ e) vs r

theorem getElem?_snoc {α : Type} (l : List α) (x y : α) (i : Nat) (h : (l ++ [x])[i]? = some y) : l[i]? = some y ∨ (i = l.length ∧ y = x) := by
  rcases Nat.lt_trichotomy i l.length with q | q | q
  · exact .inl (by rw [List.getElem?_append_left q] at h; exact h)
  · subst q; simp at h; exact .inr ⟨rfl, h.symm⟩
  · rw [List.getElem?_append_right (by omega)] at h
    have : ([x] : List α)[i - l.length]? = none := by simp; omega
    rw [this] at h; cases h
theorem getElem?_append_some {α : Type} {l : List α} {y : α} {i : Nat} (m : List α) (h : l[i]? = some y) : (l ++ m)[i]? = some y := by
  rw [List.getElem?_append_left (List.getElem?_eq_some_iff.mp h).1]; exact h

/-- a new object that is a place -/
theorem place_evo (R : Rel X c σ s.heap) (po : PObj) (o : Obj) (hfree : o.isFreed = false) : Evo fr c σ s (c.place s.heap.objs.size) (σ ++ [po]) { s with heap := s.heap.push o } where
  same a ob e _ _ _ := Heap.get?_push_of_some o e
  frs a ob e _ _ _ := ⟨ob.slots, Heap.get?_push_of_some o e⟩
  exist a ob e := ⟨ob, Heap.get?_push_of_some o e⟩
  lives a l := by
    obtain ⟨l, ob, m, e, d⟩ := l
    rcases getElem?_snoc _ _ _ _ m with m | ⟨rfl, rfl⟩
    · rcases getElem?_snoc _ _ _ _ e with e | ⟨rfl, rfl⟩
      · exact .inl ⟨l, ob, m, e, d⟩
      · have := (List.getElem?_eq_some_iff.mp m).1
        rw [R.len] at this; exact absurd this (Nat.lt_irrefl _)
    · exact .inr (get?_size _)
  mu l a e := getElem?_append_some _ e
  frz a f := f
  newf a f := .inl f
  gens := rfl
  os := rfl

theorem RInv.pushPlace (I : RInv X fr c σ s) (po : PObj) (o : Obj) (hfree : o.isFreed = false) (hrec : ∀ vs, o.data ≠ .fields vs) (hr : ObjRep X (c.place s.heap.objs.size) (s.heap.push o) s.heap.objs.size po) : RInv X fr (c.place s.heap.objs.size) (σ ++ [po]) { s with heap := s.heap.push o } := by
  have x : Evo fr c σ s (c.place s.heap.objs.size) (σ ++ [po]) { s with heap := s.heap.push o } := place_evo I.rel po o hfree
  have hnb : X.base.get? s.heap.objs.size = none := by
    cases e : X.base.get? s.heap.objs.size with
    | none => rfl
    | some ob => have := I.rel.base _ _ e; rw [get?_size] at this; cases this
  refine I.evo x ⟨by simp [Cfg.place, I.rel.len], ?_, fun a h => ?_, fun l ob a e d m => ?_, fun a f => ?_, fun b ob e => Heap.get?_push_of_some o (I.rel.base b ob e)⟩
  · simp only [Cfg.place]
    refine List.nodup_append.mpr ⟨I.rel.nd, by simp, fun a ha b hb' q => ?_⟩
    simp at hb'; subst hb'; subst q
    obtain ⟨ob, e, _⟩ := I.rel.there _ ha
    rw [get?_size] at e; cases e
  · simp only [Cfg.place, List.mem_append, List.mem_singleton] at h
    rcases h with h | rfl
    · obtain ⟨ob, e, k⟩ := I.rel.there a h; exact ⟨ob, Heap.get?_push_of_some o e, k⟩
    · exact ⟨o, Heap.get?_push_size _ hfree, hrec⟩
  · simp only [Cfg.place] at m
    rcases getElem?_snoc _ _ _ _ m with m | ⟨rfl, rfl⟩
    · have e' : σ[l]? = some ob := by
        rcases getElem?_snoc _ _ _ _ e with e | ⟨rfl, rfl⟩
        · exact e
        · have := (List.getElem?_eq_some_iff.mp m).1
          rw [I.rel.len] at this; exact absurd this (Nat.lt_irrefl _)
      obtain ⟨n1, n2, n3⟩ := I.rel.obj l ob a e' d m
      exact ⟨n1, n2, ObjRep.mono x.mu x.frz (fun a ob _ e => Heap.get?_push_of_some o e) (fun ob e => Heap.get?_push_of_some o e) ob n3⟩
    · rw [I.rel.len] at e
      obtain rfl : po = ob := by simpa using e
      refine ⟨fun f => ?_, hnb, hr⟩
      obtain ⟨ob, e, _⟩ := I.rel.frz _ f
      rw [get?_size] at e; cases e
  · obtain ⟨ob, e, k⟩ := I.rel.frz a f
    exact ⟨ob, Heap.get?_push_of_some o e, k⟩
theorem POk.newList (I : RInv X fr c σ s) {vs' : Array Value} {vs : List V} (r : VReps X c s.heap vs'.toList vs) (hlen : vs.length ≤ LIM) (t : Nat) :
    POk X fr c σ s (alloc (.list vs) σ) (.ref s.heap.objs.size) { s with heap := s.heap.push (lstObj vs' 0), toks := t } := by
  have hr : VReps X (c.place s.heap.objs.size) (s.heap.push (lstObj vs' 0)) vs'.toList vs := VReps.mono (c := c) (c' := c.place s.heap.objs.size) (h := s.heap) (fun _ _ e => getElem?_append_some _ e) (fun _ f => f) (fun _ _ _ e => Heap.get?_push_of_some _ e) vs r
  refine ⟨_, _, c.place s.heap.objs.size, rfl, (I.pushPlace (.list vs) (lstObj vs' 0) rfl (fun _ h => nomatch h) ⟨vs', 0, Heap.get?_push_size _ rfl, hr, hlen⟩).toks t, (place_evo I.rel _ _ rfl).trans (EvoO.refl t), ?_⟩
  simp only [VRep]
  exact ⟨_, rfl, by simp [Cfg.place, ← I.rel.len]⟩
end
end Mine
end

section
namespace Mine
open PySem

section
variable {X : Ctx} {D : Dom}

noncomputable def TruePrim (X : Ctx) : Prop :=
  ∀ (A : Around) (fr : List Addr) (c : Cfg) (σ : St) (s : Shared) (a' : Value) (a : V) (b : Bool), PRoom A → RInv X fr c σ s → VRep X c s.heap a' a → truth σ a = some b →
    wpAny (model X.prog X.w) A (truthy a') (fun b' s' => b' = b ∧ ∃ t, s' = { s with toks := t }) (fun _ _ => False) s
noncomputable def CmpPrim (X : Ctx) (op : CmpOp) : Prop :=
  ∀ (A : Around) (fr : List Addr) (c : Cfg) (σ : St) (s : Shared) (a' b' : Value) (a b : V) (r : Bool), PRoom A → RInv X fr c σ s → VRep X c s.heap a' a → VRep X c s.heap b' b → cmpV op a b σ = some r →
    wpAny (model X.prog X.w) A (compareOp op a' b') (fun v' s' => v' = .bool r ∧ ∃ t, s' = { s with toks := t }) (fun _ _ => False) s

theorem lift_ne_bad {α : Type} {o : Option α} {σ : St} (h : lift o σ ≠ .bad) : ∃ r, o = some r := by
  cases o with
  | none => exact absurd rfl h
  | some r => exact ⟨r, rfl⟩

/-- a test, then what is done with its outcome -/
theorem SoundT.then {e : Expr} {t : T} (hs : SoundT X D e t) {β : Type} {f : Bool → St → Out β} {a : Act} {c : Cfg} {σ : St} {ρ : Env} {s : Shared} (ok : ActOk D a) (I : Inv X a c σ ρ s) (nb : (t ρ σ).bind f ≠ .bad)
    {Q : Bool → Shared → Prop} {Ex : Value → Shared → Prop} (hx : ∀ e' s', ExPost X a c σ ρ s ((t ρ σ).bind f) e' s' → Ex e' s')
    (h : ∀ b σ₁ c₁ s₁, t ρ σ = .ok b σ₁ → (t ρ σ).bind f = f b σ₁ → f b σ₁ ≠ .bad → Inv X a c₁ σ₁ ρ s₁ → Evo a.fr c σ s c₁ σ₁ s₁ → Q b s₁) :
    wpAny (model X.prog X.w) a.A (isTrue e a.env (eval e a.env)) Q Ex s := by
  refine wpAny_mono (hs a c σ ρ s ok I (bind_ok_ne nb)) (fun b s₁ p => ?_) fun e' s' p => hx e' s' p.bind
  obtain ⟨σ₁, c₁, eq, i, x⟩ := p
  have hb : (t ρ σ).bind f = f b σ₁ := by rw [eq]; rfl
  exact h b σ₁ c₁ s₁ eq hb (by rw [← hb]; exact nb) i x

theorem sT_not {e : Expr} {pos : Pos} {t : T} (h : SoundT X D e t) : SoundT X D (.UnaryOp .Not e pos) (tNot t) := by
  intro a c σ ρ s ok I nb
  unfold tNot at nb ⊢
  refine PyProof.Rows.isTrue_not (h.then ok I nb (fun _ _ p => p) fun b σ₁ c₁ s₁ e1 eb nb1 I1 x1 => ?_)
  rw [eb]
  exact ⟨σ₁, c₁, rfl, I1, x1⟩
theorem sT_and_nil {pos : Pos} : SoundT X D (.BoolOp .And [] pos) (tAnd []) := fun a c σ ρ s ok I nb => PyProof.Rows.isTrue_and_nil ⟨σ, c, rfl, I, EvoO.self⟩
theorem sT_or_nil {pos : Pos} : SoundT X D (.BoolOp .Or [] pos) (tOr []) := fun a c σ ρ s ok I nb => PyProof.Rows.isTrue_or_nil ⟨σ, c, rfl, I, EvoO.self⟩
theorem sT_and {e : Expr} {es : List Expr} {pos : Pos} {t : T} {ts : List T} (h : SoundT X D e t) (hr : SoundT X D (.BoolOp .And es pos) (tAnd ts)) : SoundT X D (.BoolOp .And (e :: es) pos) (tAnd (t :: ts)) := by
  intro a c σ ρ s ok I nb
  unfold tAnd at nb ⊢
  refine PyProof.Rows.isTrue_and (h.then ok I nb (fun _ _ p => p) fun b σ₁ c₁ s₁ e1 eb nb1 I1 x1 => ?_)
  rw [eb]
  cases b with
  | false => exact ⟨σ₁, c₁, rfl, I1, x1⟩
  | true => exact wpAny_mono (hr a c₁ σ₁ ρ s₁ ok I1 nb1) (fun _ _ p => p.trans x1) fun _ _ p => p.trans x1
theorem sT_or {e : Expr} {es : List Expr} {pos : Pos} {t : T} {ts : List T} (h : SoundT X D e t) (hr : SoundT X D (.BoolOp .Or es pos) (tOr ts)) : SoundT X D (.BoolOp .Or (e :: es) pos) (tOr (t :: ts)) := by
  intro a c σ ρ s ok I nb
  unfold tOr at nb ⊢
  refine PyProof.Rows.isTrue_or (h.then ok I nb (fun _ _ p => p) fun b σ₁ c₁ s₁ e1 eb nb1 I1 x1 => ?_)
  rw [eb]
  cases b with
  | true => exact ⟨σ₁, c₁, rfl, I1, x1⟩
  | false => exact wpAny_mono (hr a c₁ σ₁ ρ s₁ ok I1 nb1) (fun _ _ p => p.trans x1) fun _ _ p => p.trans x1
theorem sT_cmp {l r : Expr} {op : CmpOp} {pos : Pos} {cl cr : E} (hp : CmpPrim X op) (hm : behindInMarks op r = false) (hl : SoundE X D l cl) (hr : SoundE X D r cr) : SoundT X D (.Compare l [op] [r] pos) (tCmp op cl cr) := by
  intro a c σ ρ s ok I nb
  unfold tCmp at nb ⊢
  refine wpAny_isTrue_Compare1 (hl.then ok I nb (fun e' s' p => p) fun v' v σ₁ c₁ s₁ e1 eb nb1 I1 x1 r1 => ?_) hm
  rw [eb]
  refine hr.then ok I1 nb1 (fun e' s' p => p.trans x1) fun w' w σ₂ c₂ s₂ e2 eb2 nb2 I2 x2 r2 => ?_
  rw [eb2]
  obtain ⟨b, hb⟩ := lift_ne_bad nb2
  refine wpAny_mono (hp a.A a.fr c₂ σ₂ s₂ v' w' v w b ok.room.p I2.r (r1.evo x2 I1.r.rel I1.r.fro (fun _ _ => id)) r2 hb) (fun v3 s3 p3 => ?_) fun _ _ f => f.elim
  obtain ⟨rfl, t, rfl⟩ := p3
  refine wpAny_truthy_bool ⟨σ₂, c₂, by rw [hb]; rfl, I2.toks t, (x1.trans x2).trans (EvoO.refl t)⟩
theorem sT_of {e : Expr} {ce : E} (ht : TruePrim X) (h : SoundE X D e ce) (he : ∀ env whole, isTrue e env whole = (do let v ← whole; standAt e.pos; holding [v] (truthy v))) : SoundT X D e (tOf ce) := by
  intro a c σ ρ s ok I nb
  unfold tOf at nb ⊢
  refine PyProof.Rows.isTrue_plain (h.then ok I nb (fun e' s' p => p) fun v' v σ₁ c₁ s₁ e1 eb nb1 I1 x1 r1 => ?_) (he _ _)
  rw [eb]
  obtain ⟨b, hb⟩ := lift_ne_bad nb1
  refine wpAny_mono (ht a.A a.fr c₁ σ₁ s₁ v' v b ok.room.p I1.r r1 hb) (fun v3 s3 p3 => ?_) fun _ _ f => f.elim
  obtain ⟨rfl, t, rfl⟩ := p3
  exact ⟨σ₁, c₁, by rw [hb]; rfl, I1.toks t, x1.trans (EvoO.refl t)⟩
/-- a comparison as a value -/
theorem sE_cmp {l r : Expr} {op : CmpOp} {pos : Pos} {cl cr : E} (hp : CmpPrim X op) (hm : behindInMarks op r = false) (hl : SoundE X D l cl) (hr : SoundE X D r cr) : SoundE X D (.Compare l [op] [r] pos) (ofT (tCmp op cl cr)) := by
  intro a c σ ρ s ok I nb
  unfold ofT at nb ⊢
  have nb' := bind_ok_ne nb
  unfold tCmp at nb nb' ⊢
  refine wpAny_Compare1 (hl.then ok I nb' (fun e' s' p => p.bind) fun v' v σ₁ c₁ s₁ e1 eb nb1 I1 x1 r1 => ?_) hm
  rw [eb]
  refine hr.then ok I1 nb1 (fun e' s' p => (p.trans x1).bind) fun w' w σ₂ c₂ s₂ e2 eb2 nb2 I2 x2 r2 => ?_
  rw [eb2]
  obtain ⟨b, hb⟩ := lift_ne_bad nb2
  refine wpAny_mono (hp a.A a.fr c₂ σ₂ s₂ v' w' v w b ok.room.p I2.r (r1.evo x2 I1.r.rel I1.r.fro (fun _ _ => id)) r2 hb) (fun v3 s3 p3 => ?_) fun _ _ f => f.elim
  obtain ⟨rfl, t, rfl⟩ := p3
  exact ⟨.bool b, σ₂, c₂, by rw [hb]; rfl, I2.toks t, (x1.trans x2).trans (EvoO.refl t), by simp [VRep]⟩

/-! statements -/
theorem SExc.ofEx {α : Type} {a : Act} {c : Cfg} {σ : St} {ρ : Env} {s s' : Shared} {o : Out α} {f : α → St → SOut} {e' : Value} (p : ExPost X a c σ ρ s o e' s') : SExc X a c σ s (o.to ρ f) e' s' := by
  obtain ⟨k, σ', c', e, rfl, h2, i, x, z⟩ := p
  exact ⟨k, ρ, σ', c', e, rfl, h2, i, EvoO.weak x, z⟩
theorem to_ok_ne {α : Type} {o : Out α} {ρ : Env} {f : α → St → SOut} (nb : o.to ρ f ≠ .bad) : o ≠ .bad := by
  rintro rfl; exact nb rfl
theorem SoundE.to {e : Expr} {ce : E} (hs : SoundE X D e ce) {f : V → St → SOut} {a : Act} {c : Cfg} {σ : St} {ρ : Env} {s : Shared} (ok : ActOk D a) (I : Inv X a c σ ρ s) (nb : (ce ρ σ).to ρ f ≠ .bad)
    {Q : Value → Shared → Prop} {Ex : Value → Shared → Prop} (hx : ∀ e' s', SExc X a c σ s ((ce ρ σ).to ρ f) e' s' → Ex e' s')
    (h : ∀ v' v σ₁ c₁ s₁, ce ρ σ = .ok v σ₁ → (ce ρ σ).to ρ f = f v σ₁ → f v σ₁ ≠ .bad → Inv X a c₁ σ₁ ρ s₁ → Evo a.fr c σ s c₁ σ₁ s₁ → VRep X c₁ s₁.heap v' v → Q v' s₁) :
    wpAny (model X.prog X.w) a.A (eval e a.env) Q Ex s := by
  refine wpAny_mono (hs a c σ ρ s ok I (to_ok_ne nb)) (fun v' s₁ p => ?_) fun e' s' p => hx e' s' (.ofEx p)
  obtain ⟨v, σ₁, c₁, eq, i, x, r⟩ := p
  have hb : (ce ρ σ).to ρ f = f v σ₁ := by rw [eq]; rfl
  exact h v' v σ₁ c₁ s₁ eq hb (by rw [← hb]; exact nb) i x r

theorem sB_nil : SoundB X D [] (seq []) := fun a c σ ρ s ok I nb => wpAny_execs_nil (.inl ⟨ρ, σ, c, rfl, rfl, I, EvoO.self⟩)
theorem SPost.trans {a : Act} {c c₁ : Cfg} {σ σ₁ : St} {s s₁ s' : Shared} {o : SOut} {f : Flow} (x : EvoO (ownOf a.env) a.fr c σ s c₁ σ₁ s₁) (p : SPost X a c₁ σ₁ s₁ o f s') : SPost X a c σ s o f s' := by
  rcases p with ⟨ρ', σ', c', h1, h2, i, y⟩ | ⟨v, v', σ', c', h1, h2, i, y, r⟩
  · exact .inl ⟨ρ', σ', c', h1, h2, i, x.trans y⟩
  · exact .inr ⟨v, v', σ', c', h1, h2, i, x.trans y, r⟩
theorem SExc.trans {a : Act} {c c₁ : Cfg} {σ σ₁ : St} {s s₁ s' : Shared} {o : SOut} {e' : Value} (x : EvoO (ownOf a.env) a.fr c σ s c₁ σ₁ s₁) (p : SExc X a c₁ σ₁ s₁ o e' s') : SExc X a c σ s o e' s' := by
  obtain ⟨k, ρ', σ', c', e, h1, h2, i, y, z⟩ := p
  exact ⟨k, ρ', σ', c', e, h1, h2, i, x.trans y, z.evo x⟩
theorem sB_cons {st : Stmt} {sts : List Stmt} {cs : S} {css : List S} (h : SoundS X D st cs) (hr : SoundB X D sts (seq css)) : SoundB X D (st :: sts) (seq (cs :: css)) := by
  intro a c σ ρ s ok I nb
  unfold seq at nb ⊢
  have nb1 : cs ρ σ ≠ .bad := by intro e; rw [e] at nb; exact nb rfl
  refine wpAny_execs_cons (wpAny_mono (h a c σ ρ s ok I nb1) (fun f s₁ p => ?_) fun e' s' p => ?_)
  · rcases p with ⟨ρ', σ', c', rfl, h2, i, y⟩ | ⟨v, v', σ', c', rfl, h2, i, y, r⟩
    · rw [h2] at nb ⊢
      exact wpAny_mono (hr a c' σ' ρ' s₁ ok i nb) (fun _ _ p => p.trans y) fun _ _ p => p.trans y
    · rw [h2]
      exact .inr ⟨v, v', σ', c', rfl, rfl, i, y, r⟩
  · obtain ⟨k, ρ', σ', c', e, h1, h2, i, y, z⟩ := p
    rw [h1]
    exact ⟨k, ρ', σ', c', e, rfl, h2, i, y, z⟩
theorem sS_ret {e : Expr} {pos : Pos} {ce : E} (h : SoundE X D e ce) : SoundS X D (.Return (some e) pos) (retS ce) := by
  intro a c σ ρ s ok I nb
  unfold retS at nb ⊢
  refine wpAny_Return_some (h.to ok I nb (fun _ _ p => p) fun v' v σ₁ c₁ s₁ e1 eb nb1 I1 x1 r1 => ?_)
  rw [eb]
  exact .inr ⟨v, v', σ₁, c₁, rfl, rfl, ⟨ρ, I1⟩, EvoO.weak x1, r1⟩
theorem sS_if {t : Expr} {b o : List Stmt} {pos : Pos} {ct : T} {cb co : S} (ht : SoundT X D t ct) (hb : SoundB X D b cb) (ho : SoundB X D o co) : SoundS X D (.If t b o pos) (ifS ct cb co) := by
  intro a c σ ρ s ok I nb
  unfold ifS at nb ⊢
  refine wpAny_If (wpAny_mono (ht a c σ ρ s ok I (to_ok_ne nb)) (fun b s₁ p => ?_) fun e' s' p => .ofEx p)
  obtain ⟨σ₁, c₁, eq, i, x⟩ := p
  rw [eq] at nb ⊢
  cases b with
  | true => exact wpAny_mono (hb a c₁ σ₁ ρ s₁ ok i nb) (fun _ _ p => p.trans (EvoO.weak x)) fun _ _ p => p.trans (EvoO.weak x)
  | false => exact wpAny_mono (ho a c₁ σ₁ ρ s₁ ok i nb) (fun _ _ p => p.trans (EvoO.weak x)) fun _ _ p => p.trans (EvoO.weak x)
end
end Mine
end

section
namespace Mine
open PySem

section
variable {X : Ctx} {D : Dom}

/-- one object that is none of ours is changed -/
theorem Rel.but {c : Cfg} {σ : St} {h h' : Heap} {L : Addr} (R : Rel X c σ h) (nl : ¬ live c σ L) (nf : ¬ c.frz L) (nb : X.base.get? L = none) (hs : Heap.SameBut L h h') (hL : ∃ o, h'.get? L = some o ∧ ∀ vs, o.data ≠ .fields vs) : Rel X c σ h' where
  len := R.len
  nd := R.nd
  there a ha := by
    obtain ⟨o, e, k⟩ := R.there a ha
    by_cases q : a = L
    · subst q; exact hL
    · exact ⟨o, (hs.2 a q).trans e, k⟩
  obj l o a e d m := by
    obtain ⟨n1, n2, n3⟩ := R.obj l o a e d m
    have q : a ≠ L := by rintro rfl; exact nl ⟨l, o, m, e, d⟩
    exact ⟨n1, n2, ObjRep.mono (fun _ _ e => e) (fun _ f => f) (fun b ob f e => (hs.2 b (by rintro rfl; exact nf f)).trans e) (fun ob e => (hs.2 a q).trans e) o n3⟩
  frz a f := by
    obtain ⟨o, e, k⟩ := R.frz a f
    exact ⟨o, (hs.2 a (by rintro rfl; exact nf f)).trans e, k⟩
  base b o e := (hs.2 b (by rintro rfl; rw [nb] at e; cases e)).trans (R.base b o e)

theorem Rel.dictNotFrz {c : Cfg} {σ : St} {h : Heap} {L : Addr} {m : Str → Option Value} (R : Rel X c σ h) (hn : h.Ns L m) : ¬ c.frz L := fun f => by
  obtain ⟨o, e, k⟩ := R.frz L f
  obtain ⟨o', es, ep, e', d, _⟩ := hn
  rw [e] at e'; cases e'
  exact k.1 es ep d
theorem Rel.cellNotFrz {c : Cfg} {σ : St} {h : Heap} {L : Addr} {v : Option Value} (R : Rel X c σ h) (hn : h.IsCell L v) : ¬ c.frz L := fun f => by
  obtain ⟨o, e, k⟩ := R.frz L f
  obtain ⟨o', e', d⟩ := hn
  rw [e] at e'; cases e'
  exact k.2 v d
theorem cell_ne_ns {h : Heap} {a L : Addr} {v : Option Value} {m : Str → Option Value} (hc : h.IsCell a v) (hn : h.Ns L m) : a ≠ L := by
  rintro rfl
  obtain ⟨o, e, d⟩ := hc
  obtain ⟨o', es, ep, e', d', _⟩ := hn
  rw [e] at e'; cases e'
  rw [d] at d'; cases d'

theorem but_evo {a : Act} {c : Cfg} {σ : St} {s : Shared} {h' : Heap} {L : Addr} (own : ownOf a.env L) (hs : Heap.SameBut L s.heap h') (hL : ∃ o, h'.get? L = some o ∧ ∀ vs, o.data ≠ .fields vs) (t : Nat) : EvoO (ownOf a.env) a.fr c σ s c σ { s with heap := h', toks := t } where
  same b o e _ no _ := (hs.2 b (by rintro rfl; exact no own)).trans e
  frs b o e _ no _ := ⟨o.slots, (hs.2 b (by rintro rfl; exact no own)).trans e⟩
  exist b o e := by
    by_cases q : b = L
    · subst q; exact ⟨_, hL.choose_spec.1⟩
    · exact ⟨o, (hs.2 b q).trans e⟩
  lives _ l := .inl l
  mu _ _ e := e
  frz _ f := f
  newf _ f := .inl f
  gens := rfl
  os := rfl

theorem set_get {α : Type} {l : List α} {i j : Nat} {x y : α} (h : (l.set i x)[j]? = some y) : (i = j ∧ y = x) ∨ (i ≠ j ∧ l[j]? = some y) := by
  rw [List.getElem?_set] at h
  split at h
  · rename_i q
    split at h
    · exact .inl ⟨q, by cases h; rfl⟩
    · cases h
  · rename_i q; exact .inr ⟨q, h⟩

theorem store_local {a : Act} {c : Cfg} {σ : St} {ρ : Env} {s : Shared} {x : Str} {i : Nat} {v' : Value} {v : V} (I : Inv X a c σ ρ s) (hi : a.names[i]? = some x) (hk : a.env.kindOf x = some .local) (r : VRep X c s.heap v' v) {Ex : Value → Shared → Prop} :
    wpAny (model X.prog X.w) a.A (storeName a.env x v') (fun _ s' => Inv X a c σ (ρ.set i (some v)) s' ∧ EvoO (ownOf a.env) a.fr c σ s c σ s') Ex s := by
  obtain ⟨m, hm, h⟩ := I.env.ns
  refine wpAny_storeName_local hk hm (fun h' hn hs => ?_) (by rw [I.env.kind]; rfl)
  have hL : ∃ o, h'.get? a.env.locals = some o ∧ ∀ vs, o.data ≠ .fields vs := let ⟨o, _, _, e, d, _⟩ := hn; ⟨o, e, fun vs q => by rw [d] at q; cases q⟩
  have nf := I.r.rel.dictNotFrz hm
  have R' := I.r.rel.but I.env.apartL.1 nf I.env.apartL.2 hs hL
  have mono : ∀ {w' : Value} {w : V}, VRep X c s.heap w' w → VRep X c h' w' w := fun {w' w} q => VRep.mono (fun _ _ e => e) (fun _ f => f) (fun b ob f e => (hs.2 b (by rintro rfl; exact nf f)).trans e) w q
  refine ⟨⟨⟨R', fun f hf => ?_, I.r.frl⟩, ?_⟩, but_evo (.inl rfl) hs hL _⟩
  · by_cases q : f = a.env.locals
    · subst q
      obtain ⟨o, es, ep, e, d, _⟩ := hn
      exact ⟨o, es, ep, e, d⟩
    · obtain ⟨o, es, ep, e, d⟩ := I.r.fro f hf
      exact ⟨o, es, ep, (hs.2 f q).trans e, d⟩
  · exact {
      kind := I.env.kind, glob := I.env.glob, blt := I.env.blt, nodup := I.env.nodup
      len := by rw [List.length_set]; exact I.env.len
      ns := ⟨_, hn, fun j y w h1 h2 h3 => by
        rcases set_get h2 with ⟨rfl, q⟩ | ⟨ne, q⟩
        · cases q
          rw [hi] at h1; cases h1
          exact ⟨v', by simp, mono r⟩
        · obtain ⟨w', e, z⟩ := h j y w h1 q h3
          refine ⟨w', ?_, mono z⟩
          have : y ≠ x := by
            rintro rfl
            exact ne ((List.getElem?_inj (List.getElem?_eq_some_iff.mp hi).1 I.env.nodup).mp (hi.trans h1.symm))
          simp [this, e]⟩
      cells := fun y b e => by
        obtain ⟨w, hw⟩ := I.env.cells y b e
        exact ⟨w, hw.sameBut hs (cell_ne_ns hw hm)⟩
      cell := fun j y w h1 h2 h3 => by
        rcases set_get h2 with ⟨rfl, q⟩ | ⟨ne, q⟩
        · rw [hi] at h1; cases h1
          rw [hk] at h3; rcases h3 with h3 | h3 <;> cases h3
        · obtain ⟨b, w', e, z, u⟩ := I.env.cell j y w h1 q h3
          exact ⟨b, w', e, z.sameBut hs (cell_ne_ns z hm), mono u⟩
      apartL := I.env.apartL, apartC := I.env.apartC, inj := I.env.inj, has := I.env.has }

theorem store_cell {a : Act} {c : Cfg} {σ : St} {ρ : Env} {s : Shared} {x : Str} {i : Nat} {v' : Value} {v : V} (I : Inv X a c σ ρ s) (hi : a.names[i]? = some x) (hk : a.env.kindOf x = some .cell) (r : VRep X c s.heap v' v) {Ex : Value → Shared → Prop} :
    wpAny (model X.prog X.w) a.A (storeName a.env x v') (fun _ s' => Inv X a c σ (ρ.set i (some v)) s' ∧ EvoO (ownOf a.env) a.fr c σ s c σ s') Ex s := by
  obtain ⟨b, hb⟩ := I.env.has x hk
  obtain ⟨v0, hv0⟩ := I.env.cells x b hb
  obtain ⟨m, hm, h⟩ := I.env.ns
  refine wpAny_storeName_cell I.env.kind hk hb hv0 (fun h' hn hs => ?_)
  have hL : ∃ o, h'.get? b = some o ∧ ∀ vs, o.data ≠ .fields vs := let ⟨o, e, d⟩ := hn; ⟨o, e, fun vs q => by rw [d] at q; cases q⟩
  have nf := I.r.rel.cellNotFrz hv0
  have ap := I.env.apartC x b hb
  have R' := I.r.rel.but ap.1 nf ap.2 hs hL
  have mono : ∀ {w' : Value} {w : V}, VRep X c s.heap w' w → VRep X c h' w' w := fun {w' w} q => VRep.mono (fun _ _ e => e) (fun _ f => f) (fun b ob f e => (hs.2 b (by rintro rfl; exact nf f)).trans e) w q
  have hne : a.env.locals ≠ b := Ne.symm (cell_ne_ns hv0 hm)
  refine ⟨⟨⟨R', fun f hf => ?_, I.r.frl⟩, ?_⟩, but_evo (t := s.toks) (.inr ⟨x, hb⟩) hs hL⟩
  · obtain ⟨o, es, ep, e, d⟩ := I.r.fro f hf
    refine ⟨o, es, ep, (hs.2 f ?_).trans e, d⟩
    rintro rfl
    obtain ⟨o', e', d'⟩ := hv0
    rw [e] at e'; cases e'; rw [d] at d'; cases d'
  · exact {
      kind := I.env.kind, glob := I.env.glob, blt := I.env.blt, nodup := I.env.nodup
      len := by rw [List.length_set]; exact I.env.len
      ns := ⟨m, hm.sameBut hs hne, fun j y w h1 h2 h3 => by
        rcases set_get h2 with ⟨rfl, q⟩ | ⟨ne, q⟩
        · rw [hi] at h1; cases h1
          rw [hk] at h3; cases h3
        · obtain ⟨w', e, z⟩ := h j y w h1 q h3
          exact ⟨w', e, mono z⟩⟩
      cells := fun y b' e => by
        by_cases q : b' = b
        · subst q; exact ⟨_, hn⟩
        · obtain ⟨w, hw⟩ := I.env.cells y b' e
          exact ⟨w, hw.sameBut hs q⟩
      cell := fun j y w h1 h2 h3 => by
        rcases set_get h2 with ⟨rfl, q⟩ | ⟨ne, q⟩
        · cases q
          rw [hi] at h1; cases h1
          exact ⟨b, v', hb, hn, mono r⟩
        · obtain ⟨b', w', e, z, u⟩ := I.env.cell j y w h1 q h3
          refine ⟨b', w', e, z.sameBut hs ?_, mono u⟩
          rintro rfl
          have := I.env.inj x y b' hb e
          subst this
          exact ne ((List.getElem?_inj (List.getElem?_eq_some_iff.mp hi).1 I.env.nodup).mp (hi.trans h1.symm))
      apartL := I.env.apartL, apartC := I.env.apartC, inj := I.env.inj, has := I.env.has }
end
end Mine
end

section
namespace Mine
open PySem

/-- what the traceback's keeping changes: the exception, its entry, the frames' slots -/
structure Quiet (ex fr : List Addr) (h h' : Heap) : Prop where
  keep : ∀ a o, h.get? a = some o → a ∉ ex → a ∉ fr → h'.get? a = some o
  frs : ∀ a o, h.get? a = some o → a ∉ ex → a ∈ fr → ∃ sl, h'.get? a = some { o with slots := sl }

theorem Quiet.trans {ex fr : List Addr} {h h' h'' : Heap} (x : Quiet ex fr h h') (y : Quiet ex fr h' h'') : Quiet ex fr h h'' :=
  ⟨fun a o e n f => y.keep a o (x.keep a o e n f) n f, fun a o e n f => let ⟨_, e'⟩ := x.frs a o e n f; let ⟨sl, e''⟩ := y.frs a _ e' n f; ⟨sl, e''⟩⟩
theorem Quiet.push (ex fr : List Addr) (h : Heap) (o : Obj) : Quiet ex fr h (h.push o) :=
  ⟨fun _ _ e _ _ => Heap.get?_push_of_some o e, fun _ ob e _ _ => ⟨ob.slots, Heap.get?_push_of_some o e⟩⟩
theorem Quiet.exist {ex fr : List Addr} {h h' : Heap} (x : Quiet ex fr h h') {a : Addr} {o : Obj} (e : h.get? a = some o) (n : a ∉ ex) : ∃ o', h'.get? a = some o' ∧ o'.data = o.data := by
  by_cases f : a ∈ fr
  · obtain ⟨sl, e'⟩ := x.frs a o e n f; exact ⟨_, e', rfl⟩
  · exact ⟨o, x.keep a o e n f, rfl⟩
theorem Quiet.extBut {fr : List Addr} {h h' : Heap} {it : Addr} (x : Heap.ExtBut it h h') : Quiet [it] fr h h' :=
  ⟨fun a o e n _ => x a o (fun q => n (by simp [q])) e, fun a o e n _ => ⟨o.slots, x a o (fun q => n (by simp [q])) e⟩⟩

noncomputable def IsRec (h : Heap) (a : Addr) : Prop := ∃ o vs, h.get? a = some o ∧ o.data = .fields vs

section
variable {X : Ctx} {D : Dom}

theorem Rel.recNotLive {c : Cfg} {σ : St} {h : Heap} (R : Rel X c σ h) {a : Addr} (hr : IsRec h a) : ¬ live c σ a := by
  rintro ⟨l, o, m, e, d⟩
  obtain ⟨ob, vs, e', d'⟩ := hr
  have r := (R.obj l o a e d m).2.2
  cases o with
  | dead => cases d
  | list vs => obtain ⟨_, _, q, _⟩ := r; rw [e'] at q; cases q; cases d'
  | dictS es => obtain ⟨_, _, ⟨_, _, _, q, _, q2, _⟩, _⟩ := r; rw [e'] at q; cases q; rw [d'] at q2; cases q2
  | inst d => obtain ⟨_, _, q⟩ := r; rw [e'] at q; cases q; cases d'
  | attrs _ _ => obtain ⟨_, ⟨_, _, _, q, q2, _⟩, _⟩ := r; rw [e'] at q; cases q; rw [d'] at q2; cases q2

theorem RInv.quiet {fr ex : List Addr} {c : Cfg} {σ : St} {s : Shared} {h' : Heap} {t : Nat} (I : RInv X fr c σ s) (q : Quiet ex fr s.heap h') (hrec : ∀ a ∈ ex, IsRec s.heap a) (hnf : ∀ a ∈ ex, ¬ c.frz a) (hnb : ∀ a ∈ ex, X.base.get? a = none) : RInv X fr c σ { s with heap := h', toks := t } := by
  have hfrx : ∀ a ∈ fr, a ∉ ex := fun a ha hx => by
    obtain ⟨o, es, ep, e, d⟩ := I.fro a ha
    obtain ⟨o', vs, e', d'⟩ := hrec a hx
    rw [e] at e'; cases e'; rw [d] at d'; cases d'
  refine ⟨⟨I.rel.len, I.rel.nd, fun a ha => ?_, fun l o a e d m => ?_, fun a f => ?_, fun b o e => ?_⟩, fun f hf => ?_, I.frl⟩
  · obtain ⟨o, e, k⟩ := I.rel.there a ha
    obtain ⟨o', e', d⟩ := q.exist e (fun hx => by obtain ⟨o', vs, e', d'⟩ := hrec a hx; rw [e] at e'; cases e'; exact k vs d')
    exact ⟨o', e', fun vs => d ▸ k vs⟩
  · obtain ⟨n1, n2, n3⟩ := I.rel.obj l o a e d m
    have la : live c σ a := ⟨l, o, m, e, d⟩
    exact ⟨n1, n2, ObjRep.mono (fun _ _ e => e) (fun _ f => f) (fun b ob f e => q.keep b ob e (fun hx => hnf b hx f) (I.rel.frzNotFr I.fro f)) (fun ob e => q.keep a ob e (fun hx => I.rel.recNotLive (hrec a hx) la) (fun hf => (I.frl a hf).1 la)) o n3⟩
  · obtain ⟨o, e, k⟩ := I.rel.frz a f
    exact ⟨o, q.keep a o e (fun hx => hnf a hx f) (I.rel.frzNotFr I.fro f), k⟩
  · exact q.keep b o (I.rel.base b o e) (fun hx => by rw [hnb b hx] at e; cases e) (fun hf => by rw [(I.frl b hf).2] at e; cases e)
  · obtain ⟨o, es, ep, e, d⟩ := I.fro f hf
    obtain ⟨sl, e'⟩ := q.frs f o e (hfrx f hf) hf
    exact ⟨_, es, ep, e', d⟩

theorem VRep.quiet {fr ex : List Addr} {c : Cfg} {σ : St} {s : Shared} {h' : Heap} (I : RInv X fr c σ s) (q : Quiet ex fr s.heap h') (hnf : ∀ a ∈ ex, ¬ c.frz a) {v : Value} {d : V} (r : VRep X c s.heap v d) : VRep X c h' v d :=
  VRep.mono (fun _ _ e => e) (fun _ f => f) (fun b ob f e => q.keep b ob e (fun hx => hnf b hx f) (I.rel.frzNotFr I.fro f)) d r

theorem Inv.quiet {a : Act} {ex : List Addr} {c : Cfg} {σ : St} {ρ : Env} {s : Shared} {h' : Heap} {t : Nat} (I : Inv X a c σ ρ s) (q : Quiet ex a.fr s.heap h') (hrec : ∀ b ∈ ex, IsRec s.heap b) (hnf : ∀ b ∈ ex, ¬ c.frz b) (hnb : ∀ b ∈ ex, X.base.get? b = none) : Inv X a c σ ρ { s with heap := h', toks := t } := by
  refine ⟨I.r.quiet q hrec hnf hnb, ?_⟩
  have hd : ∀ {L : Addr} {m : Str → Option Value}, s.heap.Ns L m → h'.Ns L m := fun {L m} hn => by
    obtain ⟨o, es, ep, e, d, r⟩ := hn
    have nx : L ∉ ex := fun hx => by
      obtain ⟨o', vs, e', d'⟩ := hrec L hx
      rw [e] at e'; cases e'; rw [d] at d'; cases d'
    by_cases hf : L ∈ a.fr
    · obtain ⟨sl, e'⟩ := q.frs L o e nx hf
      exact ⟨_, es, ep, e', d, r⟩
    · exact ⟨o, es, ep, q.keep L o e nx hf, d, r⟩
  have hc : ∀ {L : Addr} {v : Option Value}, s.heap.IsCell L v → h'.IsCell L v := fun {L v} hn => by
    obtain ⟨o, e, d⟩ := hn
    have nx : L ∉ ex := fun hx => by
      obtain ⟨o', vs, e', d'⟩ := hrec L hx
      rw [e] at e'; cases e'; rw [d] at d'; cases d'
    by_cases hf : L ∈ a.fr
    · obtain ⟨sl, e'⟩ := q.frs L o e nx hf
      exact ⟨_, e', d⟩
    · exact ⟨o, q.keep L o e nx hf, d⟩
  exact {
    kind := I.env.kind, glob := I.env.glob, blt := I.env.blt, nodup := I.env.nodup, len := I.env.len
    ns := by
      obtain ⟨m, hm, h⟩ := I.env.ns
      exact ⟨m, hd hm, fun i y v h1 h2 h3 => let ⟨v', p, r⟩ := h i y v h1 h2 h3; ⟨v', p, r.quiet I.r q hnf⟩⟩
    cells := fun y b h => let ⟨v, hv⟩ := I.env.cells y b h; ⟨v, hc hv⟩
    cell := fun i y v h1 h2 h3 => let ⟨b, v', p, z, r⟩ := I.env.cell i y v h1 h2 h3; ⟨b, v', p, hc z, r.quiet I.r q hnf⟩
    apartL := I.env.apartL, apartC := I.env.apartC, inj := I.env.inj, has := I.env.has }

theorem EvoO.quiet {own : Addr → Prop} {fr ex : List Addr} {c c' : Cfg} {σ σ' : St} {s s' : Shared} {h' : Heap} {t : Nat} (x : EvoO own fr c σ s c' σ' s') (q : Quiet ex fr s'.heap h') (hn : ∀ a ∈ ex, s.heap.get? a = none) : EvoO own fr c σ s c' σ' { s' with heap := h', toks := t } where
  same a o e nl no nf := q.keep a o (x.same a o e nl no nf) (fun hx => by rw [hn a hx] at e; cases e) nf
  frs a o e nl no hf := by
    obtain ⟨sl, e'⟩ := x.frs a o e nl no hf
    obtain ⟨sl', e''⟩ := q.frs a _ e' (fun hx => by rw [hn a hx] at e; cases e) hf
    exact ⟨sl', e''⟩
  exist a o e := let ⟨o', e'⟩ := x.exist a o e; let ⟨o'', e'', _⟩ := q.exist e' (fun hx => by rw [hn a hx] at e; cases e); ⟨o'', e''⟩
  lives := x.lives
  mu := x.mu
  frz := x.frz
  newf := x.newf
  gens := x.gens
  os := x.os
noncomputable def ExcH (X : Ctx) (c : Cfg) (fl : Value) (h₀ h : Heap) (k : Nat) (e : Addr) : Prop := False
theorem ExcH.at_none {c : Cfg} {L : Option Addr} {h₀ h : Heap} {k : Nat} {e : Addr} (x : ExcH X c .none h₀ h k e) : ExcAt X c L h₀ h k e := x.elim
end
end Mine
end

section
namespace Mine
open PySem

section
variable {X : Ctx} {D : Dom}

/-- an exception that leaves a loop's own activation and comes back to the frame -/
theorem SExc.loop {a : Act} {c : Cfg} {σ : St} {s s₁ : Shared} {o : SOut} {e' : Value} (ok : ActOk D a) (R : Rel X c σ s.heap) (p : SExc X a c σ s o e' s₁) {Ex : Value → Shared → Prop} (hE : ∀ e'' s'', SExc X a c σ s o e'' s'' → Ex e'' s'') :
    notedBy (model X.prog X.w) a.A a.env (fun e s' => cameBackBy (model X.prog X.w) a.A a.env Ex e s') e' s₁ := by
  obtain ⟨k, ρ', σ', c', e, h1, h2, i, x, z⟩ := p
  exact z.elim

end
end Mine
end

section
namespace Mine
open PySem PyProof.Rows

/-- what the top has laid -/
structure XOk (X : Ctx) : Prop where
  g : X.base.Ns mainGlobals X.mg
  b : X.base.Ns builtinsNs X.mb
  nolimit : X.base.NoLimit
  bi : ∀ x : Str, x ≠ "__name__" → X.mb x = bootBuiltins x

section
variable {X : Ctx} {D : Dom}

/-- a name of the top -/
theorem name_glob {a : Act} {c : Cfg} {σ : St} {ρ : Env} {s : Shared} {x : Str} {pos : Pos} {v : Value} (xo : XOk X) (ok : ActOk D a) (I : Inv X a c σ ρ s) (hk : D.sc.names.lookup x = some .globalImplicit) (hd : (x == ("__debug__" : Str)) = false) (hv : X.mg x = some v)
    {Q Ex : Value → Shared → Prop} (h : Q v s) : wpAny (model X.prog X.w) a.A (eval (.Name x pos) a.env) Q Ex s :=
  Calls.Name_function_global I.env.kind (by unfold Env.kindOf; rw [ok.sc]; exact hk) (Calls.loadGlobal_global (by rw [I.env.glob]; exact xo.g.keeps I.r.rel.base) hv h) hd
theorem name_bi {a : Act} {c : Cfg} {σ : St} {ρ : Env} {s : Shared} {x : Str} {pos : Pos} {v : Value} (xo : XOk X) (ok : ActOk D a) (I : Inv X a c σ ρ s) (hk : D.sc.names.lookup x = some .globalImplicit) (hd : (x == ("__debug__" : Str)) = false) (hm : X.mg x = none) (hv : bootBuiltins x = some v) (hn : x ≠ "__name__")
    {Q Ex : Value → Shared → Prop} (h : Q v s) : wpAny (model X.prog X.w) a.A (eval (.Name x pos) a.env) Q Ex s :=
  Calls.Name_function_global I.env.kind (by unfold Env.kindOf; rw [ok.sc]; exact hk) (Calls.loadGlobal_builtin (by rw [I.env.glob]; exact xo.g.keeps I.r.rel.base) hm (by rw [I.env.blt]; exact xo.b.keeps I.r.rel.base) ((xo.bi x hn).trans hv) h) hd

theorem sE_glob {x : Str} {pos : Pos} {v : Value} {d : V} (xo : XOk X) (hk : D.sc.names.lookup x = some .globalImplicit) (hd : (x == ("__debug__" : Str)) = false) (hv : X.mg x = some v) (hr : ∀ c h, VRep X c h v d) : SoundE X D (.Name x pos) (cst d) :=
  fun a c σ ρ s ok I nb => name_glob xo ok I hk hd hv (.here I (hr _ _))

/-! arguments -/
noncomputable def OkPostL (X : Ctx) (a : Act) (c : Cfg) (σ : St) (ρ : Env) (s : Shared) (o : Out (List V)) (vs' : List Value) (s' : Shared) : Prop :=
  ∃ vs σ' c', o = .ok vs σ' ∧ Inv X a c' σ' ρ s' ∧ Evo a.fr c σ s c' σ' s' ∧ VReps X c' s'.heap vs' vs
noncomputable def SoundA (X : Ctx) (D : Dom) (es : List Expr) (ces : List E) : Prop :=
  ∀ (a : Act) (c : Cfg) (σ : St) (ρ : Env) (s : Shared) (pos : Pos), ActOk D a → Inv X a c σ ρ s → evs ces ρ σ ≠ .bad →
    wpAny (model X.prog X.w) a.A (spliced (backTo pos (starEach es a.env))) (OkPostL X a c σ ρ s (evs ces ρ σ)) (ExPost X a c σ ρ s (evs ces ρ σ)) s
theorem sA_nil : SoundA X D [] [] := fun a c σ ρ s pos ok I nb => args_nil ⟨[], σ, c, rfl, I, EvoO.self, by simp [VReps]⟩
theorem sA_cons {e : Expr} {es : List Expr} {ce : E} {ces : List E} (hs : ∀ env, starEach (e :: es) env = (false, eval e env) :: starEach es env) (h : SoundE X D e ce) (hr : SoundA X D es ces) : SoundA X D (e :: es) (ce :: ces) := by
  intro a c σ ρ s pos ok I nb
  unfold evs at nb ⊢
  refine args_cons (h.then ok I nb (fun _ _ p => p) fun v' v σ₁ c₁ s₁ e1 eb nb1 I1 x1 r1 => ?_) (hs _)
  rw [eb]
  refine wpAny_mono (hr a c₁ σ₁ ρ s₁ pos ok I1 (bind_ok_ne nb1)) (fun vs' s₂ p => ?_) fun e' s' p => (p.bind).trans x1
  obtain ⟨vs, σ₂, c₂, eq, i, x, r⟩ := p
  rw [eq]
  exact ⟨v :: vs, σ₂, c₂, rfl, i, x1.trans x, by simp only [VReps]; exact ⟨v', vs', rfl, r1.evo x I1.r.rel I1.r.fro (fun _ _ => id), r⟩⟩

theorem SoundA.then {es : List Expr} {ces : List E} (hs : SoundA X D es ces) {β : Type} {f : List V → St → Out β} {a : Act} {c : Cfg} {σ : St} {ρ : Env} {s : Shared} {pos : Pos} (ok : ActOk D a) (I : Inv X a c σ ρ s) (nb : (evs ces ρ σ).bind f ≠ .bad)
    {Q : List Value → Shared → Prop} {Ex : Value → Shared → Prop} (hx : ∀ e' s', ExPost X a c σ ρ s ((evs ces ρ σ).bind f) e' s' → Ex e' s')
    (h : ∀ vs' vs σ₁ c₁ s₁, evs ces ρ σ = .ok vs σ₁ → (evs ces ρ σ).bind f = f vs σ₁ → f vs σ₁ ≠ .bad → Inv X a c₁ σ₁ ρ s₁ → Evo a.fr c σ s c₁ σ₁ s₁ → VReps X c₁ s₁.heap vs' vs → Q vs' s₁) :
    wpAny (model X.prog X.w) a.A (spliced (backTo pos (starEach es a.env))) Q Ex s := by
  refine wpAny_mono (hs a c σ ρ s pos ok I (bind_ok_ne nb)) (fun v' s₁ p => ?_) fun e' s' p => hx e' s' p.bind
  obtain ⟨v, σ₁, c₁, eq, i, x, r⟩ := p
  have hb : (evs ces ρ σ).bind f = f v σ₁ := by rw [eq]; rfl
  exact h v' v σ₁ c₁ s₁ eq hb (by rw [← hb]; exact nb) i x r

theorem evs_length {ces : List E} : ∀ {ρ : Env} {σ σ' : St} {vs : List V}, evs ces ρ σ = .ok vs σ' → vs.length = ces.length := by
  induction ces with
  | nil => intro ρ σ σ' vs h; unfold evs at h; cases h; rfl
  | cons e es ih =>
    intro ρ σ σ' vs h
    unfold evs at h
    cases he : e ρ σ with
    | bad => rw [he] at h; cases h
    | exc k s => rw [he] at h; cases h
    | ok v s =>
      rw [he] at h
      simp only [Out.ok_bind] at h
      cases hr : evs es ρ s with
      | bad => rw [hr] at h; cases h
      | exc k s => rw [hr] at h; cases h
      | ok vs' s' => rw [hr] at h; simp only [Out.ok_bind] at h; cases h; simp [ih hr]

theorem sE_tup {es : List Expr} {ces : List E} {k : Nat} {pos : Pos} (hlen : ces.length ≤ 1000) (h : SoundA X D es ces) : SoundE X D (.Tuple es k pos) (tupE ces) := by
  intro a c σ ρ s ok I nb
  unfold tupE at nb ⊢
  refine Tuple_ (h.then ok I nb (fun _ _ p => p) fun vs' vs σ₁ c₁ s₁ e1 eb nb1 I1 x1 r1 => ?_)
  rw [eb]
  refine wpAny_newObj_type ?_ ?_
  · exact ((POk.tup I1.r r1 (by rw [evs_length e1]; exact Nat.le_trans hlen (by decide)) s₁.toks).act I1).trans x1
  · show vs'.toArray.size ≤ sizeLine
    have := r1.length; have := evs_length e1
    rw [List.size_toArray, sizeLine_eq]; omega
theorem sE_lst {es : List Expr} {ces : List E} {pos : Pos} (hlen : ces.length ≤ 1000) (h : SoundA X D es ces) : SoundE X D (.List es pos) (lstE ces) := by
  intro a c σ ρ s ok I nb
  unfold lstE at nb ⊢
  refine List_ (h.then ok I nb (fun _ _ p => p) fun vs' vs σ₁ c₁ s₁ e1 eb nb1 I1 x1 r1 => ?_)
  rw [eb]
  refine wpAny_newObj_type ?_ ?_
  · exact ((POk.lst (vs' := vs'.toArray) I1.r (by simpa using r1) (by rw [evs_length e1]; exact Nat.le_trans hlen (by decide)) s₁.toks).act I1).trans x1
  · show vs'.toArray.size ≤ sizeLine
    have := r1.length; have := evs_length e1
    rw [List.size_toArray, sizeLine_eq]; omega
theorem sE_newL {es : List Expr} {ces : List E} {pos : Pos} (hlen : ces.length ≤ 1000) (h : SoundA X D es ces) : SoundE X D (.List es pos) (newL ces) := by
  intro a c σ ρ s ok I nb
  unfold newL at nb ⊢
  refine List_ (h.then ok I nb (fun _ _ p => p) fun vs' vs σ₁ c₁ s₁ e1 eb nb1 I1 x1 r1 => ?_)
  rw [eb]
  refine wpAny_newObj_type ?_ ?_
  · exact ((POk.newList (vs' := vs'.toArray) I1.r (by simpa using r1) (by rw [evs_length e1]; exact Nat.le_trans hlen (by decide)) s₁.toks).act I1).trans x1
  · show vs'.toArray.size ≤ sizeLine
    have := r1.length; have := evs_length e1
    rw [List.size_toArray, sizeLine_eq]; omega

/-! defs -/
structure FrameOk (A : Around) (envs : List PySem.Env) : Prop where
  frames : A.frames = some envs
  kinds : ∀ e ∈ envs, e.scope.kind ≠ .module ∧ ∃ L, e.frame = some L
noncomputable def frOf (envs : List PySem.Env) : List Addr := envs.filterMap (·.frame)

noncomputable def FPost (X : Ctx) (fr : List Addr) (c : Cfg) (σ : St) (s : Shared) (o : Out V) (r : Result) (s' : Shared) : Prop :=
  match r with
  | .ok (.ret v') => ∃ v σ' c', o = .ok v σ' ∧ RInv X fr c' σ' s' ∧ Evo fr c σ s c' σ' s' ∧ VRep X c' s'.heap v' v
  | .ok _ => False
  | .error e' => ∃ k σ' c' e, o = .exc k σ' ∧ e' = .ref e ∧ RInv X fr c' σ' s' ∧ Evo fr c σ s c' σ' s' ∧ ExcH X c' .none s.heap s'.heap k e

noncomputable def SoundF (X : Ctx) (n : Nat) (rs : Bool) (fa : Addr) (f : F) : Prop :=
  ∀ (A : Around) (envs : List PySem.Env) (c : Cfg) (σ : St) (s : Shared) (vs' : List Value) (vs : List V), ARoom A n → FrameOk A envs → (rs = true → A.handled = none) → RInv X (frOf envs) c σ s → VReps X c s.heap vs' vs → f vs σ ≠ .bad →
    codeAny (model X.prog X.w) A (.call (.ref fa) ⟨vs', []⟩) (FPost X (frOf envs) c σ s (f vs σ)) s

/-- the function object stands -/
structure FnAt (X : Ctx) (fa : Addr) : Prop where
  here : ∃ o fd, X.base.get? fa = some o ∧ o.data = .func fd

theorem ARoom.mono {A : Around} {n m : Nat} (h : ARoom A n) (hm : m ≤ n) : ARoom A m := ⟨h.guards, by have := h.depth; omega, by have := h.units; omega⟩

theorem evalArgs_spliced {M : Model} {A : Around} {E : Value → Shared → Prop} {s : Shared} {f : Value} {args : List (Bool × Sem Value)} {Q : Args → Shared → Prop} (hp : args.any (·.1) = false) (h : wpAny M A (spliced args) (fun vs s₁ => Q ⟨vs, []⟩ s₁) E s) : wpAny M A (evalArgs f true args []) Q E s := by
  cases args with
  | nil =>
    have e : evalArgs f true [] [] = (spliced [] >>= fun vs => pure ⟨vs, []⟩) := rfl
    rw [e]
    exact wpAny_bind (wpAny_mono h (fun _ _ q => wpAny_pure q) fun _ _ x => x)
  | cons y rest =>
    obtain ⟨b, x⟩ := y
    cases b with
    | true => simp at hp
    | false => exact Calls.evalArgs_plain h

/-- f(..), f a def of the top -/
theorem sE_call {x : Str} {np pos : Pos} {es : List Expr} {ces : List E} {fa : Addr} {f : F} {n : Nat} (xo : XOk X) (hk : D.sc.names.lookup x = some .globalImplicit) (hd : (x == ("__debug__" : Str)) = false) (hv : X.mg x = some (.ref fa)) (hf : FnAt X fa)
    (hF : SoundF X n D.rs fa f) (hn : n ≤ D.n) (h : SoundA X D es ces) (hs : ∀ env, (backTo pos (starEach es env)).any (·.1) = false) (hcall : ∀ env, eval (.Call (.Name x np) es [] pos) env = (do callWith pos (← eval (.Name x np) env) [] (backTo pos (starEach es env)) (backToKw pos (keywordEach [] env)))) : SoundE X D (.Call (.Name x np) es [] pos) (app f ces) := by
  intro a c σ ρ s ok I nb
  unfold app at nb ⊢
  refine Call_ (name_glob xo ok I hk hd hv ?_) (hcall _)
  obtain ⟨o, fd, ho, hdat⟩ := hf.here
  have main : wpAny (model X.prog X.w) a.A (spliced (backTo pos (starEach es a.env))) (fun vs' s₁ => (s₁.heap.get? fa = some o ∧ o.data = .func fd) ∧ wpAny (model X.prog X.w) a.A (call (.ref fa) vs') (OkPost X a c σ ρ s ((evs ces ρ σ).bind f)) (ExPost X a c σ ρ s ((evs ces ρ σ).bind f)) s₁) (ExPost X a c σ ρ s ((evs ces ρ σ).bind f)) s := by
    refine h.then ok I nb (fun _ _ p => p) fun vs' vs σ₁ c₁ s₁ e1 eb nb1 I1 x1 r1 => ?_
    rw [eb]
    refine ⟨⟨I1.r.rel.base _ _ ho, hdat⟩, ?_⟩
    refine wpAny_call (codeAny_mono (hF a.A a.envs c₁ σ₁ s₁ vs' vs (ok.room.mono hn) ⟨ok.frames, ok.kinds⟩ ok.hd I1.r r1 nb1) fun r s₂ p => ?_)
    cases r with
    | error e' =>
      obtain ⟨k, σ', c', e, h1, h2, i, x, z⟩ := p
      exact ExPost.trans x1 ⟨k, σ', c', e, h1, h2, I1.evo x i, x, z.at_none⟩
    | ok fl =>
      cases fl with
      | ret v' =>
        obtain ⟨v, σ', c', h1, i, x, r⟩ := p
        exact OkPost.trans x1 ⟨v, σ', c', h1, I1.evo x i, x, r⟩
      | next => exact p.elim
      | brk => exact p.elim
      | cont => exact p.elim
  show wpAny _ _ (callWith pos (.ref fa) [] (backTo pos (starEach es a.env)) []) _ _ s
  exact Calls.callWith_function (o := o) (fd := fd) (evalArgs_spliced (hs _) main)
end
end Mine
end

section
namespace Mine
open PySem PyProof.Rows

theorem bindL_not {kindOf : Str → Option NameKind} : ∀ (binds : List (Str × Value)) (m : Str → Option Value) (x : Str), x ∉ binds.map (·.1) → bindL kindOf binds m x = m x
  | [], m, x, _ => rfl
  | (n, v) :: r, m, x, h => by
    unfold bindL
    rw [bindL_not r _ x (fun q => h (by simp at q ⊢; exact .inr q))]
    split
    · have : x ≠ n := fun q => h (by simp [q])
      simp [this]
    · rfl
theorem bindC_not {kindOf : Str → Option NameKind} : ∀ (binds : List (Str × Value)) (m : Str → Option Value) (x : Str), x ∉ binds.map (·.1) → bindC kindOf binds m x = m x
  | [], m, x, _ => rfl
  | (n, v) :: r, m, x, h => by
    unfold bindC
    rw [bindC_not r _ x (fun q => h (by simp at q ⊢; exact .inr q))]
    split
    · rfl
    · have : x ≠ n := fun q => h (by simp [q])
      simp [this]
theorem bindL_at {kindOf : Str → Option NameKind} : ∀ (binds : List (Str × Value)) (m : Str → Option Value) (i : Nat) (x : Str) (v : Value), (binds.map (·.1)).Nodup → binds[i]? = some (x, v) → kindOf x = some .local → bindL kindOf binds m x = some v
  | [], m, i, x, v, _, h, _ => by simp at h
  | (n, w) :: r, m, i, x, v, nd, h, hk => by
    simp only [List.map_cons, List.nodup_cons] at nd
    unfold bindL
    cases i with
    | zero =>
      simp at h
      obtain ⟨rfl, rfl⟩ := h
      rw [bindL_not r _ n nd.1, if_pos hk]; simp
    | succ i => exact bindL_at r _ i x v nd.2 (by simpa using h) hk
theorem bindC_at {kindOf : Str → Option NameKind} : ∀ (binds : List (Str × Value)) (m : Str → Option Value) (i : Nat) (x : Str) (v : Value), (binds.map (·.1)).Nodup → binds[i]? = some (x, v) → kindOf x = some .cell → bindC kindOf binds m x = some v
  | [], m, i, x, v, _, h, _ => by simp at h
  | (n, w) :: r, m, i, x, v, nd, h, hk => by
    simp only [List.map_cons, List.nodup_cons] at nd
    unfold bindC
    cases i with
    | zero =>
      simp at h
      obtain ⟨rfl, rfl⟩ := h
      rw [bindC_not r _ n nd.1, if_neg (by rw [hk]; decide)]; simp
    | succ i => exact bindC_at r _ i x v nd.2 (by simpa using h) hk

theorem cellsFrom_has {x : Str} : ∀ (names : List (Str × NameKind)) (n : Nat) (acc : List (Str × Addr)), names.lookup x = some .cell ∨ (acc.lookup x).isSome = true → ((cellsFrom n names acc).lookup x).isSome = true
  | [], _, _, h => h.elim (fun e => by cases e) id
  | (y, k) :: r, n, acc, h => by
    unfold cellsFrom
    by_cases hk : (k == .cell) = true
    · rw [if_pos hk]
      refine cellsFrom_has r (n + 1) ((y, n) :: acc) ?_
      by_cases hy : (x == y) = true
      · exact .inr (by rw [List.lookup_cons, hy]; rfl)
      · refine h.imp (fun e => ?_) fun e => ?_
        · rw [List.lookup_cons] at e; simpa only [hy] using e
        · rw [List.lookup_cons]; simpa only [hy] using e
    · rw [if_neg hk]
      refine cellsFrom_has r n acc ?_
      by_cases hy : (x == y) = true
      · refine .inr (h.elim (fun e => ?_) id)
        rw [List.lookup_cons, hy] at e
        exact absurd (by rw [Option.some.inj e]; rfl) hk
      · refine h.imp (fun e => ?_) id
        rw [List.lookup_cons] at e; simpa only [hy] using e

structure FnOk (X : Ctx) (fa : Addr) (sc : Scope) (names : List Str) (pars : Nat) (body : List Stmt) : Prop where
  here : ∃ o fd, X.base.get? fa = some o ∧ o.data = .func fd ∧ fd.body = .stmts body ∧ fd.scope = sc ∧ fd.closure = [] ∧ fd.globals = mainGlobals ∧ fd.builtins = builtinsNs ∧ X.base.CodeRec fd.code fd.qualname ∧
    ∀ vals : List Value, vals.length = pars → bindArgs fd ⟨vals, []⟩ = pure ((names.take pars).zip vals)
  kind : sc.kind = .function
  gen : sc.isGenerator = false
  co : sc.isCoroutine = false
  nd : names.Nodup
  le : pars ≤ names.length
  kinds : ∀ x ∈ names.take pars, sc.names.lookup x = some .local ∨ sc.names.lookup x = some .cell

section
variable {X : Ctx}

theorem FnOk.at {fa : Addr} {sc : Scope} {names : List Str} {pars : Nat} {body : List Stmt} (h : FnOk X fa sc names pars body) : FnAt X fa := let ⟨o, fd, h1, h2, _⟩ := h.here; ⟨⟨o, fd, h1, h2⟩⟩

theorem lookup_mem {α : Type} {l : List (Str × α)} {n : Str} {c : α} (h : l.lookup n = some c) : (n, c) ∈ l := PySem.mem_of_lookup h

/-- the frame of a call as it is laid -/
theorem enter_def {fa : Addr} {sc : Scope} {names : List Str} {pars : Nat} {body : List Stmt} {A : Around} {envs : List PySem.Env} {c : Cfg} {σ : St} {s s₁ : Shared} {fd : FuncData} {vs' : List Value} {vs : List V} {n : Nat} {rs : Bool}
    (h : FnOk X fa sc names pars body) (hsc : fd.scope = sc) (hg : fd.globals = mainGlobals) (hb : fd.builtins = builtinsNs) (hlen : vs.length = pars) (room : ARoom A (n + 1)) (fo : FrameOk A envs) (hd : rs = true → A.handled = none) (I : RInv X (frOf envs) c σ s) (r : VReps X c s.heap vs' vs)
    (K : InCallC s (callEnvC fd s.heap.objs.size fa).locals (bindL (callEnvC fd s.heap.objs.size fa).kindOf ((names.take pars).zip vs') fun _ => none) (callEnvC fd s.heap.objs.size fa).cells (bindC (callEnvC fd s.heap.objs.size fa).kindOf ((names.take pars).zip vs') fun _ => none) s₁) :
    let a : Act := ⟨A.deeper (callEnvC fd s.heap.objs.size fa), callEnvC fd s.heap.objs.size fa, names, callEnvC fd s.heap.objs.size fa :: envs⟩
    ActOk ⟨sc, names, n, rs⟩ a ∧ Inv X a c σ (vs.map some ++ List.replicate (names.length - pars) none) s₁ ∧ Evo (frOf envs) c σ s c σ s₁ ∧ (∀ b, ownOf a.env b → s.heap.get? b = none) ∧ a.fr = s.heap.objs.size :: frOf envs := by
  intro a
  have henv : a.env = callEnvC fd s.heap.objs.size fa := rfl
  have hloc : a.env.locals = s.heap.objs.size := rfl
  have hfrm : a.env.frame = some s.heap.objs.size := rfl
  have hescope : a.env.scope = sc := hsc
  have hcells : a.env.cells = cellsFrom (s.heap.objs.size + 1) sc.names [] := by rw [henv]; show cellsFrom _ fd.scope.names [] = _; rw [hsc]
  have hfr : a.fr = s.heap.objs.size :: frOf envs := by show List.filterMap _ (_ :: _) = _; rw [List.filterMap_cons]; rfl
  obtain ⟨⟨⟨h', tk, hs1⟩, hns, hkeep, hfresh⟩, hcell, hap, habove⟩ := K
  subst hs1
  have fresh : ∀ b, s.heap.objs.size ≤ b → s.heap.get? b = none := fun b hb => by
    cases q : s.heap.get? b with
    | none => rfl
    | some o => exact absurd (Heap.lt_size q) (Nat.not_lt.mpr hb)
  have ev : Evo (frOf envs) c σ s c σ { s with heap := h', toks := tk } :=
    ⟨fun b o e _ _ _ => hkeep b o e, fun b o e _ _ _ => ⟨o.slots, hkeep b o e⟩, fun b o e => ⟨o, hkeep b o e⟩, fun _ l => .inl l, fun _ _ e => e, fun _ f => f, fun _ f => .inl f, rfl, rfl⟩
  have own : ∀ b, ownOf a.env b → s.heap.get? b = none := by
    rintro b (rfl | ⟨x, hx⟩)
    · exact fresh _ (Nat.le_refl _)
    · have := habove x b (lookup_mem hx)
      exact fresh b (Nat.le_of_lt this)
  have hsz : s.heap.objs.size ≤ h'.objs.size := by
    obtain ⟨o, es, ep, e, _⟩ := hns
    exact Nat.le_of_lt (Heap.lt_size e)
  have R' : Rel X c σ h' := by
    refine ⟨I.rel.len, I.rel.nd, fun b hb => let ⟨o, e, k⟩ := I.rel.there b hb; ⟨o, hkeep b o e, k⟩, fun l o b e d m => ?_, fun b f => ?_, fun b o e => hkeep b o (I.rel.base b o e)⟩
    · obtain ⟨n1, n2, n3⟩ := I.rel.obj l o b e d m
      exact ⟨n1, n2, ObjRep.mono (fun _ _ e => e) (fun _ f => f) (fun b ob _ e => hkeep b ob e) (fun ob e => hkeep b ob e) o n3⟩
    · obtain ⟨o, e, k⟩ := I.rel.frz b f
      exact ⟨o, hkeep b o e, k⟩
  have I' := I.evo ev R'
  have nliveNew : ∀ b, s.heap.get? b = none → ¬ live c σ b := fun b hb l => by
    obtain ⟨ob, e⟩ := I.rel.liveThere l
    rw [hb] at e; cases e
  have nbaseNew : ∀ b, s.heap.get? b = none → X.base.get? b = none := fun b hb => by
    cases q : X.base.get? b with
    | none => rfl
    | some o => rw [I.rel.base b o q] at hb; cases hb
  have hvlen : vs'.length = pars := by rw [r.length]; exact hlen
  have hzn : (((names.take pars).zip vs').map (·.1)).Nodup := by
    rw [List.map_fst_zip (by rw [List.length_take, hvlen]; exact Nat.min_le_left _ _)]
    exact (List.take_sublist _ _).nodup h.nd
  have hzip : ∀ (i : Nat) (x : Str) (v : V), names[i]? = some x → (vs.map some ++ List.replicate (names.length - pars) none)[i]? = some (some v) → ∃ v', ((names.take pars).zip vs')[i]? = some (x, v') ∧ VRep X c s.heap v' v ∧ x ∈ names.take pars := by
    intro i x v h1 h2
    have hi : i < pars := by
      rcases Nat.lt_or_ge i pars with q | q
      · exact q
      · rw [List.getElem?_append_right (by simpa [hlen] using q)] at h2
        obtain ⟨_, q2⟩ := List.getElem?_eq_some_iff.mp h2
        simp at q2
    rw [List.getElem?_append_left (by simpa [hlen] using hi), List.getElem?_map] at h2
    cases hv : vs[i]? with
    | none => rw [hv] at h2; cases h2
    | some w =>
      rw [hv] at h2
      have : w = v := by simpa using h2
      subst this
      obtain ⟨v', e, q⟩ := r.get vs hv
      have ht : (names.take pars)[i]? = some x := by rw [List.getElem?_take]; simp [hi, h1]
      exact ⟨v', by rw [List.getElem?_zip_eq_some]; exact ⟨ht, e⟩, q, List.mem_of_getElem? ht⟩
  have mono : ∀ {w' : Value} {w : V}, VRep X c s.heap w' w → VRep X c h' w' w := fun {w' w} q => VRep.mono (fun _ _ e => e) (fun _ f => f) (fun b ob _ e => hkeep b ob e) w q
  refine ⟨?_, ⟨⟨R', ?_, ?_⟩, ?_⟩, ev, own, hfr⟩
  · refine ⟨hescope, rfl, ⟨?_, ?_, ?_⟩, ?_, ?_, ?_, ⟨callEnvC fd s.heap.objs.size fa, envs, s.heap.objs.size, rfl, rfl, rfl⟩⟩
    · exact room.guards
    · have := room.depth; show A.depth + 1 + 20 * n < 900; omega
    · have := room.units; show A.units + 3 + 100 * n < 9000; omega
    · exact hd
    · show (A.frames.map _) = _; rw [fo.frames]; rfl
    · intro e he
      rcases List.mem_cons.mp he with rfl | he
      · exact ⟨by show fd.scope.kind ≠ .module; rw [hsc, h.kind]; decide, _, rfl⟩
      · exact fo.kinds e he
  · rw [hfr]
    intro f hf
    rcases List.mem_cons.mp hf with rfl | hf
    · obtain ⟨o, es, ep, e, d, _⟩ := hns
      exact ⟨o, es, ep, e, d⟩
    · exact I'.fro f hf
  · rw [hfr]
    intro f hf
    rcases List.mem_cons.mp hf with rfl | hf
    · exact ⟨nliveNew _ (fresh _ (Nat.le_refl _)), nbaseNew _ (fresh _ (Nat.le_refl _))⟩
    · exact I'.frl f hf
  · exact {
      kind := by rw [hescope]; exact h.kind
      glob := hg, blt := hb, nodup := h.nd
      len := by have := h.le; simp [hlen]; show pars + (names.length - pars) = names.length; omega
      ns := ⟨_, hns, fun i x v h1 h2 h3 => by
        obtain ⟨v', e, q, _⟩ := hzip i x v h1 h2
        exact ⟨v', bindL_at _ _ i x v' hzn e h3, mono q⟩⟩
      cells := fun x b e => ⟨_, hcell x b e⟩
      cell := fun i x v h1 h2 h3 => by
        obtain ⟨v', e, q, hm⟩ := hzip i x v h1 h2
        have hk : a.env.kindOf x = some .cell := by
          unfold Env.kindOf at h3 ⊢
          rw [hescope] at h3 ⊢
          rcases h.kinds x hm with q | q
          · rw [q] at h3; rcases h3 with h3 | h3 <;> cases h3
          · exact q
        have hh : ((cellsFrom (s.heap.objs.size + 1) sc.names []).lookup x).isSome = true := cellsFrom_has _ _ _ (.inl (by unfold Env.kindOf at hk; rw [hescope] at hk; exact hk))
        obtain ⟨b, hb⟩ := Option.isSome_iff_exists.mp hh
        rw [← hcells] at hb
        have := hcell x b hb
        rw [bindC_at _ _ i x v' hzn e hk] at this
        exact ⟨b, v', hb, this, mono q⟩
      apartL := ⟨nliveNew _ (fresh _ (Nat.le_refl _)), nbaseNew _ (fresh _ (Nat.le_refl _))⟩
      apartC := fun x b e => by
        have := own b (.inr ⟨x, e⟩)
        exact ⟨nliveNew _ this, nbaseNew _ this⟩
      inj := fun x y b h1 h2 => name_of_addr hap (lookup_mem h1) (lookup_mem h2)
      has := fun x hx => by
        have hh : ((cellsFrom (s.heap.objs.size + 1) sc.names []).lookup x).isSome = true := cellsFrom_has _ _ _ (.inl (by unfold Env.kindOf at hx; rw [hescope] at hx; exact hx))
        obtain ⟨b, hb⟩ := Option.isSome_iff_exists.mp hh
        exact ⟨b, by rw [hcells]; exact hb⟩ }
end
end Mine
end

section
namespace Mine
open PySem PyProof.Rows

section
variable {X : Ctx}

theorem EvoO.leave {own : Addr → Prop} {fr : List Addr} {L : Addr} {c c' : Cfg} {σ σ' : St} {s s₁ s' : Shared} (x : Evo fr c σ s c σ s₁) (y : EvoO own (L :: fr) c σ s₁ c' σ' s') (hn : ∀ a, own a → s.heap.get? a = none) (hL : s.heap.get? L = none) : Evo fr c σ s c' σ' s' where
  same a o e nl _ nf := y.same a o (x.same a o e nl id nf) nl (fun h => by rw [hn a h] at e; cases e) (by
    intro h
    rcases List.mem_cons.mp h with rfl | h
    · rw [hL] at e; cases e
    · exact nf h)
  frs a o e nl _ hf := by
    obtain ⟨sl, e'⟩ := x.frs a o e nl id hf
    obtain ⟨sl', e''⟩ := y.frs a _ e' nl (fun h => by rw [hn a h] at e; cases e) (.tail _ hf)
    exact ⟨sl', e''⟩
  exist a o e := let ⟨o', e'⟩ := x.exist a o e; y.exist a o' e'
  lives a l := by
    rcases y.lives a l with l | q
    · exact .inl l
    · exact .inr (x.fresh q)
  mu := y.mu
  frz := y.frz
  newf a f := by
    rcases y.newf a f with f | l | q
    · exact .inl f
    · exact .inr (.inl l)
    · exact .inr (.inr (x.fresh q))
  gens := y.gens.trans x.gens
  os := y.os.trans x.os

theorem RInv.tail {fr : List Addr} {L : Addr} {c : Cfg} {σ : St} {s : Shared} (I : RInv X (L :: fr) c σ s) : RInv X fr c σ s := ⟨I.rel, fun f hf => I.fro f (.tail _ hf), fun f hf => I.frl f (.tail _ hf)⟩

theorem ObjRep.cut {c c' : Cfg} {h : Heap} {a : Addr} {n : Nat} (hm : ∀ (l : Nat) (a : Addr), l < n → c.mu[l]? = some a → c'.mu[l]? = some a) (hf : ∀ a, c.frz a → c'.frz a) : ∀ (o : PObj), o.top ≤ n → ObjRep X c h a o → ObjRep X c' h a o
  | .dead, _, x => x
  | .list vs, t, ⟨items, n, e, r⟩ => ⟨items, n, e, VReps.cut hm hf vs t r.1, r.2⟩
  | .dictS es, t, ⟨q, xs, d, f, k, r⟩ => ⟨q, xs, d, fun y hy => hf _ (f y hy), k, VReps.cut hm hf _ t r⟩
  | .inst d, t, x => by
    obtain ⟨dx, m, e⟩ := x
    exact ⟨dx, hm _ _ (by simp only [PObj.top] at t; omega) m, e⟩
  | .attrs r w, t, x => by
    obtain ⟨m, hn, h1, h2, h3⟩ := x
    simp only [PObj.top] at t
    have t1 := Nat.le_trans (Nat.le_max_left _ _) t
    have t2 := Nat.le_trans (Nat.le_max_right _ _) t
    exact ⟨m, hn, fun v hv => let ⟨v', a1, a2⟩ := h1 v hv; ⟨v', a1, VRep.cut hm hf v (by subst hv; simpa using t1) a2⟩, fun v hv => let ⟨v', a1, a2⟩ := h2 v hv; ⟨v', a1, VRep.cut hm hf v (by subst hv; simpa using t2) a2⟩, h3⟩
theorem ObjRep.top {c : Cfg} {h : Heap} {a : Addr} : ∀ (o : PObj), ObjRep X c h a o → o.top ≤ c.mu.length
  | .dead, _ => Nat.zero_le _
  | .list vs, ⟨items, n, e, r⟩ => r.1.top vs
  | .dictS es, ⟨q, xs, d, f, k, r⟩ => r.top _
  | .inst d, x => by
    obtain ⟨dx, m, e⟩ := x
    exact (List.getElem?_eq_some_iff.mp m).1
  | .attrs r w, x => by
    obtain ⟨m, hn, h1, h2, h3⟩ := x
    simp only [PObj.top]
    refine Nat.max_le.mpr ⟨?_, ?_⟩
    · cases r with
      | none => simp
      | some v => obtain ⟨v', _, q⟩ := h1 v rfl; simpa using VRep.top v q
    · cases w with
      | none => simp
      | some v => obtain ⟨v', _, q⟩ := h2 v rfl; simpa using VRep.top v q

theorem take_get {α : Type} {l : List α} {n i : Nat} {x : α} (h : (l.take n)[i]? = some x) : i < n ∧ l[i]? = some x := by
  rw [List.getElem?_take] at h
  split at h
  · rename_i q; exact ⟨q, h⟩
  · cases h

/-- the store cut back to what stood at the call -/
theorem RInv.cut {fr : List Addr} {c c' : Cfg} {σ σ' : St} {s s' : Shared} (I₀ : RInv X fr c σ s) (x : Evo fr c σ s c' σ' s') (I : RInv X fr c' σ' s') (hw : σ'.take σ.length = σ ∨ ∀ o ∈ σ'.take σ.length, o.top ≤ σ.length) :
    RInv X fr ⟨c.mu, c'.frz⟩ (σ'.take σ.length) s' ∧ Evo fr c σ s ⟨c.mu, c'.frz⟩ (σ'.take σ.length) s' := by
  have hlen := I₀.rel.len
  have hle : σ.length ≤ σ'.length := by
    rw [← hlen, ← I.rel.len]
    rcases Nat.lt_or_ge c'.mu.length c.mu.length with q | q
    · have hpos : c'.mu.length < c.mu.length := q
      have e : c.mu[c'.mu.length]? = some (c.mu[c'.mu.length]'hpos) := List.getElem?_eq_getElem hpos
      have := x.mu _ _ e
      have := (List.getElem?_eq_some_iff.mp this).1
      exact absurd this (Nat.lt_irrefl _)
    · exact q
  have hmu : ∀ (l : Nat) (a : Addr), l < σ.length → c'.mu[l]? = some a → c.mu[l]? = some a := fun l a hl e => by
    have e' : c.mu[l]? = some (c.mu[l]'(by rw [hlen]; exact hl)) := List.getElem?_eq_getElem _
    have := x.mu _ _ e'
    rw [e] at this
    rw [e', this]
  have htop : ∀ (l : Nat) (o : PObj), (σ'.take σ.length)[l]? = some o → o.isDead = false → o.top ≤ σ.length := by
    rcases hw with hw | hw
    · intro l o e d
      rw [hw] at e
      have hl := (List.getElem?_eq_some_iff.mp e).1
      have e' : c.mu[l]? = some (c.mu[l]'(by rw [hlen]; exact hl)) := List.getElem?_eq_getElem _
      have := ((I₀.rel.obj l o _ e d e').2.2).top
      rw [hlen] at this; exact this
    · intro l o e _; exact hw o (List.mem_of_getElem? e)
  have hlive : ∀ a, live ⟨c.mu, c'.frz⟩ (σ'.take σ.length) a → live c' σ' a := by
    rintro a ⟨l, o, m, e, d⟩
    obtain ⟨hl, e⟩ := take_get e
    exact ⟨l, o, x.mu l a m, e, d⟩
  refine ⟨⟨⟨?_, I₀.rel.nd, fun a ha => ?_, fun l o a e d m => ?_, I.rel.frz, I.rel.base⟩, I.fro, fun f hf => ⟨fun l => (I.frl f hf).1 (hlive f l), (I.frl f hf).2⟩⟩,
    ⟨x.same, x.frs, x.exist, fun a l => x.lives a (hlive a l), fun l a e => e, x.frz, x.newf, x.gens, x.os⟩⟩
  · show c.mu.length = _
    rw [List.length_take, hlen]; omega
  · obtain ⟨i, e⟩ := List.mem_iff_getElem?.mp ha
    exact I.rel.there a (List.mem_of_getElem? (x.mu i a e))
  · obtain ⟨hl, e'⟩ := take_get e
    obtain ⟨n1, n2, n3⟩ := I.rel.obj l o a e' d (x.mu l a m)
    exact ⟨n1, n2, ObjRep.cut (c := c') (c' := ⟨c.mu, c'.frz⟩) (n := σ.length) hmu (fun _ f => f) o (htop l o e d) n3⟩

theorem VRep.cutTo {c c' : Cfg} {σ σ' : St} {fr : List Addr} {s s' : Shared} (hlen : c.mu.length = σ.length) (x : Evo fr c σ s c' σ' s') {v' : Value} {v : V} (ht : v.top ≤ σ.length) (r : VRep X c' s'.heap v' v) : VRep X ⟨c.mu, c'.frz⟩ s'.heap v' v := by
  refine VRep.cut (c := c') (c' := ⟨c.mu, c'.frz⟩) (n := σ.length) (fun l a hl e => ?_) (fun _ f => f) v ht r
  have e' : c.mu[l]? = some (c.mu[l]'(by rw [hlen]; exact hl)) := List.getElem?_eq_getElem _
  have := x.mu _ _ e'
  rw [e] at this
  rw [e', this]

theorem FPost.fin {fr : List Addr} {c c' : Cfg} {σ σ' : St} {s s' : Shared} {v' : Value} {v : V} (I₀ : RInv X fr c σ s) (x : Evo fr c σ s c' σ' s') (I : RInv X fr c' σ' s') (r : VRep X c' s'.heap v' v) : FPost X fr c σ s (Mine.fin σ v σ') (.ok (.ret v')) s' := by
  unfold Mine.fin
  split
  · rename_i h
    obtain ⟨I', x'⟩ := I₀.cut x I h.2
    exact ⟨v, _, _, rfl, I', x', r.cutTo I₀.rel.len x h.1⟩
  · exact ⟨v, _, _, rfl, I, x, r⟩
theorem soundF {n : Nat} {rs : Bool} {fa : Addr} {sc : Scope} {names : List Str} {pars slots : Nat} {body : List Stmt} {cs : S} (xo : XOk X) (h : FnOk X fa sc names pars body) (hsl : slots = names.length) (hb : SoundB X ⟨sc, names, n, rs⟩ body cs) : SoundF X (n + 1) rs fa (mkF pars slots cs) := by
  intro A envs c σ s vs' vs room fo hd I r nb
  subst hsl
  unfold mkF at nb ⊢
  by_cases hlen : vs.length = pars
  · rw [if_pos hlen] at nb ⊢
    obtain ⟨o, fd, ho, hdat, hbody, hsc, hclo, hg, hbl, hcd, hbind⟩ := h.here
    have hvl : vs'.length = pars := by rw [r.length]; exact hlen
    have hkb := I.rel.base
    refine codeAny_call_cells (fd := fd) (body := body) (by have := room.depth; show A.depth < 1000; omega) (hkb _ _ ho) hdat (xo.nolimit.keeps hkb) (hcd.keeps hkb) hbody (hbind vs' hvl) hclo ?_ (fun s₁ K => ?_) (by rw [hsc]; exact h.co) (by rw [hsc]; exact h.gen) (by rw [hsc]; exact h.kind)
    · intro y hy
      have hm : y.1 ∈ names.take pars := (List.of_mem_zip (show (y.1, y.2) ∈ _ from hy)).1
      rcases h.kinds y.1 hm with q | q
      · exact .inl (by rw [hsc]; exact q)
      · exact .inr ⟨by rw [hsc]; exact q, by rw [hsc]; exact cellsFrom_has _ _ _ (.inl q)⟩
    · obtain ⟨ok, Ia, ev, own, hfr⟩ := enter_def (rs := rs) h hsc hg hbl hlen room fo hd I r K
      generalize ha : (⟨A.deeper (callEnvC fd s.heap.objs.size fa), callEnvC fd s.heap.objs.size fa, names, callEnvC fd s.heap.objs.size fa :: envs⟩ : Act) = a at ok Ia own hfr
      have hA : A.deeper (callEnvC fd s.heap.objs.size fa) = a.A := by rw [← ha]
      have hE : callEnvC fd s.heap.objs.size fa = a.env := by rw [← ha]
      rw [hA, hE]
      have nb' : cs (vs.map some ++ List.replicate (names.length - pars) none) σ ≠ .bad := by intro q; rw [q] at nb; exact nb rfl
      have hLn : s.heap.get? s.heap.objs.size = none := get?_size _
      refine wpAny_mono (hb a c σ _ s₁ ok Ia nb') (fun f s' p => ?_) fun e' s' p => ?_
      · rcases p with ⟨ρ', σ', c', rfl, h2, i, y⟩ | ⟨v, v', σ', c', rfl, h2, i, y, q⟩
        · rw [h2]
          rw [hfr] at y
          have i' := i.r
          rw [hfr] at i'
          exact FPost.fin I (ev.leave y own hLn) i'.tail (by simp [VRep])
        · rw [h2]
          rw [hfr] at y
          obtain ⟨_, i⟩ := i
          have i' := i.r
          rw [hfr] at i'
          exact FPost.fin I (ev.leave y own hLn) i'.tail q
      · obtain ⟨k, ρ', σ', c', e, h1, h2, i, x, z⟩ := p
        exact z.elim
  · rw [if_neg hlen] at nb
    exact absurd rfl nb
end
end Mine
end

section
namespace Mine
open PySem PyProof.Rows

section
variable {X : Ctx} {D : Dom}

theorem EnvOk.unset {c : Cfg} {σ : St} {h : Heap} {env : PySem.Env} {names : List Str} {ρ : Env} (e : EnvOk X c σ h env names ρ) (i : Nat) : EnvOk X c σ h env names (ρ.set i none) where
  kind := e.kind
  glob := e.glob
  blt := e.blt
  nodup := e.nodup
  len := by rw [List.length_set]; exact e.len
  ns := by
    obtain ⟨m, hm, h⟩ := e.ns
    exact ⟨m, hm, fun j y v h1 h2 h3 => by
      rcases set_get h2 with ⟨_, q⟩ | ⟨_, q⟩
      · cases q
      · exact h j y v h1 q h3⟩
  cells := e.cells
  cell j y v h1 h2 h3 := by
    rcases set_get h2 with ⟨_, q⟩ | ⟨_, q⟩
    · cases q
    · exact e.cell j y v h1 q h3
  apartL := e.apartL
  apartC := e.apartC
  inj := e.inj
  has := e.has
theorem EnvOk.forget {c : Cfg} {σ : St} {h : Heap} {env : PySem.Env} {names : List Str} : ∀ (ts : List Nat) {ρ : Env}, EnvOk X c σ h env names ρ → EnvOk X c σ h env names (Mine.forget ts ρ)
  | [], _, e => e
  | i :: is, _, e => EnvOk.forget is (e.unset i)
theorem Inv.forget {a : Act} {c : Cfg} {σ : St} {ρ : Env} {s : Shared} (ts : List Nat) (I : Inv X a c σ ρ s) : Inv X a c σ (Mine.forget ts ρ) s := ⟨I.r, I.env.forget ts⟩

/-- how an iterator is drawn upon -/
structure Proto (X : Ctx) (fr : List Addr) (it : Addr) (src : V) (P : Nat → Cfg → St → Heap → Prop) : Prop where
  rc : ∀ i c σ h, P i c σ h → IsRec h it ∧ ¬ c.frz it
  keep : ∀ i c σ s c' σ' s' (own : Addr → Prop), P i c σ s.heap → RInv X fr c σ s → EvoO own fr c σ s c' σ' s' → (∀ a o, own a → s.heap.get? a = some o → ∀ vs, o.data ≠ .fields vs) → (∀ a, c.frz a → ¬ own a) → ¬ c'.frz it → P i c' σ' s'.heap
  item : ∀ A i c σ s vs x, PRoom A → RInv X fr c σ s → P i c σ s.heap → asIter σ src = some vs → vs[i]? = some x →
    wpAny (model X.prog X.w) A (pyNext (.ref it)) (fun r s' => ∃ x' h' t, r = some x' ∧ s' = { s with heap := h', toks := t } ∧ Quiet [it] fr s.heap h' ∧ P (i + 1) c σ h' ∧ VRep X c h' x' x) (fun _ _ => False) s
  done : ∀ A i c σ s vs, PRoom A → A.handled = none → RInv X fr c σ s → P i c σ s.heap → asIter σ src = some vs → vs[i]? = none →
    wpAny (model X.prog X.w) A (pyNext (.ref it)) (fun r s' => ∃ h' t, r = none ∧ s' = { s with heap := h', toks := t } ∧ Quiet [it] fr s.heap h') (fun _ _ => False) s
  self : ∀ A i c σ s, P i c σ s.heap → wpAny (model X.prog X.w) A (pyIter (.ref it)) (fun v s' => v = .ref it ∧ s' = s) (fun _ _ => False) s

theorem ownNoRec {a : Act} {c : Cfg} {σ : St} {ρ : Env} {s : Shared} (I : Inv X a c σ ρ s) : ∀ b o, ownOf a.env b → s.heap.get? b = some o → ∀ vs, o.data ≠ .fields vs := by
  rintro b o (rfl | ⟨x, hx⟩) e vs q
  · obtain ⟨m, ⟨o', es, ep, e', d, _⟩, _⟩ := I.env.ns
    rw [e] at e'; cases e'; rw [d] at q; cases q
  · obtain ⟨v, o', e', d⟩ := I.env.cells x b hx
    rw [e] at e'; cases e'; rw [d] at q; cases q
theorem ownNotFrz {a : Act} {c : Cfg} {σ : St} {ρ : Env} {s : Shared} (I : Inv X a c σ ρ s) : ∀ b, c.frz b → ¬ ownOf a.env b := by
  rintro b f (rfl | ⟨x, hx⟩)
  · obtain ⟨m, hm, _⟩ := I.env.ns
    exact I.r.rel.dictNotFrz hm f
  · obtain ⟨v, hv⟩ := I.env.cells x b hx
    exact I.r.rel.cellNotFrz hv f

/-- a name is bound, a local or a cell -/
noncomputable def Slot (D : Dom) (x : Str) (i : Nat) : Prop := D.names[i]? = some x ∧ (D.sc.names.lookup x = some .local ∨ D.sc.names.lookup x = some .cell)
theorem store_slot {a : Act} {c : Cfg} {σ : St} {ρ : Env} {s : Shared} {x : Str} {i : Nat} {v' : Value} {v : V} (ok : ActOk D a) (I : Inv X a c σ ρ s) (h : Slot D x i) (r : VRep X c s.heap v' v) {Ex : Value → Shared → Prop} :
    wpAny (model X.prog X.w) a.A (storeName a.env x v') (fun _ s' => Inv X a c σ (ρ.set i (some v)) s' ∧ EvoO (ownOf a.env) a.fr c σ s c σ s') Ex s := by
  obtain ⟨h1, h2⟩ := h
  have h1' : a.names[i]? = some x := by rw [ok.names]; exact h1
  rcases h2 with h2 | h2
  · exact store_local I h1' (by unfold Env.kindOf; rw [ok.sc]; exact h2) r
  · exact store_cell I h1' (by unfold Env.kindOf; rw [ok.sc]; exact h2) r

theorem sS_asg {x : Str} {i : Nat} {p pos : Pos} {e : Expr} {ce : E} (hsl : Slot D x i) (hs : ∀ env, swapsWith e (some (.Name x p)) pos.line env = pure false) (h : SoundE X D e ce) : SoundS X D (.Assign [.Name x p] e pos) (asg i ce) := by
  intro a c σ ρ s ok I nb
  unfold asg at nb ⊢
  refine wpAny_Assign_Name (h.to ok I nb (fun _ _ p => p) fun v' v σ₁ c₁ s₁ e1 eb nb1 I1 x1 r1 => ?_) (hs _)
  rw [eb]
  refine wpAny_mono (store_slot ok I1 hsl r1) (fun _ s₂ p => ?_) fun _ _ q => q
  exact .inl ⟨_, σ₁, c₁, rfl, rfl, p.1, (EvoO.weak x1).trans p.2⟩

theorem for_sound {a : Act} {c c₁ : Cfg} {σ σ₁ : St} {ρ : Env} {s s₁ : Shared} {x : Str} {p : Pos} {slot : Nat} {temps : List Nat} {body : List Stmt} {cb : S} {it : Addr} {src : V} {P : Nat → Cfg → St → Heap → Prop} {fuel : Nat}
    (ok : ActOk D a) (hrs : D.rs = true) (R₀ : Rel X c σ s.heap) (I : Inv X a c₁ σ₁ ρ s₁) (x₁ : EvoO (ownOf a.env) a.fr c σ s c₁ σ₁ s₁) (hnew : s.heap.get? it = none) (pr : Proto X a.fr it src P) (hp : P 0 c₁ σ₁ s₁.heap) (hsl : Slot D x slot) (hb : SoundB X D body cb)
    (nb : forGo slot temps cb src fuel 0 ρ σ₁ ≠ .bad) {Ex : Value → Shared → Prop} (hE : ∀ e'' s'', SExc X a c σ s (forGo slot temps cb src fuel 0 ρ σ₁) e'' s'' → Ex e'' s'') :
    codeAny (model X.prog X.w) a.A (.forLoop (.Name x p) (.ref it) body [] a.env) (fun r s' => match r with | .ok f => SPost X a c σ s (forGo slot temps cb src fuel 0 ρ σ₁) f s' | .error e => cameBackBy (model X.prog X.w) a.A a.env Ex e s') s₁ := by
  generalize ho : forGo slot temps cb src fuel 0 ρ σ₁ = o at nb hE ⊢
  refine codeAny_forLoop_any (fun n s' => ∃ i ρ' σ' c', Inv X a c' σ' ρ' s' ∧ P i c' σ' s'.heap ∧ EvoO (ownOf a.env) a.fr c σ s c' σ' s' ∧ forGo slot temps cb src n i ρ' σ' = o) ?_ fuel ⟨0, ρ, σ₁, c₁, I, hp, x₁, ho⟩
  rintro n s' ⟨i, ρ', σ', c', I', hp', x', ho'⟩
  cases n with
  | zero => unfold forGo at ho'; exact absurd ho'.symm nb
  | succ n =>
    unfold forGo at ho'
    cases hv : asIter σ' src with
    | none => rw [hv] at ho'; exact absurd ho'.symm nb
    | some vs =>
      rw [hv] at ho'
      simp only at ho'
      have hin : ∀ b ∈ [it], s.heap.get? b = none := by intro b hb; rw [List.mem_singleton.mp hb]; exact hnew
      have hrc : ∀ b ∈ [it], IsRec s'.heap b := by intro b hb; rw [List.mem_singleton.mp hb]; exact (pr.rc _ _ _ _ hp').1
      have hnf : ∀ b ∈ [it], ¬ c'.frz b := by intro b hb; rw [List.mem_singleton.mp hb]; exact (pr.rc _ _ _ _ hp').2
      have hnb : ∀ b ∈ [it], X.base.get? b = none := by
        intro b hb; rw [List.mem_singleton.mp hb]
        cases q : X.base.get? it with
        | none => rfl
        | some ob => rw [R₀.base _ _ q] at hnew; cases hnew
      cases hx : vs[i]? with
      | none =>
        rw [hx] at ho'
        simp only at ho'
        refine wpAny_mono (pr.done a.A i c' σ' s' vs ok.room.p (ok.hd hrs) I'.r hp' hv hx) (fun r s₂ p => ?_) fun _ _ f => f.elim
        obtain ⟨h', t, rfl, rfl, q⟩ := p
        refine wpAny_execs_nil ?_
        rw [← ho']
        exact .inl ⟨ρ', σ', c', rfl, rfl, I'.quiet q hrc hnf hnb, x'.quiet q hin⟩
      | some v =>
        rw [hx] at ho'
        simp only at ho'
        refine wpAny_mono (pr.item a.A i c' σ' s' vs v ok.room.p I'.r hp' hv hx) (fun r s₂ p => ?_) fun _ _ f => f.elim
        obtain ⟨v', h', t, rfl, rfl, q, hp₂, r⟩ := p
        have I₂ : Inv X a c' σ' ρ' { s' with heap := h', toks := t } := I'.quiet q hrc hnf hnb
        have x₂ : EvoO (ownOf a.env) a.fr c σ s c' σ' { s' with heap := h', toks := t } := x'.quiet q hin
        refine wpAny_pure (a := ()) ?_
        rw [arm_assign_Name]
        refine wpAny_bind (wpAny_standAt (wpAny_bindName (wpAny_mono (store_slot ok I₂ hsl r) (fun _ s₃ p₃ => ?_) fun _ _ q => q)))
        obtain ⟨I₃, y₃⟩ := p₃
        have nb₃ : cb (ρ'.set slot (some v)) σ' ≠ .bad := by intro e; rw [e] at ho'; exact nb ho'.symm
        have hp₃ : P (i + 1) c' σ' s₃.heap := pr.keep _ _ _ _ _ _ _ _ hp₂ I₂.r y₃ (ownNoRec I₂) (ownNotFrz I₂) (pr.rc _ _ _ _ hp₂).2
        refine wpAny_mono (hb a c' σ' _ s₃ ok I₃ nb₃) (fun f s₄ p₄ => ?_) fun e' s₄ p₄ => ?_
        · rcases p₄ with ⟨ρ₄, σ₄, c₄, rfl, h2, i₄, y₄⟩ | ⟨w, w', σ₄, c₄, rfl, h2, i₄, y₄, r₄⟩
          · rw [h2] at ho'
            refine ⟨n, Nat.lt_succ_self _, i + 1, Mine.forget temps ρ₄, σ₄, c₄, i₄.forget temps, ?_, (x₂.trans y₃).trans y₄, ho'⟩
            refine pr.keep _ _ _ _ _ _ _ _ hp₃ I₃.r y₄ (ownNoRec I₃) (ownNotFrz I₃) (fun f => ?_)
            have hr := (pr.rc _ _ _ _ hp₃).1
            rcases y₄.newf it f with f | l | q
            · exact (pr.rc _ _ _ _ hp₃).2 f
            · exact I₃.r.rel.recNotLive hr l
            · obtain ⟨o, _, e, _⟩ := hr; rw [q] at e; cases e
          · rw [h2] at ho'
            rw [← ho']
            exact .inr ⟨w, w', σ₄, c₄, rfl, rfl, i₄, (x₂.trans y₃).trans y₄, r₄⟩
        · obtain ⟨k, ρ₄, σ₄, c₄, e, h1, h2, i₄, y₄, z⟩ := p₄
          have hz : SExc X a c σ s o e' s₄ := ⟨k, ρ₄, σ₄, c₄, e, by rw [h1] at ho'; exact ho'.symm, h2, i₄, (x₂.trans y₃).trans y₄, z.evo (x₂.trans y₃)⟩
          exact hz.loop ok R₀ hE
end
end Mine
end

section
namespace Mine
open PySem PyProof.Rows

section
variable {X : Ctx} {D : Dom}

/-- a list at hand, frozen or a place -/
theorem list_of {c : Cfg} {σ : St} {h : Heap} {v' : Value} {v : V} {vs : List V} (R : Rel X c σ h) (r : VRep X c h v' v) (e : asList σ v = some vs) : ∃ a items n, v' = .ref a ∧ h.get? a = some (lstObj items n) ∧ VReps X c h items.toList vs ∧ vs.length ≤ LIM := by
  cases v with
  | lst ws =>
    simp only [VRep] at r
    obtain ⟨a, items, n, h1, h2, h3, h4⟩ := r
    simp only [asList, Option.some.injEq] at e; subst e
    exact ⟨a, items, n, h1, h3, h4⟩
  | loc l =>
    simp only [VRep] at r
    obtain ⟨a, h1, h2⟩ := r
    simp only [asList] at e
    cases ho : σ[l]? with
    | none => rw [ho] at e; cases e
    | some o =>
      rw [ho] at e
      cases o <;> simp only [Option.some.injEq, reduceCtorEq] at e
      subst e
      obtain ⟨_, _, items, n, g, q⟩ := R.obj l _ a ho rfl h2
      exact ⟨a, items, n, h1, g, q⟩
  | _ => simp [asList] at e

theorem lst_is {h : Heap} {a : Addr} {items : Array Value} {n : Nat} (g : h.get? a = some (lstObj items n)) : h.IsList a items := ⟨_, g, rfl, n, rfl⟩
theorem tup_is {h : Heap} {a : Addr} {items : Array Value} {n : Nat} (g : h.get? a = some (tupObj items n)) : h.IsTuple a items := ⟨_, g, rfl, n, rfl⟩

theorem rec_keep {fr : List Addr} {c c' : Cfg} {σ σ' : St} {s s' : Shared} {own : Addr → Prop} {it : Addr} {o : Obj} {vs : Array Value} (I : RInv X fr c σ s) (x : EvoO own fr c σ s c' σ' s') (hn : ∀ a o, own a → s.heap.get? a = some o → ∀ vs, o.data ≠ .fields vs) (e : s.heap.get? it = some o) (d : o.data = .fields vs) : s'.heap.get? it = some o := by
  refine x.same it o e (I.rel.recNotLive ⟨o, vs, e, d⟩) (fun ho => hn it o ho e vs d) (fun hf => ?_)
  obtain ⟨o', es, ep, e', d'⟩ := I.fro it hf
  rw [e] at e'; cases e'; rw [d] at d'; cases d'

theorem quiet_same {fr : List Addr} {h h' : Heap} {it : Addr} (x : Heap.SameBut it h h') : Quiet [it] fr h h' := Quiet.extBut x.extBut

noncomputable def PList (X : Ctx) (it l : Addr) (src : V) (i : Nat) (c : Cfg) (σ : St) (h : Heap) : Prop := h.IsListIter it l i ∧ VRep X c h (.ref l) src ∧ ¬ c.frz it
theorem proto_list {fr : List Addr} {it l : Addr} {src : V} (hsrc : ∀ σ vs, asIter σ src = some vs → asList σ src = some vs) : Proto X fr it src (PList X it l src) where
  rc i c σ h p := ⟨let ⟨o, e, _, d⟩ := p.1; ⟨o, _, e, d⟩, p.2.2⟩
  keep i c σ s c' σ' s' own p I x hn ho hf := ⟨let ⟨o, e, k, d⟩ := p.1; ⟨o, rec_keep I x hn e d, k, d⟩, p.2.1.evo x I.rel I.fro ho, hf⟩
  item A i c σ s vs x ro I p ha hx := by
    obtain ⟨a, items, n, h1, h2, h3, h4⟩ := list_of I.rel p.2.1 (hsrc _ _ ha)
    cases h1
    obtain ⟨x', g, r⟩ := h3.get _ hx
    refine wpAny_pyNext_list_item p.1 (lst_is h2) (by simpa using g) fun h' hi hs => ?_
    have q : Quiet [it] fr s.heap h' := quiet_same hs
    have nf : ∀ b ∈ [it], ¬ c.frz b := by intro b hb; rw [List.mem_singleton.mp hb]; exact p.2.2
    exact ⟨x', h', s.toks, rfl, rfl, q, ⟨hi, p.2.1.quiet I q nf, p.2.2⟩, r.quiet I q nf⟩
  done A i c σ s vs ro hh I p ha hx := by
    obtain ⟨a, items, n, h1, h2, h3, h4⟩ := list_of I.rel p.2.1 (hsrc _ _ ha)
    cases h1
    have hl := h3.length
    refine wpAny_pyNext_list_end hh p.1 (lst_is h2) (by simp at hx ⊢; simp at hl; omega) fun h' hs => ?_
    exact ⟨h', s.toks, rfl, rfl, Quiet.extBut hs⟩
  self A i c σ s p := wpAny_pyIter_listiter p.1 ⟨rfl, rfl⟩

noncomputable def PTup (X : Ctx) (it l : Addr) (src : V) (i : Nat) (c : Cfg) (σ : St) (h : Heap) : Prop := h.IsTupleIter it l i ∧ VRep X c h (.ref l) src ∧ ¬ c.frz it
theorem proto_tup {fr : List Addr} {it l : Addr} {ws : List V} : Proto X fr it (.tup ws) (PTup X it l (.tup ws)) where
  rc i c σ h p := ⟨let ⟨o, e, _, d⟩ := p.1; ⟨o, _, e, d⟩, p.2.2⟩
  keep i c σ s c' σ' s' own p I x hn ho hf := ⟨let ⟨o, e, k, d⟩ := p.1; ⟨o, rec_keep I x hn e d, k, d⟩, p.2.1.evo x I.rel I.fro ho, hf⟩
  item A i c σ s vs x ro I p ha hx := by
    have hr := p.2.1
    simp only [VRep] at hr
    obtain ⟨a, items, n, h1, hfz, h2, h3, h4⟩ := hr
    cases h1
    simp only [asIter, Option.some.injEq] at ha; subst ha
    obtain ⟨x', g, r⟩ := h3.get _ hx
    refine wpAny_pyNext_tuple_item p.1 (tup_is h2) (by simpa using g) fun h' hi hs => ?_
    have q : Quiet [it] fr s.heap h' := quiet_same hs
    have nf : ∀ b ∈ [it], ¬ c.frz b := by intro b hb; rw [List.mem_singleton.mp hb]; exact p.2.2
    exact ⟨x', h', s.toks, rfl, rfl, q, ⟨hi, p.2.1.quiet I q nf, p.2.2⟩, r.quiet I q nf⟩
  done A i c σ s vs ro hh I p ha hx := by
    have hr := p.2.1
    simp only [VRep] at hr
    obtain ⟨a, items, n, h1, hfz, h2, h3, h4⟩ := hr
    cases h1
    simp only [asIter, Option.some.injEq] at ha; subst ha
    have hl := h3.length
    refine wpAny_pyNext_tuple_end hh p.1 (tup_is h2) (by simp at hx ⊢; simp at hl; omega) fun h' hs => ?_
    exact ⟨h', s.toks, rfl, rfl, Quiet.extBut hs⟩
  self A i c σ s p := wpAny_pyIter_tupleiter p.1 ⟨rfl, rfl⟩

noncomputable def PStr (ty : String) (it : Addr) (t : Tok) (x : List Nat) (i : Nat) (c : Cfg) (σ : St) (h : Heap) : Prop := h.IsStrIter it ty ⟨x.toArray⟩ t i ∧ ¬ c.frz it
theorem proto_ascii {fr : List Addr} {it : Addr} {t : Tok} {x : List Nat} (hx128 : ∀ c ∈ x, c < 128) : Proto X fr it (.str x) (PStr "str_ascii_iterator" it t x) where
  rc i c σ h p := ⟨let ⟨o, e, _, d⟩ := p.1; ⟨o, _, e, d⟩, p.2⟩
  keep i c σ s c' σ' s' own p I x hn ho hf := ⟨let ⟨o, e, k, d⟩ := p.1; ⟨o, rec_keep I x hn e d, k, d⟩, hf⟩
  item A i c σ s vs y ro I p ha hx := by
    simp only [asIter, Option.some.injEq] at ha; subst ha
    simp only [List.getElem?_map, Option.map_eq_some_iff] at hx
    obtain ⟨k, hk, rfl⟩ := hx
    refine wpAny_pyNext_ascii_item p.1 (c := k) (by simpa using hk) fun h' hi hs => ?_
    exact ⟨_, h', _, rfl, rfl, quiet_same hs, ⟨hi, p.2⟩, by simp only [VRep]; exact ⟨⟨_, rfl⟩, fun d hd => by rw [List.mem_singleton.mp hd]; exact hx128 k (List.mem_of_getElem? hk), by simp [LIM]⟩⟩
  done A i c σ s vs ro hh I p ha hx := by
    simp only [asIter, Option.some.injEq] at ha; subst ha
    refine wpAny_pyNext_ascii_end hh p.1 (by simpa using hx) fun h' hs => ?_
    exact ⟨h', s.toks, rfl, rfl, Quiet.extBut hs⟩
  self A i c σ s p := wpAny_pyIter_striter_ascii p.1 ⟨rfl, rfl⟩
/-- a, a + d, .. : n turns -/
noncomputable def stepL (a d : Int) (n : Nat) : List V := (List.range n).map fun (k : Nat) => V.int (a + k * d)
noncomputable def PRange (it : Addr) (a d : Int) (n : Nat) (i : Nat) (c : Cfg) (σ : St) (h : Heap) : Prop := i ≤ n ∧ IsRangeIter h it (a + i * d) ((n : Int) - i) d ∧ ¬ c.frz it
theorem proto_range {fr : List Addr} {it : Addr} {a d : Int} {n : Nat} : Proto X fr it (.lst (stepL a d n)) (PRange it a d n) where
  rc i c σ h p := ⟨⟨_, _, p.2.1, rfl⟩, p.2.2⟩
  keep i c σ s c' σ' s' own p I x hn ho hf := ⟨p.1, rec_keep I x hn p.2.1 rfl, hf⟩
  item A i c σ s vs y ro I p ha hx := by
    simp only [asIter, Option.some.injEq] at ha; subst ha
    unfold stepL at hx
    simp only [List.getElem?_map, Option.map_eq_some_iff] at hx
    obtain ⟨k, hk, rfl⟩ := hx
    obtain ⟨hi, rfl⟩ : i < n ∧ i = k := by
      have := List.getElem?_eq_some_iff.mp hk
      obtain ⟨h1, h2⟩ := this
      simp at h1 h2; exact ⟨h1, h2⟩
    refine wpAny_pyNext_range_item p.2.1 (by omega) fun h' hi' hs => ?_
    refine ⟨_, h', _, rfl, rfl, quiet_same hs, ⟨by omega, ?_, p.2.2⟩, by simp [VRep]⟩
    have e1 : a + ((i + 1 : Nat) : Int) * d = a + i * d + d := by
      rw [Int.natCast_add, Int.add_mul]; simp; omega
    have e2 : (n : Int) - ((i + 1 : Nat) : Int) = (n : Int) - i - 1 := by omega
    rw [e1, e2]; exact hi'
  done A i c σ s vs ro hh I p ha hx := by
    simp only [asIter, Option.some.injEq] at ha; subst ha
    have hi : n ≤ i := by unfold stepL at hx; simpa using hx
    refine wpAny_pyNext_range_end hh p.2.1 (by omega) fun h' hs => ?_
    exact ⟨h', s.toks, rfl, rfl, Quiet.extBut hs⟩
  self A i c σ s p := wpAny_pyIter_rangeiter p.2.1 ⟨rfl, rfl⟩

/-- what iter(x) gives -/
noncomputable def ItPost (X : Ctx) (a : Act) (c : Cfg) (σ : St) (ρ : Env) (s : Shared) (o : Out V) (it' : Value) (s' : Shared) : Prop :=
  ∃ v σ' c' it P, o = .ok v σ' ∧ it' = .ref it ∧ Inv X a c' σ' ρ s' ∧ Evo a.fr c σ s c' σ' s' ∧ s.heap.get? it = none ∧ Proto X a.fr it v P ∧ P 0 c' σ' s'.heap ∧ ∀ vs, asIter σ' v = some vs → vs.length ≤ LIM
noncomputable def IterOk (o : Out V) : Prop := o ≠ .bad ∧ ∀ v σ, o = .ok v σ → ∃ vs, asIter σ v = some vs
noncomputable def SoundI (X : Ctx) (D : Dom) (e : Expr) (ce : E) : Prop :=
  ∀ (a : Act) (c : Cfg) (σ : St) (ρ : Env) (s : Shared), ActOk D a → Inv X a c σ ρ s → IterOk (ce ρ σ) →
    wpAny (model X.prog X.w) a.A (eval e a.env) (fun v s₁ => wpAny (model X.prog X.w) a.A (pyIter v) (ItPost X a c σ ρ s (ce ρ σ)) (fun _ _ => False) s₁) (ExPost X a c σ ρ s (ce ρ σ)) s

theorem fresh_size {fr : List Addr} {c c₁ : Cfg} {σ σ₁ : St} {s s₁ : Shared} (x : Evo fr c σ s c₁ σ₁ s₁) : s.heap.get? s₁.heap.objs.size = none := by
  cases e : s.heap.get? s₁.heap.objs.size with
  | none => rfl
  | some o => obtain ⟨o', e'⟩ := x.exist _ _ e; exact absurd (Heap.lt_size e') (Nat.lt_irrefl _)
theorem frz_lt {c : Cfg} {σ : St} {h : Heap} (R : Rel X c σ h) : ¬ c.frz h.objs.size := fun f => by
  obtain ⟨o, e, _⟩ := R.frz _ f
  exact absurd (Heap.lt_size e) (Nat.lt_irrefl _)

/-- an iterator, laid -/
theorem it_push {a : Act} {c c₁ : Cfg} {σ σ₁ : St} {ρ : Env} {s s₁ : Shared} {o : Out V} {v : V} {P : Nat → Cfg → St → Heap → Prop} (ob : Obj) (I1 : Inv X a c₁ σ₁ ρ s₁) (x1 : Evo a.fr c σ s c₁ σ₁ s₁) (ho : o = .ok v σ₁) (pr : Proto X a.fr s₁.heap.objs.size v P) (p0 : P 0 c₁ σ₁ (s₁.heap.push ob)) (hlen : ∀ vs, asIter σ₁ v = some vs → vs.length ≤ LIM) :
    ItPost X a c σ ρ s o (.ref s₁.heap.objs.size) { s₁ with heap := s₁.heap.push ob } := by
  have q : Quiet [] a.fr s₁.heap (s₁.heap.push ob) := Quiet.push ..
  exact ⟨v, σ₁, c₁, _, P, ho, rfl, I1.quiet (t := s₁.toks) q (by simp) (by simp) (by simp), x1.quiet (t := s₁.toks) q (by simp), fresh_size x1, pr, p0, hlen⟩

theorem VRep.push {c : Cfg} {h : Heap} {v' : Value} {v : V} (ob : Obj) (r : VRep X c h v' v) : VRep X c (h.push ob) v' v :=
  VRep.mono (fun _ _ e => e) (fun _ f => f) (fun _ _ _ e => Heap.get?_push_of_some _ e) v r

/-- lists, tuples and texts -/
theorem sI_of {e : Expr} {ce : E} (h : SoundE X D e ce) : SoundI X D e ce := by
  intro a c σ ρ s ok I nb
  refine wpAny_mono (h a c σ ρ s ok I nb.1) (fun v' s₁ p => ?_) fun _ _ q => q
  obtain ⟨v, σ₁, c₁, eq, I1, x1, r1⟩ := p
  obtain ⟨vs, hv⟩ := nb.2 v σ₁ eq
  have list : (∀ σ vs, asIter σ v = some vs → asList σ v = some vs) → wpAny (model X.prog X.w) a.A (pyIter v') (ItPost X a c σ ρ s (ce ρ σ)) (fun _ _ => False) s₁ := by
    intro hsrc
    obtain ⟨l, items, n, rfl, h2, h3, h4⟩ := list_of I1.r.rel r1 (hsrc _ _ hv)
    exact wpAny_pyIter_list (lst_is h2) (it_push _ I1 x1 eq (proto_list (l := l) hsrc) ⟨⟨_, Heap.get?_push_size _ rfl, rfl, rfl⟩, r1.push _, frz_lt I1.r.rel⟩ fun ws hw => by rw [hv] at hw; cases hw; exact h4)
  cases v with
  | lst ws => exact list fun σ vs h => by simpa [asIter, asList] using h
  | loc l => exact list fun σ vs h => by simpa [asIter, asList] using h
  | tup ws =>
    have r := r1
    simp only [VRep] at r
    obtain ⟨l, items, n, rfl, hfz, h2, h3, h4⟩ := r
    exact wpAny_pyIter_tuple (tup_is h2) (it_push _ I1 x1 eq (proto_tup (l := l)) ⟨⟨_, Heap.get?_push_size _ rfl, rfl, rfl⟩, r1.push _, frz_lt I1.r.rel⟩ fun ws hw => by simp only [asIter, Option.some.injEq] at hw; subst hw; exact h4)
  | str x =>
    simp only [VRep] at r1
    obtain ⟨⟨t, rfl⟩, h128, hl⟩ := r1
    have hl' : ∀ ws, asIter σ₁ (.str x) = some ws → ws.length ≤ LIM := fun ws hw => by simp only [asIter, Option.some.injEq] at hw; subst hw; simpa using hl
    have ha : (Str.mk x.toArray).cps.all (· < 128) = true := by simpa using h128
    · exact wpAny_pyIter_ascii ha (it_push _ I1 x1 eq (proto_ascii (t := t) h128) ⟨⟨_, Heap.get?_push_size _ rfl, rfl, rfl⟩, frz_lt I1.r.rel⟩ hl')
  | none => simp [asIter] at hv
  | bool _ => simp [asIter] at hv
  | int _ => simp [asIter] at hv
  | exn _ => simp [asIter] at hv
  | fn _ => simp [asIter] at hv

theorem sS_for {x : Str} {p pos : Pos} {slot : Nat} {temps : List Nat} {it : Expr} {cit : E} {body : List Stmt} {cb : S} (hrs : D.rs = true) (hsl : Slot D x slot) (hf : ∀ env v, foldedSetIterable it env v = pure v) (hi : SoundI X D it cit) (hb : SoundB X D body cb) : SoundS X D (.For (.Name x p) it body [] pos) (forS slot temps cit cb) := by
  intro a c σ ρ s ok I nb
  unfold forS at nb ⊢
  have nbi : IterOk (cit ρ σ) := by
    refine ⟨to_ok_ne nb, fun v σ₁ e => ?_⟩
    rw [e] at nb
    simp only [Out.ok_to] at nb
    cases h : asIter σ₁ v with
    | none => rw [h] at nb; exact absurd rfl nb
    | some vs => exact ⟨vs, rfl⟩
  rw [arm_exec_For]
  refine wpAny_bind (wpAny_standAt (wpAny_bind (wpAny_mono (hi a c σ ρ s ok I nbi) (fun v' s₁ p₁ => ?_) fun e' s' p => SExc.ofEx p)))
  refine wpAny_bind (wpAny_of_eq (hf _ v') (wpAny_bind (wpAny_standAt (wpAny_bind (wpAny_holding (wpAny_mono p₁ (fun it' s₂ p₂ => ?_) fun _ _ f => f.elim))))))
  obtain ⟨v, σ₂, c₂, it₂, P, eq, rfl, I2, x2, hnew, pr, p0, hlen⟩ := p₂
  rw [eq] at nb ⊢
  simp only [Out.ok_to] at nb ⊢
  cases hv : asIter σ₂ v with
  | none => rw [hv] at nb; exact absurd rfl nb
  | some vs =>
    rw [hv] at nb
    simp only at nb ⊢
    exact wpAny_runOwn (for_sound ok hrs I.r.rel I2 (EvoO.weak x2) hnew pr p0 hsl hb nb fun _ _ q => q)
end
end Mine
end

section
namespace Mine
open PySem PyProof.Rows

section
variable {X : Ctx} {D : Dom}

/-- an object that is none of the relation's -/
structure Aside (X : Ctx) (a : Act) (c : Cfg) (σ : St) (b : Addr) : Prop where
  nl : ¬ live c σ b
  nf : ¬ c.frz b
  nb : X.base.get? b = none
  nfr : b ∉ a.fr
  nL : b ≠ a.env.locals
  nC : ∀ x y, a.env.cells.lookup x = some y → b ≠ y

theorem Aside.evo {a : Act} {own : Addr → Prop} {c c' : Cfg} {σ σ' : St} {s s' : Shared} {b : Addr} {o : Obj} (h : Aside X a c σ b) (x : EvoO own a.fr c σ s c' σ' s') (e : s.heap.get? b = some o) : Aside X a c' σ' b :=
  ⟨x.notLive e h.nl, fun f => (x.newf b f).elim h.nf fun q => q.elim h.nl (fun q => by rw [e] at q; cases q), h.nb, h.nfr, h.nL, h.nC⟩
theorem Aside.fresh {a : Act} {c : Cfg} {σ : St} {ρ : Env} {s : Shared} {b : Addr} (I : Inv X a c σ ρ s) (q : s.heap.get? b = none) : Aside X a c σ b where
  nl l := by obtain ⟨o, e⟩ := I.r.rel.liveThere l; rw [q] at e; cases e
  nf f := by obtain ⟨o, e, _⟩ := I.r.rel.frz b f; rw [q] at e; cases e
  nb := by
    cases e : X.base.get? b with
    | none => rfl
    | some o => rw [I.r.rel.base _ _ e] at q; cases q
  nfr hf := by obtain ⟨o, _, _, e, _⟩ := I.r.fro b hf; rw [q] at e; cases e
  nL := by
    rintro rfl
    obtain ⟨m, ⟨o, _, _, e, _⟩, _⟩ := I.env.ns
    rw [q] at e; cases e
  nC x y h := by
    rintro rfl
    obtain ⟨v, o, e, _⟩ := I.env.cells x b h
    rw [q] at e; cases e

theorem but_evo' {fr : List Addr} {own : Addr → Prop} {c : Cfg} {σ : St} {s : Shared} {h' : Heap} {L : Addr} (ho : own L) (hs : Heap.SameBut L s.heap h') (hL : ∃ o, h'.get? L = some o ∧ ∀ vs, o.data ≠ .fields vs) (t : Nat) : EvoO own fr c σ s c σ { s with heap := h', toks := t } where
  same b o e _ no _ := (hs.2 b (by rintro rfl; exact no ho)).trans e
  frs b o e _ no _ := ⟨o.slots, (hs.2 b (by rintro rfl; exact no ho)).trans e⟩
  exist b o e := by
    by_cases q : b = L
    · subst q; exact ⟨_, hL.choose_spec.1⟩
    · exact ⟨o, (hs.2 b q).trans e⟩
  lives _ l := .inl l
  mu _ _ e := e
  frz _ f := f
  newf _ f := .inl f
  gens := rfl
  os := rfl

theorem Aside.vrep {a : Act} {c : Cfg} {σ : St} {h h' : Heap} {b : Addr} (ab : Aside X a c σ b) (hs : Heap.SameBut b h h') {w' : Value} {w : V} (r : VRep X c h w' w) : VRep X c h' w' w :=
  VRep.mono (fun _ _ e => e) (fun _ f => f) (fun d ob f e => (hs.2 d (by rintro rfl; exact ab.nf f)).trans e) w r
theorem Aside.vreps {a : Act} {c : Cfg} {σ : St} {h h' : Heap} {b : Addr} (ab : Aside X a c σ b) (hs : Heap.SameBut b h h') {w' : List Value} {w : List V} (r : VReps X c h w' w) : VReps X c h' w' w :=
  VReps.mono (fun _ _ e => e) (fun _ f => f) (fun d ob f e => (hs.2 d (by rintro rfl; exact ab.nf f)).trans e) w r

theorem Inv.aside {a : Act} {c : Cfg} {σ : St} {ρ : Env} {s : Shared} {b : Addr} {h' : Heap} (I : Inv X a c σ ρ s) (ab : Aside X a c σ b) (hs : Heap.SameBut b s.heap h') (hL : ∃ o, h'.get? b = some o ∧ ∀ vs, o.data ≠ .fields vs) (t : Nat) : Inv X a c σ ρ { s with heap := h', toks := t } := by
  refine ⟨⟨I.r.rel.but ab.nl ab.nf ab.nb hs hL, fun f hf => ?_, I.r.frl⟩, ?_⟩
  · obtain ⟨o, es, ep, e, d⟩ := I.r.fro f hf
    exact ⟨o, es, ep, (hs.2 f (by rintro rfl; exact ab.nfr hf)).trans e, d⟩
  · exact {
      kind := I.env.kind, glob := I.env.glob, blt := I.env.blt, nodup := I.env.nodup, len := I.env.len
      ns := by
        obtain ⟨m, hm, h⟩ := I.env.ns
        exact ⟨m, hm.sameBut hs (Ne.symm ab.nL), fun j y w h1 h2 h3 => let ⟨w', e, z⟩ := h j y w h1 h2 h3; ⟨w', e, ab.vrep hs z⟩⟩
      cells := fun y d e => let ⟨w, hw⟩ := I.env.cells y d e; ⟨w, hw.sameBut hs (Ne.symm (ab.nC y d e))⟩
      cell := fun j y w h1 h2 h3 => let ⟨d, w', e, z, u⟩ := I.env.cell j y w h1 h2 h3; ⟨d, w', e, z.sameBut hs (Ne.symm (ab.nC y d e)), ab.vrep hs u⟩
      apartL := I.env.apartL, apartC := I.env.apartC, inj := I.env.inj, has := I.env.has }
theorem EvoO.aside {own : Addr → Prop} {fr : List Addr} {c c' : Cfg} {σ σ' : St} {s s' : Shared} {b : Addr} {h' : Heap} (x : EvoO own fr c σ s c' σ' s') (hs : Heap.SameBut b s'.heap h') (hn : s.heap.get? b = none) (t : Nat) : EvoO own fr c σ s c' σ' { s' with heap := h', toks := t } where
  same d o e nl no nf := (hs.2 d (by rintro rfl; rw [hn] at e; cases e)).trans (x.same d o e nl no nf)
  frs d o e nl no hf := let ⟨sl, e'⟩ := x.frs d o e nl no hf; ⟨sl, (hs.2 d (by rintro rfl; rw [hn] at e; cases e)).trans e'⟩
  exist d o e := let ⟨o', e'⟩ := x.exist d o e; ⟨o', (hs.2 d (by rintro rfl; rw [hn] at e; cases e)).trans e'⟩
  lives := x.lives
  mu := x.mu
  frz := x.frz
  newf := x.newf
  gens := x.gens
  os := x.os

/-! the closure's cells -/
noncomputable def clGo (env : PySem.Env) : List (Str × NameKind) → List (Str × Addr) → List (Str × Addr)
  | [], cs => cs
  | (n, k) :: r, cs => clGo env r (if k == .free then (n, (env.cells.lookup n).getD 0) :: cs else cs)
theorem closure_eq {scope : Scope} {env : PySem.Env} (h : ∀ p ∈ scope.names, p.2 = .free → ∃ b, env.cells.lookup p.1 = some b) : closureFor scope env = pure (clGo env scope.names []) := by
  unfold closureFor
  have key : ∀ (l : List (Str × NameKind)) (cs : List (Str × Addr)), (∀ p ∈ l, p.2 = .free → ∃ b, env.cells.lookup p.1 = some b) →
      (forIn (m := Sem) l cs fun x r => match x with | (name, kind) => if (kind == NameKind.free) = true then do let __do_lift ← cellOf env name; pure (ForInStep.yield ((name, __do_lift) :: r)) else pure (ForInStep.yield r)) = (pure (clGo env l cs) : Sem _) := by
    intro l
    induction l with
    | nil => intro cs _; rfl
    | cons p r ih =>
      intro cs hp
      obtain ⟨n, k⟩ := p
      have ihr := fun cs => ih cs (fun q hq => hp q (List.mem_cons_of_mem _ hq))
      rw [List.forIn_cons]
      by_cases hk : k = .free
      · subst hk
        obtain ⟨b, hb⟩ := hp (n, .free) (List.mem_cons_self ..) rfl
        have e1 : (if (NameKind.free == NameKind.free) = true then (do let d ← cellOf env n; pure (ForInStep.yield ((n, d) :: cs))) else pure (ForInStep.yield cs) : Sem (ForInStep (List (Str × Addr)))) = pure (ForInStep.yield ((n, b) :: cs)) := by
          have hc : cellOf env n = pure b := by unfold cellOf; rw [hb]
          rw [hc]; rfl
        refine (congrArg (· >>= _) e1).trans ?_
        refine (ihr ((n, b) :: cs)).trans ?_
        simp [clGo, hb]
      · have hb : (k == NameKind.free) = false := by simpa using hk
        have e1 : (if (k == NameKind.free) = true then (do let d ← cellOf env n; pure (ForInStep.yield ((n, d) :: cs))) else pure (ForInStep.yield cs) : Sem (ForInStep (List (Str × Addr)))) = pure (ForInStep.yield cs) := by rw [hb]; rfl
        refine (congrArg (· >>= _) e1).trans ?_
        refine (ihr cs).trans ?_
        simp [clGo, hb]
  have := key scope.names [] h
  simp only [this, pure_bind]
theorem clGo_sound {env : PySem.Env} : ∀ (l : List (Str × NameKind)) (cs : List (Str × Addr)), (∀ p ∈ l, p.2 = .free → ∃ b, env.cells.lookup p.1 = some b) → (∀ y b, cs.lookup y = some b → env.cells.lookup y = some b) → ∀ y b, (clGo env l cs).lookup y = some b → env.cells.lookup y = some b
  | [], cs, _, h, y, b, e => h y b e
  | (n, k) :: r, cs, hp, h, y, b, e => by
    refine clGo_sound r _ (fun q hq => hp q (List.mem_cons_of_mem _ hq)) (fun y' b' e' => ?_) y b e
    by_cases hk : k = .free
    · subst hk
      obtain ⟨d, hd⟩ := hp (n, .free) (List.mem_cons_self ..) rfl
      simp only [beq_self_eq_true, if_true, List.lookup_cons, hd, Option.getD_some] at e'
      cases hy : y' == n with
      | true => rw [hy] at e'; have : y' = n := by simpa using hy
                subst this; simp at e'; rw [hd, e']
      | false => rw [hy] at e'; exact h y' b' e'
    · have hb : (k == NameKind.free) = false := by simpa using hk
      simp only [hb, Bool.false_eq_true, if_false] at e'
      exact h y' b' e'
theorem clGo_has {env : PySem.Env} : ∀ (l : List (Str × NameKind)) (cs : List (Str × Addr)) (y : Str), ((y, NameKind.free) ∈ l ∨ ∃ b, cs.lookup y = some b) → ∃ b, (clGo env l cs).lookup y = some b
  | [], cs, y, h => by rcases h with h | h; · cases h
                       · exact h
  | (n, k) :: r, cs, y, h => by
    unfold clGo
    refine clGo_has r _ y ?_
    rcases h with h | ⟨b, h⟩
    · rcases List.mem_cons.mp h with h | h
      · cases h; right; simp
      · exact .inl h
    · right
      split
      · rw [List.lookup_cons]
        cases hy : y == n with
        | true => exact ⟨_, rfl⟩
        | false => exact ⟨b, h⟩
      · exact ⟨b, h⟩

/-- the names of a comprehension's own block -/
noncomputable def relabelS (scope outer : Scope) : Scope :=
  { scope with names := scope.names.map fun (n, k) => if (k == .free && outer.kind == .function && outer.names.lookup n == some .cell) then (n, .cell) else (n, k) }
theorem relabel_eq (scope : Scope) (env : PySem.Env) : relabel scope env = relabelS scope env.scope := rfl

/-- a comprehension's block within D: x its one name -/
structure CompDom (D D' : Dom) (scope : Scope) (x : Str) : Prop where
  kind : scope.kind = .function
  sc : D'.sc = relabelS scope D.sc
  n : D'.n = D.n
  rs : D'.rs = D.rs
  nodup : D'.names.Nodup
  len : D'.names.length = D.names.length + 1
  last : D'.names[D.names.length]? = some x
  loc : D'.sc.names.lookup x = some .local
  locs : ∀ (i : Nat) (y : Str), D'.names[i]? = some y → D'.sc.names.lookup y = some .local → y = x
  free : ∀ (i : Nat) (y : Str), D'.names[i]? = some y → (D'.sc.names.lookup y = some .cell ∨ D'.sc.names.lookup y = some .free) → (y, NameKind.free) ∈ scope.names ∧ D.names[i]? = some y ∧ D.sc.names.lookup y = some .cell
  frees : ∀ p ∈ scope.names, p.2 = .free → D.sc.names.lookup p.1 = some .cell
  cells : ∀ p ∈ scope.names, p.2 ≠ .cell
  hasc : ∀ y : Str, D'.sc.names.lookup y = some .cell → (y, NameKind.free) ∈ scope.names
  names : ∀ p ∈ scope.names, p.2 = .local → scope.names.lookup p.1 = some .local

noncomputable def cenvOf (scope : Scope) (C : Addr) (env : PySem.Env) : PySem.Env :=
  { scope := relabel scope env, locals := C, globals := env.globals, cells := clGo env scope.names [], qual := env.qual, func := none, code := env.code, frame := env.frame, builtins := env.builtins }

theorem CompDom.clos {D' : Dom} {scope : Scope} {x : Str} {a : Act} {c : Cfg} {σ : St} {ρ : Env} {s : Shared} (cd : CompDom D D' scope x) (ok : ActOk D a) (I : Inv X a c σ ρ s) : ∀ p ∈ scope.names, p.2 = .free → ∃ b, a.env.cells.lookup p.1 = some b :=
  fun p hp hf => I.env.has p.1 (by unfold Env.kindOf; rw [ok.sc]; exact cd.frees p hp hf)

theorem EnvOk.comp {D' : Dom} {scope : Scope} {x : Str} {a : Act} {c : Cfg} {σ : St} {ρ : Env} {s : Shared} {C : Addr} {m : Str → Option Value} (cd : CompDom D D' scope x) (ok : ActOk D a) (I : Inv X a c σ ρ s) (hC : Aside X a c σ C) (hm : s.heap.Ns C m) : EnvOk X c σ s.heap (cenvOf scope C a.env) D'.names (ρ ++ [none]) := by
  have hcl := cd.clos ok I
  have hk : ∀ y, (cenvOf scope C a.env).kindOf y = D'.sc.names.lookup y := fun y => by
    unfold Env.kindOf cenvOf; rw [cd.sc, ← ok.sc]; rfl
  have hlen : ρ.length = D.names.length := by rw [I.env.len, ok.names]
  have hsound := clGo_sound (env := a.env) scope.names [] hcl (by intro y b h; simp at h)
  exact {
    kind := cd.kind, glob := I.env.glob, blt := I.env.blt, nodup := cd.nodup
    len := by simp [hlen, cd.len]
    ns := ⟨m, hm, fun i y w h1 h2 h3 => by
      rw [hk] at h3
      have := cd.locs i y h1 h3; subst this
      have hi : i = D.names.length := (List.getElem?_inj (List.getElem?_eq_some_iff.mp h1).1 cd.nodup).mp (h1.trans cd.last.symm)
      subst hi
      rw [← hlen] at h2; simp at h2⟩
    cells := fun y b h => I.env.cells y b (hsound y b h)
    cell := fun i y w h1 h2 h3 => by
      rw [hk] at h3
      obtain ⟨f1, f2, f3⟩ := cd.free i y h1 h3
      have hi : i < ρ.length := by rw [hlen]; exact (List.getElem?_eq_some_iff.mp f2).1
      rw [List.getElem?_append_left hi] at h2
      obtain ⟨b, w', e, z, u⟩ := I.env.cell i y w (by rw [ok.names]; exact f2) h2 (.inl (by unfold Env.kindOf; rw [ok.sc]; exact f3))
      obtain ⟨b', hb'⟩ := clGo_has (env := a.env) scope.names [] y (.inl f1)
      have := hsound y b' hb'
      rw [e] at this; cases this
      exact ⟨b, w', hb', z, u⟩
    apartL := ⟨hC.nl, hC.nb⟩
    apartC := fun y b h => I.env.apartC y b (hsound y b h)
    inj := fun y z b h1 h2 => I.env.inj y z b (hsound y b h1) (hsound z b h2)
    has := fun y h => clGo_has scope.names [] y (.inl (cd.hasc y (by rw [← hk]; exact h))) }

noncomputable def cact (a : Act) (D' : Dom) (scope : Scope) (C : Addr) : Act := { A := a.A, env := cenvOf scope C a.env, names := D'.names, envs := a.envs }
theorem cact_ok {D' : Dom} {scope : Scope} {x : Str} {a : Act} {C : Addr} (cd : CompDom D D' scope x) (ok : ActOk D a) : ActOk D' (cact a D' scope C) where
  sc := by show relabel scope a.env = _; rw [relabel_eq, cd.sc, ok.sc]
  names := rfl
  room := by rw [cd.n]; exact ok.room
  hd h := ok.hd (by rw [← cd.rs]; exact h)
  frames := ok.frames
  kinds := ok.kinds
  top := ok.top

theorem store_comp {a : Act} {c : Cfg} {σ : St} {ρ : Env} {s : Shared} {x : Str} {i : Nat} {v' : Value} {v : V} (I : Inv X a c σ ρ s) (hi : a.names[i]? = some x) (hk : a.env.kindOf x = some .local) (r : VRep X c s.heap v' v) {Ex : Value → Shared → Prop} :
    wpAny (model X.prog X.w) a.A (storeName a.env x v') (fun _ s' => Inv X a c σ (ρ.set i (some v)) s' ∧ ∃ h' t m', s' = { s with heap := h', toks := t } ∧ Heap.SameBut a.env.locals s.heap h' ∧ h'.Ns a.env.locals m') Ex s := by
  obtain ⟨m, hm, h⟩ := I.env.ns
  refine wpAny_storeName_local hk hm (fun h' hn hs => ?_) (by rw [I.env.kind]; rfl)
  have hL : ∃ o, h'.get? a.env.locals = some o ∧ ∀ vs, o.data ≠ .fields vs := let ⟨o, _, _, e, d, _⟩ := hn; ⟨o, e, fun vs q => by rw [d] at q; cases q⟩
  have nf := I.r.rel.dictNotFrz hm
  have R' := I.r.rel.but I.env.apartL.1 nf I.env.apartL.2 hs hL
  have mono : ∀ {w' : Value} {w : V}, VRep X c s.heap w' w → VRep X c h' w' w := fun {w' w} q => VRep.mono (fun _ _ e => e) (fun _ f => f) (fun b ob f e => (hs.2 b (by rintro rfl; exact nf f)).trans e) w q
  refine ⟨⟨⟨R', fun f hf => ?_, I.r.frl⟩, ?_⟩, h', _, _, rfl, hs, hn⟩
  · by_cases q : f = a.env.locals
    · subst q
      obtain ⟨o, es, ep, e, d, _⟩ := hn
      exact ⟨o, es, ep, e, d⟩
    · obtain ⟨o, es, ep, e, d⟩ := I.r.fro f hf
      exact ⟨o, es, ep, (hs.2 f q).trans e, d⟩
  · exact {
      kind := I.env.kind, glob := I.env.glob, blt := I.env.blt, nodup := I.env.nodup
      len := by rw [List.length_set]; exact I.env.len
      ns := ⟨_, hn, fun j y w h1 h2 h3 => by
        rcases set_get h2 with ⟨rfl, q⟩ | ⟨ne, q⟩
        · cases q
          rw [hi] at h1; cases h1
          exact ⟨v', by simp, mono r⟩
        · obtain ⟨w', e, z⟩ := h j y w h1 q h3
          refine ⟨w', ?_, mono z⟩
          have : y ≠ x := by
            rintro rfl
            exact ne ((List.getElem?_inj (List.getElem?_eq_some_iff.mp hi).1 I.env.nodup).mp (hi.trans h1.symm))
          simp [this, e]⟩
      cells := fun y b e => by
        obtain ⟨w, hw⟩ := I.env.cells y b e
        exact ⟨w, hw.sameBut hs (cell_ne_ns hw hm)⟩
      cell := fun j y w h1 h2 h3 => by
        rcases set_get h2 with ⟨rfl, q⟩ | ⟨ne, q⟩
        · rw [hi] at h1; cases h1
          rw [hk] at h3; rcases h3 with h3 | h3 <;> cases h3
        · obtain ⟨b, w', e, z, u⟩ := I.env.cell j y w h1 q h3
          exact ⟨b, w', e, z.sameBut hs (cell_ne_ns z hm), mono u⟩
      apartL := I.env.apartL, apartC := I.env.apartC, inj := I.env.inj, has := I.env.has }
end
end Mine
end

section
namespace Mine
open PySem PyProof.Rows

section
variable {M : Model} {A : Around} {E : Value → Shared → Prop} {s : Shared} {env : PySem.Env}

noncomputable def afterComp (M : Model) (A : Around) (E : Value → Shared → Prop) (use : Option (Value → Sem Unit)) (Q : Value → Shared → Prop) (acc : Value) (cenv : PySem.Env) (r : Result) (s' : Shared) : Prop :=
  match r, use with
  | .ok _, none => ∃ m, s'.heap.Ns cenv.locals m ∧ ∀ h' m', h'.Ns cenv.locals m' → Heap.SameBut cenv.locals s'.heap h' → Q acc { s' with heap := h' }
  | .ok _, some u => wpAny M A (u acc) (fun _ s'' => ∃ m, s''.heap.Ns cenv.locals m ∧ ∀ h' m', h'.Ns cenv.locals m' → Heap.SameBut cenv.locals s''.heap h' → Q .none { s'' with heap := h' }) E s'
  | .error x, _ => ∃ m, s'.heap.Ns cenv.locals m ∧ ∀ h' m', h'.Ns cenv.locals m' → Heap.SameBut cenv.locals s'.heap h' → wpAny M A (PySem.passOn "comprehension.variables-let-go" x cenv : Sem Value) (fun _ _ => False) E { s' with heap := h' }

theorem comp_rule {e : Expr} {scope : Scope} {pos : Pos} {newAcc first : Sem Value} {g : Comprehension} {gs : List Comprehension} {cl : List (Str × Addr)} {use : Option (Value → Sem Unit)} {Q : Value → Shared → Prop}
    (hcl : clausesOf e = g :: gs) (hs : ∀ x, foldedSetIterable g.iter env x = pure x) (hclos : closureFor scope env = pure cl)
    (hkind : scope.kind = .function) (hnames : ∀ x ∈ scope.names, x.2 = .local → scope.names.lookup x.1 = some .local)
    (h : wpAny M A first (fun x s₁ => wpAny M A (pyIter x) (fun it s₂ => wpAny M A newAcc (fun acc s₃ =>
      wpAny M A (newFunctionEnv scope env.globals cl [] env.qual none .none (some env)) (fun cenv s₄ =>
        codeAny M A (.compStart e 0 it acc { cenv with scope := relabel scope env }) (afterComp M A E use Q acc { cenv with scope := relabel scope env }) s₄) E s₃) E s₂) E s₁) E s) :
    wpAny M A (comprehension e scope env pos newAcc false first use) Q E s := by
  unfold comprehension
  rw [hclos, hcl]
  refine wpAny_bind (wpAny_mono h (fun x s₁ h₁ => wpAny_bind (wpAny_standAt (wpAny_bind (wpAny_of_eq (hs x) (wpAny_bind (wpAny_holding (wpAny_mono h₁ (fun it s₂ h₂ =>
    wpAny_standIf (wpAny_bind (wpAny_mono h₂ (fun acc s₃ h₃ => wpAny_bind (wpAny_pure (wpAny_bind (wpAny_mono h₃ (fun cenv s₄ h₄ => ?_) fun _ _ h' => h')))) fun _ _ h' => h')))
      fun _ _ h' => h'))))))) fun _ _ h' => h')
  dsimp only
  have hv : ∀ x ∈ (scope.names.filter fun x => (x.2 == .local || x.2 == .cell) && x.1 != (".0" : Str)).reverse, x.2 = .local →
      Env.kindOf { cenv with scope := relabel scope env } x.1 = some .local := fun x hx hl => lookup_relabel_local (hnames x (List.mem_filter.mp (List.mem_reverse.mp hx)).1 hl)
  have hv' : ∀ x ∈ (scope.names.filter fun x => (x.2 == .local || x.2 == .cell) && x.1 != (".0" : Str)).reverse.drop 1 ++ (scope.names.filter fun x => (x.2 == .local || x.2 == .cell) && x.1 != (".0" : Str)).reverse.take 1,
      x.2 = .local → Env.kindOf { cenv with scope := relabel scope env } x.1 = some .local := fun x hx hl => by
    rcases List.mem_append.mp hx with h1 | h1
    · exact hv x (List.mem_of_mem_drop h1) hl
    · exact hv x (List.mem_of_mem_take h1) hl
  refine wpAny_holding (wpAny_bind (wpAny_attempt (wpAny_holding (wpAny_run (codeAny_mono h₄ fun r s' hr => ?_)))))
  cases r with
  | ok f =>
    cases use with
    | none =>
      obtain ⟨m, hn, hr⟩ := hr
      exact wpAny_bind (wpAny_holding (wpAny_comp_letGo (cenv := { cenv with scope := relabel scope env }) hkind _ s' m hv hn fun h' m' hn' hs' => wpAny_pure (hr h' m' hn' hs')))
    | some u =>
      refine wpAny_bind (wpAny_rule (wpAny_bind (wpAny_holding (wpAny_mono hr (fun _ s'' hr' => ?_) fun _ _ h' => h'))))
      obtain ⟨m, hn, hr'⟩ := hr'
      exact wpAny_bind (wpAny_comp_letGo (cenv := { cenv with scope := relabel scope env }) hkind _ s'' m hv' hn fun h' m' hn' hs' => wpAny_pure (hr' h' m' hn' hs'))
  | error x =>
    have hr' : ∃ m, s'.heap.Ns cenv.locals m ∧ ∀ h' m', h'.Ns cenv.locals m' → Heap.SameBut cenv.locals s'.heap h' → wpAny M A (PySem.passOn "comprehension.variables-let-go" x { cenv with scope := relabel scope env } : Sem Value) (fun _ _ => False) E { s' with heap := h' } := by cases use <;> exact hr
    obtain ⟨m, hn, hr⟩ := hr'
    exact wpAny_bind (wpAny_holding (wpAny_comp_letGo (cenv := { cenv with scope := relabel scope env }) hkind _ s' m hv hn fun h' m' hn' hs' => wpAny_mono (hr h' m' hn' hs') (fun _ _ f => f.elim) fun _ _ y => y))
end

section
variable {X : Ctx} {D : Dom}

/-- a list that nobody else holds is frozen -/
theorem Inv.freezeList {a : Act} {c c₀ : Cfg} {σ σ₀ : St} {ρ : Env} {s s₀ : Shared} {b : Addr} {items : Array Value} {n : Nat} {vs : List V} (I : Inv X a c σ ρ s) (ab : Aside X a c σ b) (e : s.heap.get? b = some (lstObj items n)) (r : VReps X c s.heap items.toList vs) (x : Evo a.fr c₀ σ₀ s₀ c σ s) (hn : s₀.heap.get? b = none) (hlen : vs.length ≤ LIM) :
    Inv X a (c.freeze b) σ ρ s ∧ Evo a.fr c₀ σ₀ s₀ (c.freeze b) σ s ∧ VRep X (c.freeze b) s.heap (.ref b) (.lst vs) := by
  have mono : ∀ {w' : Value} {w : V}, VRep X c s.heap w' w → VRep X (c.freeze b) s.heap w' w := fun {w' w} q => VRep.mono (c := c) (c' := c.freeze b) (fun _ _ e => e) (fun _ f => Or.inl f) (fun _ _ _ e => e) w q
  refine ⟨⟨⟨⟨I.r.rel.len, I.r.rel.nd, I.r.rel.there, fun l o d h1 h2 h3 => ?_, fun d f => ?_, I.r.rel.base⟩, I.r.fro, I.r.frl⟩, ?_⟩, ?_, ?_⟩
  · obtain ⟨n1, n2, n3⟩ := I.r.rel.obj l o d h1 h2 h3
    refine ⟨?_, n2, ObjRep.mono (c := c) (c' := c.freeze b) (fun _ _ e => e) (fun _ f => Or.inl f) (fun _ _ _ e => e) (fun _ e => e) o n3⟩
    rintro (f | rfl)
    · exact n1 f
    · exact ab.nl ⟨l, o, h3, h1, h2⟩
  · rcases f with f | rfl
    · exact I.r.rel.frz d f
    · exact ⟨_, e, frzOk_lst _ _⟩
  · exact {
      kind := I.env.kind, glob := I.env.glob, blt := I.env.blt, nodup := I.env.nodup, len := I.env.len
      ns := by
        obtain ⟨m, hm, h⟩ := I.env.ns
        exact ⟨m, hm, fun j y w h1 h2 h3 => let ⟨w', e, z⟩ := h j y w h1 h2 h3; ⟨w', e, mono z⟩⟩
      cells := I.env.cells
      cell := fun j y w h1 h2 h3 => let ⟨d, w', e, z, u⟩ := I.env.cell j y w h1 h2 h3; ⟨d, w', e, z, mono u⟩
      apartL := I.env.apartL, apartC := I.env.apartC, inj := I.env.inj, has := I.env.has }
  · exact ⟨x.same, x.frs, x.exist, x.lives, x.mu, fun d f => .inl (x.frz d f), fun d f => by
      rcases f with f | rfl
      · exact x.newf d f
      · exact .inr (.inr hn), x.gens, x.os⟩
  · simp only [VRep]
    exact ⟨b, items, n, rfl, .inr rfl, e, VReps.mono (c := c) (c' := c.freeze b) (fun _ _ e => e) (fun _ f => Or.inl f) (fun _ _ _ e => e) vs r, hlen⟩

structure CFree (X : Ctx) (a : Act) (c' : Cfg) (σ' : St) (s s' : Shared) (C : Addr) : Prop where
  as : Aside X a c' σ' C
  new : s.heap.get? C = none
  ns : ∃ m, s'.heap.Ns C m

noncomputable def CompPost (X : Ctx) (a : Act) (c : Cfg) (σ : St) (ρ : Env) (s : Shared) (o : Out V) (acc : Value) (C : Addr) (s' : Shared) : Prop :=
  ∃ v σ' c', o = .ok v σ' ∧ Inv X a c' σ' ρ s' ∧ Evo a.fr c σ s c' σ' s' ∧ VRep X c' s'.heap acc v ∧ CFree X a c' σ' s s' C
noncomputable def CompExc (X : Ctx) (L : Addr) (a : Act) (c : Cfg) (σ : St) (ρ : Env) (s : Shared) (o : Out V) (e' : Value) (C : Addr) (s' : Shared) : Prop :=
  ∃ k σ' c' e, o = .exc k σ' ∧ e' = .ref e ∧ Inv X a c' σ' ρ s' ∧ Evo a.fr c σ s c' σ' s' ∧ ExcH X c' (rawInt L) s.heap s'.heap k e ∧ CFree X a c' σ' s s' C

theorem nsThere {h : Heap} {C : Addr} {m : Str → Option Value} (hn : h.Ns C m) : ∃ o, h.get? C = some o ∧ ∀ vs, o.data ≠ .fields vs := let ⟨o, _, _, e, d, _⟩ := hn; ⟨o, e, fun vs q => by rw [d] at q; cases q⟩
theorem plainThere {h : Heap} {C : Addr} {xs : Array Value} (hn : h.PlainList C xs) : ∃ o, h.get? C = some o ∧ ∀ vs, o.data ≠ .fields vs := let ⟨n, e⟩ := hn; ⟨_, e, fun vs q => by cases q⟩

theorem CompExc.pass {a : Act} {c : Cfg} {σ : St} {ρ : Env} {s s' : Shared} {o : Out V} {e' : Value} {C L : Addr} {cenv : PySem.Env} (R : Rel X c σ s.heap) (hL : a.env.frame = some L) (hf : cenv.frame = a.env.frame) (p : CompExc X L a c σ ρ s o e' C s') {h' : Heap} {m' : Str → Option Value} (hn' : h'.Ns C m') (hs : Heap.SameBut C s'.heap h') :
    wpAny (model X.prog X.w) a.A (PySem.passOn "comprehension.variables-let-go" e' cenv : Sem Value) (fun _ _ => False) (ExPost X a c σ ρ s o) { s' with heap := h' } := by
  obtain ⟨k, σ', c', e, h1, rfl, i, x, z, cf⟩ := p
  exact z.elim
end
end Mine
end

section
namespace Mine
open PySem PyProof.Rows

section
variable {X : Ctx} {D : Dom}

/-- the clauses' tests -/
noncomputable def SoundTs (X : Ctx) (D : Dom) (ifs : List Expr) (t : T) : Prop :=
  ∀ (a : Act) (c : Cfg) (σ : St) (ρ : Env) (s : Shared), ActOk D a → Inv X a c σ ρ s → t ρ σ ≠ .bad →
    wpAny (model X.prog X.w) a.A (forIn ifs true fun c r => if r = true then do let ok ← isTrue c a.env (eval c a.env); pure (ForInStep.yield ok) else pure (ForInStep.yield r)) (OkPostT X a c σ ρ s (t ρ σ)) (ExPost X a c σ ρ s (t ρ σ)) s
theorem sTs_nil : SoundTs X D [] tTrue := fun a c σ ρ s ok I nb => wpAny_tests_nil ⟨σ, c, rfl, I, EvoO.self⟩
structure CInv (X : Ctx) (a : Act) (c : Cfg) (σ : St) (ρ : Env) (s : Shared) (acc C : Addr) (i : Nat) (P : Nat → Cfg → St → Heap → Prop) (accvs : List V) (c' : Cfg) (σ' : St) (s' : Shared) : Prop where
  inv : Inv X a c' σ' ρ s'
  p : P i c' σ' s'.heap
  evo : Evo a.fr c σ s c' σ' s'
  lst : ∃ items, s'.heap.PlainList acc items ∧ VReps X c' s'.heap items.toList accvs
  aa : Aside X a c' σ' acc
  cf : CFree X a c' σ' s s' C
  na : s.heap.get? acc = none
  ne : acc ≠ C

theorem notFrzIt {fr : List Addr} {own : Addr → Prop} {c c' : Cfg} {σ σ' : St} {s s' : Shared} {it : Addr} {src : V} {P : Nat → Cfg → St → Heap → Prop} {i : Nat} (pr : Proto X fr it src P) (R : Rel X c σ s.heap) (p : P i c σ s.heap) (y : EvoO own fr c σ s c' σ' s') : ¬ c'.frz it := fun f => by
  have hr := (pr.rc _ _ _ _ p).1
  rcases y.newf it f with f | l | q
  · exact (pr.rc _ _ _ _ p).2 f
  · exact R.recNotLive hr l
  · obtain ⟨o, _, e, _⟩ := hr; rw [q] at e; cases e

/-- what the block's own expressions leave of the loop's state -/
theorem CInv.step {a : Act} {c : Cfg} {σ : St} {ρ : Env} {s : Shared} {acc C it : Addr} {src : V} {i : Nat} {P : Nat → Cfg → St → Heap → Prop} {accvs : List V} {c₁ c₂ : Cfg} {σ₁ σ₂ : St} {s₁ s₂ : Shared} (pr : Proto X a.fr it src P)
    (v : CInv X a c σ ρ s acc C i P accvs c₁ σ₁ s₁) (y : Evo a.fr c₁ σ₁ s₁ c₂ σ₂ s₂) (R : RInv X a.fr c₂ σ₂ s₂) : CInv X a c σ ρ s acc C i P accvs c₂ σ₂ s₂ := by
  obtain ⟨items, ⟨n, el⟩, vr⟩ := v.lst
  obtain ⟨m, hm⟩ := v.cf.ns
  obtain ⟨oC, eC, _⟩ := nsThere hm
  exact {
    inv := v.inv.evo y R
    p := pr.keep _ _ _ _ _ _ _ _ v.p v.inv.r y (fun _ _ h => h.elim) (fun _ _ h => h) (notFrzIt pr v.inv.r.rel v.p y)
    evo := v.evo.trans y
    lst := ⟨items, ⟨n, y.same acc _ el v.aa.nl id v.aa.nfr⟩, vr.evo y v.inv.r.rel v.inv.r.fro (fun _ _ => id)⟩
    aa := v.aa.evo y el
    cf := ⟨v.cf.as.evo y eC, v.cf.new, ⟨m, y.ns hm v.cf.as.nl⟩⟩
    na := v.na
    ne := v.ne }

theorem CInv.exc {D' : Dom} {a a' : Act} {c : Cfg} {σ : St} {ρ ρ' : Env} {s : Shared} {acc C it L : Addr} {src : V} {i : Nat} {P : Nat → Cfg → St → Heap → Prop} {accvs : List V} {c₁ : Cfg} {σ₁ : St} {s₁ s₂ : Shared} {α : Type} {o : Out α} {o' : Out V} {e' : Value} (R : Rel X c σ s.heap) (pr : Proto X a.fr it src P)
    (v : CInv X a c σ ρ s acc C i P accvs c₁ σ₁ s₁) (ok' : ActOk D' a') (ha : a'.A = a.A) (hfr : a'.fr = a.fr) (hL' : a'.env.frame = some L) (p : ExPost X a' c₁ σ₁ ρ' s₁ o e' s₂) (ho : ∀ k σ', o = .exc k σ' → o' = .exc k σ') :
    notedBy (model X.prog X.w) a.A a'.env (fun e s' => CompExc X L a c σ ρ s o' e C s') e' s₂ := by
  obtain ⟨k, σ', c', e, h1, rfl, i', x, z⟩ := p
  exact z.elim
/-- after a draw upon the iterator -/
theorem CInv.drawn {a : Act} {c : Cfg} {σ : St} {ρ : Env} {s : Shared} {acc C it : Addr} {src : V} {i : Nat} {P : Nat → Cfg → St → Heap → Prop} {accvs : List V} {c' : Cfg} {σ' : St} {s' : Shared} {h' : Heap} {t : Nat} (R : Rel X c σ s.heap) (pr : Proto X a.fr it src P) (hnew : s.heap.get? it = none)
    (v' : CInv X a c σ ρ s acc C i P accvs c' σ' s') (q : Quiet [it] a.fr s'.heap h') :
    Inv X a c' σ' ρ { s' with heap := h', toks := t } ∧ Evo a.fr c σ s c' σ' { s' with heap := h', toks := t } ∧ (∃ items nl, h'.get? acc = some (lstObj items nl) ∧ VReps X c' h' items.toList accvs) ∧ ∃ m, h'.Ns C m := by
  have hin' : ∀ b ∈ [it], s.heap.get? b = none := by intro b hb; rw [List.mem_singleton.mp hb]; exact hnew
  have hrc : ∀ b ∈ [it], IsRec s'.heap b := by intro b hb; rw [List.mem_singleton.mp hb]; exact (pr.rc _ _ _ _ v'.p).1
  have hnf : ∀ b ∈ [it], ¬ c'.frz b := by intro b hb; rw [List.mem_singleton.mp hb]; exact (pr.rc _ _ _ _ v'.p).2
  have hnb : ∀ b ∈ [it], X.base.get? b = none := by
    intro b hb; rw [List.mem_singleton.mp hb]
    cases q : X.base.get? it with
    | none => rfl
    | some ob => rw [R.base _ _ q] at hnew; cases hnew
  obtain ⟨items, ⟨nl, el⟩, vr⟩ := v'.lst
  obtain ⟨m, oC, es, ep, eC, d, rr⟩ := v'.cf.ns
  have hnotit : ∀ {b : Addr} {ob : Obj}, s'.heap.get? b = some ob → (∀ vs, ob.data ≠ .fields vs) → b ∉ [it] := fun {b ob} e d hx => by
    obtain ⟨o2, ws, e2, d2⟩ := hrc b hx
    rw [e] at e2; cases e2; exact d _ d2
  exact ⟨v'.inv.quiet q hrc hnf hnb, v'.evo.quiet q hin', ⟨items, nl, q.keep acc _ el (hnotit el fun ws q => by cases q) v'.aa.nfr, VReps.mono (fun _ _ e => e) (fun _ f => f) (fun b ob f e => q.keep b ob e (fun hx => hnf b hx f) (v'.inv.r.rel.frzNotFr v'.inv.r.fro f)) accvs vr⟩,
    m, oC, es, ep, q.keep C oC eC (hnotit eC fun ws q => by rw [d] at q; cases q) v'.cf.as.nfr, d, rr⟩

theorem comp_loop {D' : Dom} {scope : Scope} {x : Str} {px pos : Pos} {elt iter : Expr} {ifs : List Expr} {celt : E} {cifs : T} {a : Act} {c : Cfg} {σ : St} {ρ : Env} {s : Shared} {c₁ : Cfg} {σ₁ : St} {s₁ : Shared} {acc C it L : Addr} {src : V} {P : Nat → Cfg → St → Heap → Prop} {fuel : Nat} {o : Out V}
    (cd : CompDom D D' scope x) (ok : ActOk D a) (hrs : D.rs = true) (R : Rel X c σ s.heap) (hL : a.env.frame = some L) (pr : Proto X a.fr it src P) (hnew : s.heap.get? it = none)
    (he : SoundE X D' elt celt) (ht : SoundTs X D' ifs cifs) (v : CInv X a c σ ρ s acc C 0 P [] c₁ σ₁ s₁) (hf : fuel ≤ LIM + 1) (ho : compGo cifs celt src ρ fuel 0 [] σ₁ = o) (nb : o ≠ .bad) :
    codeAny (model X.prog X.w) a.A (.compLoop (.ListComp elt [⟨.Name x px, iter, ifs, 0⟩] scope pos) 0 (.ref it) (.ref acc) (cenvOf scope C a.env)) (fun r s' => match r with | .ok _ => CompPost X a c σ ρ s o (.ref acc) C s' | .error e => CompExc X L a c σ ρ s o e C s') s₁ := by
  refine codeAny_compLoop_tests (fun n s' => ∃ i accvs σ' c', CInv X a c σ ρ s acc C i P accvs c' σ' s' ∧ i + n ≤ LIM + 1 ∧ accvs.length ≤ i ∧ compGo cifs celt src ρ n i accvs σ' = o) ?_ fuel ⟨0, [], σ₁, c₁, v, by omega, by simp, ho⟩
  rintro n s' ⟨i, accvs, σ', c', v', hin, hal, ho'⟩
  cases n with
  | zero => unfold compGo at ho'; exact absurd ho'.symm nb
  | succ n =>
    unfold compGo at ho'
    cases hv : asIter σ' src with
    | none => rw [hv] at ho'; exact absurd ho'.symm nb
    | some vs =>
      rw [hv] at ho'
      simp only at ho'
      cases hx : vs[i]? with
      | none =>
        rw [hx] at ho'
        simp only at ho'
        refine wpAny_mono (pr.done a.A i c' σ' s' vs ok.room.p (ok.hd hrs) v'.inv.r v'.p hv hx) (fun r s₂ p => ?_) fun _ _ f => f.elim
        obtain ⟨h', t, rfl, rfl, q⟩ := p
        show CompPost _ _ _ _ _ _ _ _ _ _
        obtain ⟨I₂, x₂, ⟨items, nl, el₂, vr₂⟩, m, oC, es, ep, eC, d, rr⟩ := v'.drawn (t := t) R pr hnew q
        obtain ⟨I₃, x₃, r₃⟩ := I₂.freezeList v'.aa el₂ vr₂ x₂ v'.na (by omega)
        refine ⟨_, σ', _, ho'.symm, I₃, x₃, r₃, ⟨v'.cf.as.nl, ?_, v'.cf.as.nb, v'.cf.as.nfr, v'.cf.as.nL, v'.cf.as.nC⟩, v'.cf.new, m, oC, es, ep, eC, d, rr⟩
        rintro (f | f)
        · exact v'.cf.as.nf f
        · exact v'.ne f.symm
      | some y =>
        rw [hx] at ho'
        simp only at ho'
        refine wpAny_mono (pr.item a.A i c' σ' s' vs y ok.room.p v'.inv.r v'.p hv hx) (fun r s₂ p => ?_) fun _ _ f => f.elim
        obtain ⟨y', h', t, rfl, rfl, q, hp₂, r⟩ := p
        show wpAny _ _ (assign (.Name x px) (cenvOf scope C a.env) y') _ _ _
        obtain ⟨I₂, x₂, ⟨items, nl, el₂, vr₂⟩, m, hm₂⟩ := v'.drawn (t := t) R pr hnew q
        have IC : Inv X (cact a D' scope C) c' σ' (ρ ++ [none]) { s' with heap := h', toks := t } := ⟨I₂.r, EnvOk.comp cd ok I₂ v'.cf.as hm₂⟩
        have okC := cact_ok (C := C) cd ok
        rw [arm_assign_Name]
        have hlen : ρ.length = D.names.length := by rw [v'.inv.env.len, ok.names]
        have hkx : (cenvOf scope C a.env).kindOf x = some .local := by
          unfold Env.kindOf cenvOf; rw [show (relabel scope a.env) = D'.sc from by rw [relabel_eq, cd.sc, ok.sc]]; exact cd.loc
        refine wpAny_bind (wpAny_standAt (wpAny_bindName (wpAny_mono (store_comp (a := cact a D' scope C) IC (i := D.names.length) cd.last hkx r) (fun _ s₃ p₃ => ?_) fun _ _ q => q)))
        obtain ⟨I₃, h₃, t₃, m₃, rfl, hs₃, hn₃⟩ := p₃
        have hρ : (ρ ++ [none]).set D.names.length (some y) = ρ ++ [some y] := by rw [← hlen]; simp
        rw [hρ] at I₃
        have hC₃ := nsThere hn₃
        have v₃ : CInv X a c σ ρ s acc C (i + 1) P accvs c' σ' { s' with heap := h₃, toks := t₃ } := {
          inv := I₂.aside v'.cf.as hs₃ hC₃ _
          p := pr.keep _ _ _ _ _ _ _ (fun b => b = C) hp₂ I₂.r (but_evo' (own := fun b => b = C) (L := C) rfl hs₃ hC₃ t₃) (fun b ob hb e ws d => by subst hb; obtain ⟨o2, e2, k2⟩ := nsThere hm₂; rw [e] at e2; cases e2; exact k2 _ d) (fun b f hb => by subst hb; exact v'.cf.as.nf f) (pr.rc _ _ _ _ hp₂).2
          evo := x₂.aside hs₃ v'.cf.new _
          lst := ⟨items, ⟨nl, (hs₃.2 acc v'.ne).trans el₂⟩, v'.cf.as.vreps hs₃ vr₂⟩
          aa := v'.aa
          cf := ⟨v'.cf.as, v'.cf.new, m₃, hn₃⟩
          na := v'.na
          ne := v'.ne }
        have nb₃ : cifs (ρ ++ [some y]) σ' ≠ .bad := by intro e; rw [e] at ho'; exact nb ho'.symm
        refine wpAny_mono (ht (cact a D' scope C) c' σ' _ _ okC I₃ nb₃) (fun b s₄ p₄ => ?_) fun e' s₄ p₄ => CInv.exc (D' := D') (a' := cact a D' scope C) (o := cifs (ρ ++ [some y]) σ') (o' := o) R pr v₃ okC rfl rfl hL p₄ fun k σk ek => by rw [ek] at ho'; exact ho'.symm
        obtain ⟨σ₄, c₄, e₄, I₄, y₄⟩ := p₄
        rw [e₄] at ho'
        simp only [Out.ok_bind] at ho'
        have v₄ := v₃.step pr y₄ I₄.r
        cases b with
        | false =>
          rw [if_neg Bool.false_ne_true] at ho' ⊢
          exact ⟨n, Nat.lt_succ_self _, i + 1, accvs, σ₄, c₄, v₄, by omega, by omega, ho'⟩
        | true =>
          rw [if_pos rfl] at ho' ⊢
          have nb₄ : celt (ρ ++ [some y]) σ₄ ≠ .bad := by intro e; rw [e] at ho'; exact nb ho'.symm
          refine wpAny_mono (he (cact a D' scope C) c₄ σ₄ _ _ okC I₄ nb₄) (fun w' s₅ p₅ => ?_) fun e' s₅ p₅ => CInv.exc (D' := D') (a' := cact a D' scope C) (o := celt (ρ ++ [some y]) σ₄) (o' := o) R pr v₄ okC rfl rfl hL p₅ fun k σk ek => by rw [ek] at ho'; exact ho'.symm
          obtain ⟨w, σ₅, c₅, e₅, I₅, y₅, r₅⟩ := p₅
          rw [e₅] at ho'
          simp only [Out.ok_bind] at ho'
          have v₅ := v₄.step pr y₅ I₅.r
          obtain ⟨items₅, pl₅, vr₅⟩ := v₅.lst
          have hl₅ := vr₅.length
          refine wpAny_list_append_plain pl₅ (fun h₆ pl₆ hs₆ => ?_) (by rw [sizeLine_eq]; simp at hl₅; simp only [LIM] at *; omega)
          obtain ⟨m₅, hm₅⟩ := v₅.cf.ns
          refine ⟨n, Nat.lt_succ_self _, i + 1, accvs ++ [w], σ₅, c₅, ?_, by omega, by simp; omega, ho'⟩
          have hA := plainThere pl₆
          exact {
            inv := v₅.inv.aside v₅.aa hs₆ hA _
            p := pr.keep _ _ _ _ _ _ _ (fun b => b = acc) v₅.p v₅.inv.r (but_evo' (own := fun b => b = acc) (L := acc) rfl hs₆ hA s₅.toks) (fun b ob hb e ws d => by subst hb; obtain ⟨o2, e2, k2⟩ := plainThere pl₅; rw [e] at e2; cases e2; exact k2 _ d) (fun b f hb => by subst hb; exact v₅.aa.nf f) (pr.rc _ _ _ _ v₅.p).2
            evo := v₅.evo.aside hs₆ v₅.na _
            lst := ⟨_, pl₆, by rw [Array.toList_push]; exact VReps.append _ _ (v₅.aa.vreps hs₆ vr₅) (by simp only [VReps]; exact ⟨w', [], rfl, v₅.aa.vrep hs₆ r₅, rfl⟩)⟩
            aa := v₅.aa
            cf := ⟨v₅.cf.as, v₅.cf.new, m₅, hm₅.sameBut hs₆ (Ne.symm v₅.ne)⟩
            na := v₅.na
            ne := v₅.ne }
end
end Mine
end

section
namespace Mine
open PySem PyProof.Rows

section
variable {X : Ctx} {D : Dom}

theorem comp_core {D' : Dom} {scope : Scope} {x : Str} {px pos : Pos} {elt iter : Expr} {ifs : List Expr} {celt : E} {cifs : T} {a : Act} {c : Cfg} {σ : St} {ρ : Env} {s : Shared} {c₂ : Cfg} {σ₂ : St} {s₂ : Shared} {it L : Addr} {src : V} {P : Nat → Cfg → St → Heap → Prop} {fuel : Nat} {o : Out V} {Ex : Value → Shared → Prop} {RR : Value → PySem.Env → Result → Shared → Prop}
    (cd : CompDom D D' scope x) (ok : ActOk D a) (hrs : D.rs = true) (R : Rel X c σ s.heap) (hL : a.env.frame = some L) (pr : Proto X a.fr it src P) (hnew : s.heap.get? it = none)
    (he : SoundE X D' elt celt) (ht : SoundTs X D' ifs cifs) (I2 : Inv X a c₂ σ₂ ρ s₂) (x2 : Evo a.fr c σ s c₂ σ₂ s₂) (p0 : P 0 c₂ σ₂ s₂.heap) (hf : fuel ≤ LIM + 1) (ho : compGo cifs celt src ρ fuel 0 [] σ₂ = o) (nb : o ≠ .bad)
    (hok : ∀ acc C s', CompPost X a c σ ρ s o acc C s' → RR acc (cenvOf scope C a.env) (.ok .next) s') (hex : ∀ acc e C s', CompExc X L a c σ ρ s o e C s' → RR acc (cenvOf scope C a.env) (.error e) s') (hfl : ∀ acc ce f s', RR acc ce (.ok .next) s' → RR acc ce (.ok f) s') :
    wpAny (model X.prog X.w) a.A (newList []) (fun acc s₃ => wpAny (model X.prog X.w) a.A (newFunctionEnv scope a.env.globals (clGo a.env scope.names []) [] a.env.qual none .none (some a.env)) (fun cenv s₄ =>
      codeAny (model X.prog X.w) a.A (.compStart (.ListComp elt [⟨.Name x px, iter, ifs, 0⟩] scope pos) 0 (.ref it) acc { cenv with scope := relabel scope a.env }) (RR acc { cenv with scope := relabel scope a.env }) s₄) Ex s₃) Ex s₂ := by
  refine wpAny_newObj_type (wpAny_newFunctionEnv cd.cells (by intro y hy; simp at hy) (fun h₁ hns₁ hsb₁ => ?_) cd.kind)
  dsimp only at hns₁ hsb₁ ⊢
  generalize hA : ({ cls := .type "list", dict := none, data := .seq ([] : List Value).toArray } : Obj) = oA at hns₁ hsb₁ ⊢
  have hAl : oA = lstObj #[] 0 := by subst hA; rfl
  have hAf : oA.isFreed = false := by subst hA; rfl
  simp only [Option.isSome_some, if_true] at hsb₁
  generalize hCo : ({ cls := .type "dict", data := .dict #[] } : Obj) = oC at hsb₁
  generalize hC : (s₂.heap.push oA).objs.size = C at hns₁ hsb₁ ⊢
  have q₁ : Quiet [] a.fr s₂.heap (s₂.heap.push oA) := Quiet.push ..
  have I3 : Inv X a c₂ σ₂ ρ { s₂ with heap := s₂.heap.push oA } := I2.quiet (t := s₂.toks) q₁ (by simp) (by simp) (by simp)
  have x3 : Evo a.fr c σ s c₂ σ₂ { s₂ with heap := s₂.heap.push oA } := x2.quiet (t := s₂.toks) q₁ (by simp)
  have aA : Aside X a c₂ σ₂ s₂.heap.objs.size := Aside.fresh I2 (get?_size _)
  have aC : Aside X a c₂ σ₂ C := by rw [← hC]; exact Aside.fresh I3 (get?_size _)
  have q₂ : Quiet [] a.fr (s₂.heap.push oA) ((s₂.heap.push oA).push oC) := Quiet.push ..
  have I4 : Inv X a c₂ σ₂ ρ { s₂ with heap := (s₂.heap.push oA).push oC } := I3.quiet (t := s₂.toks) q₂ (by simp) (by simp) (by simp)
  have x4 : Evo a.fr c σ s c₂ σ₂ { s₂ with heap := (s₂.heap.push oA).push oC } := x3.quiet (t := s₂.toks) q₂ (by simp)
  have hCn : s.heap.get? C = none := by
    cases e : s.heap.get? C with
    | none => rfl
    | some ob => obtain ⟨o', e'⟩ := x3.exist _ _ e; rw [← hC] at e'; rw [show ({ s₂ with heap := s₂.heap.push oA } : Shared).heap = s₂.heap.push oA from rfl, get?_size] at e'; cases e'
  have hne : s₂.heap.objs.size ≠ C := by rw [← hC, Heap.size_push]; exact Nat.ne_of_lt (Nat.lt_succ_self _)
  have hth := nsThere hns₁
  have p3 : P 0 c₂ σ₂ ((s₂.heap.push oA).push oC) := by
    have y : Evo a.fr c₂ σ₂ s₂ c₂ σ₂ { s₂ with heap := (s₂.heap.push oA).push oC } := (EvoO.self).quiet (t := s₂.toks) (q₁.trans q₂) (by simp)
    exact pr.keep _ _ _ _ _ _ _ _ p0 I2.r y (fun _ _ h => h.elim) (fun _ _ h => h) (notFrzIt pr I2.r.rel p0 y)
  have hoC : ((s₂.heap.push oA).push oC).get? C = some oC := by rw [← hC]; exact Heap.get?_push_size _ (by subst hCo; rfl)
  have v : CInv X a c σ ρ s s₂.heap.objs.size C 0 P [] c₂ σ₂ { s₂ with heap := h₁, toks := s₂.toks + ([] : List (Str × Value)).length } := {
    inv := I4.aside aC hsb₁ hth _
    p := pr.keep _ _ _ { s₂ with heap := (s₂.heap.push oA).push oC } _ _ _ (fun b => b = C) p3 I4.r (but_evo' (own := fun b => b = C) (L := C) rfl hsb₁ hth _) (fun b ob hb e ws d => by subst hb; rw [hoC] at e; cases e; subst hCo; cases d) (fun b f hb => by subst hb; exact aC.nf f) (pr.rc _ _ _ _ p3).2
    evo := x4.aside hsb₁ hCn _
    lst := ⟨#[], ⟨0, (hsb₁.2 _ hne).trans (Heap.get?_push_of_some _ (by rw [show s₂.heap.push oA = s₂.heap.push (lstObj #[] 0) from by rw [hAl]]; exact Heap.get?_push_size _ rfl))⟩, by simp [VReps]⟩
    aa := aA
    cf := ⟨aC, hCn, _, hns₁⟩
    na := fresh_size x2
    ne := hne }
  have loop := comp_loop (px := px) (pos := pos) (iter := iter) cd ok hrs R hL pr hnew he ht v hf ho nb
  have loop' : codeAny (model X.prog X.w) a.A (.compLoop (.ListComp elt [⟨.Name x px, iter, ifs, 0⟩] scope pos) 0 (.ref it) (.ref s₂.heap.objs.size) (cenvOf scope C a.env)) (RR (.ref s₂.heap.objs.size) (cenvOf scope C a.env)) { s₂ with heap := h₁, toks := s₂.toks + ([] : List (Str × Value)).length } := by
    refine codeAny_mono loop fun r s' hr => ?_
    cases r with
    | ok f => exact hfl _ _ _ _ (hok _ _ _ hr)
    | error e => exact hex _ _ _ _ hr
  refine codeAny_compStart_list loop' (wpAny_mono (pr.self a.A 0 c₂ σ₂ _ v.p) (fun it' s' p => ?_) fun _ _ f => f.elim)
  obtain ⟨rfl, rfl⟩ := p
  exact loop'

theorem CompPost.go {a : Act} {c : Cfg} {σ : St} {ρ : Env} {s s' : Shared} {o : Out V} {acc : Value} {C : Addr} (p : CompPost X a c σ ρ s o acc C s') {h' : Heap} {m' : Str → Option Value} (hn' : h'.Ns C m') (hs : Heap.SameBut C s'.heap h') : OkPost X a c σ ρ s o acc { s' with heap := h' } := by
  obtain ⟨v, σ', c', h1, i, x, r, cf⟩ := p
  exact ⟨v, σ', c', h1, i.aside cf.as hs (nsThere hn') s'.toks, x.aside hs cf.new s'.toks, cf.as.vrep hs r⟩

theorem iterOk_of {ce : E} {ρ : Env} {σ : St} {f : V → List V → St → Out V} (nb : ((ce ρ σ).bind fun v σ => match asIter σ v with | none => Out.bad | some vs => f v vs σ) ≠ .bad) : IterOk (ce ρ σ) := by
  refine ⟨bind_ok_ne nb, fun v σ₁ e => ?_⟩
  rw [e] at nb
  simp only [Out.ok_bind] at nb
  cases h : asIter σ₁ v with
  | none => rw [h] at nb; exact absurd rfl nb
  | some vs => exact ⟨vs, rfl⟩

theorem sE_comp {D' : Dom} {scope : Scope} {x : Str} {px pos : Pos} {elt iter : Expr} {ifs : List Expr} {ci celt : E} {cifs : T} (cd : CompDom D D' scope x) (hrs : D.rs = true) (hfo : ∀ env v, foldedSetIterable iter env v = pure v) (hi : SoundI X D iter ci) (ht : SoundTs X D' ifs cifs) (he : SoundE X D' elt celt) : SoundE X D (.ListComp elt [⟨.Name x px, iter, ifs, 0⟩] scope pos) (comp ci cifs celt) := by
  intro a c σ ρ s ok I nb
  unfold comp at nb ⊢
  obtain ⟨e0, rest, L, _, _, hL⟩ := ok.top
  rw [eval_ListComp]
  refine comp_rule (use := none) rfl (hfo _) (closure_eq (cd.clos ok I)) cd.kind cd.names (wpAny_mono (hi a c σ ρ s ok I (iterOk_of (f := fun v vs σ => compGo cifs celt v ρ (vs.length + 1) 0 [] σ) nb)) (fun v' s₁ p₁ => wpAny_mono p₁ (fun it' s₂ p₂ => ?_) fun _ _ f => f.elim) fun e' s' p => p.bind)
  obtain ⟨v, σ₂, c₂, it, P, eq, rfl, I2, x2, hnew, pr, p0, hlen⟩ := p₂
  rw [eq] at nb ⊢
  simp only [Out.ok_bind] at nb ⊢
  cases hv : asIter σ₂ v with
  | none => rw [hv] at nb; exact absurd rfl nb
  | some vs =>
    rw [hv] at nb
    simp only at nb ⊢
    have hle := hlen vs hv
    · refine comp_core cd ok hrs I.r.rel hL pr hnew he ht I2 x2 p0 (by omega) rfl nb (fun acc C s' p => ?_) (fun acc e C s' p => ?_) (fun _ _ _ _ q => q)
      · have p' := p
        obtain ⟨_, _, _, _, _, _, _, cf⟩ := p'
        obtain ⟨m, hm⟩ := cf.ns
        exact ⟨m, hm, fun h' m' hn' hs' => p.go hn' hs'⟩
      · have p' := p
        obtain ⟨_, _, _, _, _, _, _, _, _, cf⟩ := p'
        obtain ⟨m, hm⟩ := cf.ns
        exact ⟨m, hm, fun h' m' hn' hs' => p.pass I.r.rel hL rfl hn' hs'⟩

end
end Mine
end

section
namespace Mine
open PySem PyProof.Rows

theorem lim_le {n m : Nat} (e : m = n) (h : n ≤ LIM) : m ≤ sizeLine := by rw [sizeLine_eq, e]; simp only [LIM] at h; omega
theorem lim_p63 {n m : Nat} (e : m = n) (h : n ≤ LIM) : (m : Int) < 9223372036854775808 := by rw [e]; simp only [LIM] at h; omega
section
variable {X : Ctx} {D : Dom}

theorem vrep_none {c : Cfg} {h : Heap} {v : Value} (r : VRep X c h v .none) : v = .none := by simpa only [VRep] using r
theorem vrep_bool {c : Cfg} {h : Heap} {v : Value} {b : Bool} (r : VRep X c h v (.bool b)) : v = .bool b := by simpa only [VRep] using r
theorem vrep_int {c : Cfg} {h : Heap} {v : Value} {b : Int} (r : VRep X c h v (.int b)) : ∃ t, v = .int b t := by simpa only [VRep] using r
theorem vrep_str {c : Cfg} {h : Heap} {v : Value} {b : List Nat} (r : VRep X c h v (.str b)) : (∃ t, v = .str ⟨b.toArray⟩ t) ∧ (∀ c ∈ b, c < 128) ∧ b.length ≤ LIM := by simpa only [VRep] using r
theorem vrep_tup {c : Cfg} {h : Heap} {v : Value} {vs : List V} (r : VRep X c h v (.tup vs)) : ∃ a items n, v = .ref a ∧ c.frz a ∧ h.get? a = some (tupObj items n) ∧ VReps X c h items.toList vs ∧ vs.length ≤ LIM := by simpa only [VRep] using r
theorem rep_int {c : Cfg} {h : Heap} {b : Int} {t : Tok} : VRep X c h (.int b t) (.int b) := by simp only [VRep]; exact ⟨t, rfl⟩
theorem rep_bool {c : Cfg} {h : Heap} {b : Bool} : VRep X c h (.bool b) (.bool b) := by simp only [VRep]
theorem rep_none {c : Cfg} {h : Heap} : VRep X c h .none .none := by simp only [VRep]
theorem rep_str {c : Cfg} {h : Heap} {b : List Nat} {t : Tok} (h1 : ∀ c ∈ b, c < 128) (h2 : b.length ≤ LIM) : VRep X c h (.str ⟨b.toArray⟩ t) (.str b) := by simp only [VRep]; exact ⟨⟨t, rfl⟩, h1, h2⟩

/-! ints -/
theorem p_mod : Prim2 X (binaryOp .Mod) pMod := by
  intro A fr c σ s a' b' a b ro I ra rb nb
  cases a with
  | int x =>
    cases b with
    | int y =>
      simp only [pMod] at nb ⊢
      split at nb
      · rename_i hb
        rw [if_pos hb]
        obtain ⟨t, rfl⟩ := vrep_int ra; obtain ⟨u, rfl⟩ := vrep_int rb
        have e : x.fmod y = x % y := Int.fmod_eq_emod_of_nonneg _ (Int.le_of_lt hb)
        exact mod_int' (Int.ne_of_gt hb) (by rw [e]; exact POk.plain I _ rep_int)
      · exact absurd rfl nb
    | _ => exact absurd rfl nb
  | _ => exact absurd rfl nb
theorem p_div : Prim2 X (binaryOp .FloorDiv) pDiv := by
  intro A fr c σ s a' b' a b ro I ra rb nb
  cases a with
  | int x =>
    cases b with
    | int y =>
      simp only [pDiv] at nb ⊢
      split at nb
      · rename_i hb
        rw [if_pos hb]
        obtain ⟨t, rfl⟩ := vrep_int ra; obtain ⟨u, rfl⟩ := vrep_int rb
        have e : x.fdiv y = x / y := Int.fdiv_eq_ediv_of_nonneg _ (Int.le_of_lt hb.1)
        exact floordiv_int (Int.ne_of_gt hb.1) (by rw [e]; exact POk.plain I _ rep_int) (.inl (PyProof.noPylong_small (by omega)))
      · exact absurd rfl nb
    | _ => exact absurd rfl nb
  | _ => exact absurd rfl nb
theorem short_bits {a : Int} (h : short a = true) : Builtin.Int.intBits a ≤ 64 := by
  simp only [short, decide_eq_true_eq] at h
  exact intBits_le_64 (by omega) (by omega)

theorem p_mul_int {A : Around} {fr : List Addr} {c : Cfg} {σ : St} {s : Shared} {x y : Int} {t u : Tok} (I : RInv X fr c σ s) (h : IntMulOk x y) :
    wpAny (model X.prog X.w) A (binaryOp .Mult (.int x t) (.int y u)) (POk X fr c σ s (.ok (.int (x * y)) σ)) (fun _ _ => False) s := P.mul_int (POk.plain I _ rep_int) h

/-! texts -/
theorem str_append (a b : List Nat) : (⟨a.toArray⟩ : Str) ++ ⟨b.toArray⟩ = ⟨(a ++ b).toArray⟩ := by
  show Str.append _ _ = _
  simp [Str.append]
theorem p_add_str {A : Around} {fr : List Addr} {c : Cfg} {σ : St} {s : Shared} {x y : List Nat} {t u : Tok} (I : RInv X fr c σ s) (hx : ∀ c ∈ x, c < 128) (hy : ∀ c ∈ y, c < 128) (hl : x.length + y.length ≤ LIM) :
    wpAny (model X.prog X.w) A (binaryOp .Add (.str ⟨x.toArray⟩ t) (.str ⟨y.toArray⟩ u)) (POk X fr c σ s (.ok (.str (x ++ y)) σ)) (fun _ _ => False) s := by
  have rep : ∀ {t : Tok} {h : Heap}, VRep X c h (.str ⟨(x ++ y).toArray⟩ t) (.str (x ++ y)) := rep_str (fun d hd => (List.mem_append.mp hd).elim (hx d) (hy d)) (by simpa using hl)
  refine P.add_str ?_
  by_cases h1 : x = []
  · subst h1
    exact POk.same I rep
  · by_cases h2 : y = []
    · subst h2
      have e : ((⟨x.toArray⟩ : Str).length == 0) = false := by simp [Str.length, h1]
      have e2 : ((⟨([] : List Nat).toArray⟩ : Str).length == 0) = true := rfl
      rw [e, e2]
      show POk X fr c σ s (.ok (.str (x ++ [])) σ) (.str ⟨x.toArray⟩ t) s
      have h := POk.same I (rep (t := t))
      rwa [List.append_nil] at h ⊢
    · have e : ((⟨x.toArray⟩ : Str).length == 0) = false := by simp [Str.length, h1]
      have e2 : ((⟨y.toArray⟩ : Str).length == 0) = false := by simp [Str.length, h2]
      rw [e, e2, str_append]
      refine ⟨?_, POk.plain I _ rep⟩
      simp only [Str.length, List.size_toArray, List.length_append]
      rw [sizeLine_eq]; simp only [LIM] at hl; omega

theorem foldl_reps (x : List Nat) : ∀ (n : Nat) (acc : Array Nat), (List.replicate n x.toArray).foldl (· ++ ·) acc = acc ++ ((List.replicate n x).flatten).toArray
  | 0, acc => by simp
  | n + 1, acc => by
    rw [List.replicate_succ, List.foldl_cons, foldl_reps x n]
    simp [List.replicate_succ]
theorem txt_mul (x : List Nat) (n : Int) : Txt.mul ⟨x.toArray⟩ n = ⟨((List.replicate n.toNat x).flatten).toArray⟩ := by
  unfold Txt.mul
  by_cases h1 : n < 1
  · rw [if_pos h1, show n.toNat = 0 by omega]; rfl
  · rw [if_neg h1]
    by_cases h2 : n = 1
    · subst h2; simp
    · by_cases h3 : x = []
      · subst h3; simp [Str.length]
      · have : (n == 1 || (⟨x.toArray⟩ : Str).length == 0) = false := by simp [Str.length, h2, h3]
        rw [if_neg (by rw [this]; exact Bool.false_ne_true), foldl_reps]
        simp
theorem p_mul_str {A : Around} {fr : List Addr} {c : Cfg} {σ : St} {s : Shared} {x : List Nat} {n : Int} {t u : Tok} (I : RInv X fr c σ s) (hx : ∀ c ∈ x, c < 128) (hn : n ≤ 1000) (hn0 : 0 ≤ n) (hl : x.length ≤ 1000) :
    wpAny (model X.prog X.w) A (binaryOp .Mult (.str ⟨x.toArray⟩ t) (.int n u)) (POk X fr c σ s (.ok (.str (List.replicate n.toNat x).flatten) σ)) (fun _ _ => False) s := by
  have hlen : x.length * n.toNat ≤ 1000 * 1000 := Nat.mul_le_mul hl (by omega)
  refine SB.mul ⟨?_, fun h1 _ => ?_, fun _ _ => ?_⟩ fun t' k => ?_
  · simp; omega
  · have e1 : (⟨x.toArray⟩ : Str).length = x.length := by simp [Str.length]
    rw [e1]
    have h2 : (x.length : Int) * n ≤ 1000 * 1000 := by
      have : (x.length : Int) * n = ((x.length * n.toNat : Nat) : Int) := by rw [Int.natCast_mul, Int.toNat_of_nonneg hn0]
      rw [this]; omega
    have : (x.length : Int) ≤ (2 ^ 63 - 1) / n := (Int.le_ediv_iff_mul_le (by omega)).mpr (by omega)
    omega
  · have e1 : (⟨x.toArray⟩ : Str).length = x.length := by simp [Str.length]
    rw [e1]
    unfold Builtin.Str.tooLong
    rw [decide_eq_false_iff_not, sizeLine_eq]
    omega
  · rw [txt_mul]
    refine POk.plain I _ (rep_str (fun d hd => ?_) ?_)
    · obtain ⟨l, hl', hd'⟩ := List.mem_flatten.mp hd
      rw [(List.mem_replicate.mp hl').2] at hd'; exact hx d hd'
    · simp only [List.length_flatten, List.map_replicate, List.sum_replicate_nat]
      simp only [LIM]; rw [Nat.mul_comm] at hlen; omega
end
end Mine
end

section
namespace Mine
open PySem PyProof.Rows

mutual
noncomputable def toPy : V → PyData
  | .none => .none
  | .bool b => .bool b
  | .int i => .int i
  | .str s => .str ⟨s.toArray⟩
  | .tup vs => .tuple (toPyL vs)
  | .lst vs => .list (toPyL vs)
  | .loc _ => .none
  | .exn _ => .none
  | .fn _ => .none
noncomputable def toPyL : List V → List PyData
  | [] => []
  | v :: vs => toPy v :: toPyL vs
end
mutual
noncomputable def isData : V → Bool
  | .tup vs => isDataL vs
  | .lst vs => isDataL vs
  | .loc _ => false
  | .exn _ => false
  | .fn _ => false
  | _ => true
noncomputable def isDataL : List V → Bool
  | [] => true
  | v :: vs => isData v && isDataL vs
end

theorem strEq (a b : List Nat) : ((⟨a.toArray⟩ : Str) == ⟨b.toArray⟩) = (a == b) := by
  by_cases h : a = b
  · subst h; simp
  · have : (⟨a.toArray⟩ : Str) ≠ ⟨b.toArray⟩ := fun e => h (strOf_inj e)
    rw [beq_eq_false_iff_ne.mpr this, beq_eq_false_iff_ne.mpr h]

mutual
theorem veq_data : ∀ (a b : V), isData a = true → isData b = true → veq a b = some (PyData.eqv (toPy a) (toPy b))
  | .none, b, _, hb => by cases b <;> simp_all [veq, unlike, opq, toPy, PyData.eqv, isData]
  | .bool x, b, _, hb => by cases b <;> simp_all [veq, unlike, opq, toPy, PyData.eqv, isData]
  | .int x, b, _, hb => by cases b <;> simp_all [veq, unlike, opq, toPy, PyData.eqv, isData]
  | .str x, b, _, hb => by
    cases b <;> simp_all [veq, unlike, opq, toPy, PyData.eqv, isData]
    exact (strEq _ _).symm
  | .tup vs, b, ha, hb => by
    cases b with
    | tup ws => simp only [veq, toPy, PyData.eqv]; exact veqL_data vs ws (by simpa [isData] using ha) (by simpa [isData] using hb)
    | loc _ => simp [isData] at hb
    | exn _ => simp [isData] at hb
    | fn _ => simp [isData] at hb
    | _ => simp [veq, unlike, opq, toPy, PyData.eqv]
  | .lst vs, b, ha, hb => by
    cases b with
    | lst ws => simp only [veq, toPy, PyData.eqv]; exact veqL_data vs ws (by simpa [isData] using ha) (by simpa [isData] using hb)
    | loc _ => simp [isData] at hb
    | exn _ => simp [isData] at hb
    | fn _ => simp [isData] at hb
    | _ => simp [veq, unlike, opq, toPy, PyData.eqv]
  | .loc _, _, ha, _ => by simp [isData] at ha
  | .exn _, _, ha, _ => by simp [isData] at ha
  | .fn _, _, ha, _ => by simp [isData] at ha
theorem veqL_data : ∀ (a b : List V), isDataL a = true → isDataL b = true → veqL a b = some (PyData.eqvAll (toPyL a) (toPyL b))
  | [], [], _, _ => by simp [veqL, toPyL, PyData.eqvAll]
  | [], _ :: _, _, _ => by simp [veqL, toPyL, PyData.eqvAll]
  | _ :: _, [], _, _ => by simp [veqL, toPyL, PyData.eqvAll]
  | x :: xs, y :: ys, ha, hb => by
    simp only [isDataL, Bool.and_eq_true] at ha hb
    simp only [veqL, toPyL, PyData.eqvAll, veq_data x y ha.1 hb.1]
    cases PyData.eqv (toPy x) (toPy y) with
    | true => simp [veqL_data xs ys ha.2 hb.2]
    | false => simp
end

section
variable {X : Ctx} {D : Dom}

theorem reads_list {c : Cfg} {σ : St} {h : Heap} {n : Nat} (ih : ∀ v d v', deep σ n v = some d → VRep X c h v' v → isData d = true ∧ ∃ bs, Reads h v' (toPy d) bs ∧ (toPy d).canLay0 = true ∧ (toPy d).depth ≤ n) :
    ∀ (vs ds : List V) (vs' : List Value), vs.mapM (deep σ n) = some ds → VReps X c h vs' vs → isDataL ds = true ∧ ∃ bs, ReadsAll h vs' (toPyL ds) bs ∧ PyData.canLayAll0 (toPyL ds) = true ∧ PyData.depthAll (toPyL ds) ≤ n
  | [], ds, vs', e, r => by
    simp at e; subst e
    simp only [VReps] at r; subst r
    exact ⟨rfl, [], by simp only [toPyL]; exact .nil, by simp [toPyL, PyData.canLayAll0], by simp [toPyL, PyData.depthAll]⟩
  | v :: vs, ds, vs', e, r => by
    simp only [VReps] at r
    obtain ⟨v', r', rfl, r1, r2⟩ := r
    rw [List.mapM_cons] at e
    cases hd : deep σ n v with
    | none => rw [hd] at e; cases e
    | some d =>
      rw [hd] at e
      cases hds : vs.mapM (deep σ n) with
      | none => rw [hds] at e; cases e
      | some ds' =>
        rw [hds] at e
        cases e
        obtain ⟨i1, bs, q1, q2, q3⟩ := ih v d v' hd r1
        obtain ⟨i2, cs, p1, p2, p3⟩ := reads_list ih vs ds' r' hds r2
        exact ⟨by simp [isDataL, i1, i2], _, by simp only [toPyL]; exact .cons q1 p1, by simp [toPyL, PyData.canLayAll0, q2, p2], by simp only [toPyL, PyData.depthAll]; exact Nat.max_le.mpr ⟨q3, p3⟩⟩

theorem deep_reads {c : Cfg} {σ : St} {h : Heap} (R : Rel X c σ h) : ∀ (n : Nat) (v d : V) (v' : Value), deep σ n v = some d → VRep X c h v' v → isData d = true ∧ ∃ bs, Reads h v' (toPy d) bs ∧ (toPy d).canLay0 = true ∧ (toPy d).depth ≤ n
  | 0, v, d, v', e, r => by simp [deep] at e
  | n + 1, .none, d, v', e, r => by
    simp only [deep, Option.some.injEq] at e; subst e
    rw [vrep_none r]; exact ⟨rfl, _, .none, by simp [toPy, PyData.canLay0], by simp [toPy, PyData.depth]⟩
  | n + 1, .bool b, d, v', e, r => by
    simp only [deep, Option.some.injEq] at e; subst e
    rw [vrep_bool r]; exact ⟨rfl, _, .bool b, by simp [toPy, PyData.canLay0], by simp [toPy, PyData.depth]⟩
  | n + 1, .int b, d, v', e, r => by
    simp only [deep, Option.some.injEq] at e; subst e
    obtain ⟨t, rfl⟩ := vrep_int r; exact ⟨rfl, _, .int b t, by simp [toPy, PyData.canLay0], by simp [toPy, PyData.depth]⟩
  | n + 1, .str b, d, v', e, r => by
    simp only [deep, Option.some.injEq] at e; subst e
    obtain ⟨⟨t, rfl⟩, h1, h2⟩ := vrep_str r
    refine ⟨rfl, _, .str _ t, ?_, by simp [toPy, PyData.depth]⟩
    simp only [toPy, PyData.canLay0, PyData.strOk]
    simp only [List.all_toArray', List.all_eq_true, decide_eq_true_eq]
    exact fun k hk => Nat.lt_trans (h1 k hk) (by decide)
  | n + 1, .tup vs, d, v', e, r => by
    simp only [deep, Option.map_eq_some_iff] at e
    obtain ⟨ds, e, rfl⟩ := e
    obtain ⟨a, items, k, rfl, hf, g, q, hl⟩ := vrep_tup r
    obtain ⟨i, bs, p1, p2, p3⟩ := reads_list (fun v d v' => deep_reads R n v d v') vs ds _ e q
    exact ⟨by simpa [isData] using i, _, by simp only [toPy]; exact .tuple g rfl rfl p1, by simpa [toPy, PyData.canLay0] using p2, by simp only [toPy, PyData.depth]; omega⟩
  | n + 1, .lst vs, d, v', e, r => by
    simp only [deep, Option.map_eq_some_iff] at e
    obtain ⟨ds, e, rfl⟩ := e
    obtain ⟨a, items, k, rfl, g, q, hl⟩ := list_of R r rfl
    obtain ⟨i, bs, p1, p2, p3⟩ := reads_list (fun v d v' => deep_reads R n v d v') vs ds _ e q
    exact ⟨by simpa [isData] using i, _, by simp only [toPy]; exact .list g rfl rfl p1, by simpa [toPy, PyData.canLay0] using p2, by simp only [toPy, PyData.depth]; omega⟩
  | n + 1, .loc l, d, v', e, r => by
    simp only [deep] at e
    cases ho : σ[l]? with
    | none => rw [ho] at e; cases e
    | some o =>
      rw [ho] at e
      cases o with
      | list vs =>
        simp only [Option.map_eq_some_iff] at e
        obtain ⟨ds, e, rfl⟩ := e
        obtain ⟨a, items, k, rfl, g, q, hl⟩ := list_of R r (vs := vs) (by simp [asList, ho])
        obtain ⟨i, bs, p1, p2, p3⟩ := reads_list (fun v d v' => deep_reads R n v d v') vs ds _ e q
        exact ⟨by simpa [isData] using i, _, by simp only [toPy]; exact .list g rfl rfl p1, by simpa [toPy, PyData.canLay0] using p2, by simp only [toPy, PyData.depth]; omega⟩
      | _ => cases e
  | n + 1, .exn _, d, v', e, r => by simp [deep] at e
  | n + 1, .fn _, d, v', e, r => by simp [deep] at e

theorem c_eq : CmpPrim X .Eq := by
  intro A fr c σ s a' b' a b r ro I ra rb h
  simp only [cmpV, eqV] at h
  split at h
  · rename_i x y hx hy
    obtain ⟨i1, bs, q1, q2, q3⟩ := deep_reads I.rel 6 a x a' hx ra
    obtain ⟨i2, cs, p1, p2, p3⟩ := deep_reads I.rel 6 b y b' hy rb
    rw [veq_data x y i1 i2] at h
    simp only [Option.some.injEq] at h
    refine SeqAt.compareEq_reads q1 p1 q2 p2 ?_ ⟨by rw [h], s.toks, rfl⟩
    have := ro.units
    show _ < 9900
    omega
  · cases h
theorem c_ne : CmpPrim X .NotEq := by
  intro A fr c σ s a' b' a b r ro I ra rb h
  simp only [cmpV, eqV] at h
  split at h
  · rename_i x y hx hy
    obtain ⟨i1, bs, q1, q2, q3⟩ := deep_reads I.rel 6 a x a' hx ra
    obtain ⟨i2, cs, p1, p2, p3⟩ := deep_reads I.rel 6 b y b' hy rb
    rw [veq_data x y i1 i2] at h
    simp only [Option.map_some, Option.some.injEq] at h
    refine SeqAt.compareNe_reads q1 p1 q2 p2 ?_ ⟨by rw [h], s.toks, rfl⟩
    have := ro.units
    show _ < 9900
    omega
  · cases h
theorem c_lt : CmpPrim X .Lt := by
  intro A fr c σ s a' b' a b r ro I ra rb h
  cases a with
  | int x => cases b with
    | int y =>
      simp only [cmpV, Option.some.injEq] at h
      obtain ⟨t, rfl⟩ := vrep_int ra; obtain ⟨u, rfl⟩ := vrep_int rb
      exact P.lt_int ⟨by rw [h], s.toks, rfl⟩
    | _ => cases h
  | _ => cases h
theorem c_ge : CmpPrim X .GtE := by
  intro A fr c σ s a' b' a b r ro I ra rb h
  cases a with
  | int x => cases b with
    | int y =>
      simp only [cmpV, Option.some.injEq] at h
      obtain ⟨t, rfl⟩ := vrep_int ra; obtain ⟨u, rfl⟩ := vrep_int rb
      exact P.ge_int ⟨by rw [← h], s.toks, rfl⟩
    | _ => cases h
  | _ => cases h
theorem in_list_any {x' : V} {ds : List V} (hx : isData x' = true) (hd : isDataL ds = true) : (ds.any fun d => veq d x' == some true) = ((toPyL ds).any fun y => PyData.eqv y (toPy x')) := by
  induction ds with
  | nil => rfl
  | cons d ds ih =>
    simp only [isDataL, Bool.and_eq_true] at hd
    simp only [List.any_cons, toPyL, ih hd.2, veq_data d x' hd.1 hx]
    cases PyData.eqv (toPy d) (toPy x') <;> simp
theorem inSeq_sound {A : Around} {fr : List Addr} {c : Cfg} {σ : St} {s : Shared} {a' b' : Value} {a b : V} {r : Bool} (ro : PRoom A) (I : RInv X fr c σ s) (ra : VRep X c s.heap a' a) (rb : VRep X c s.heap b' b) (h : inSeq a b σ = some r) :
    (∀ Q : Value → Shared → Prop, Q (.bool r) s → wpAny (model X.prog X.w) A (compareOp .In a' b') Q (fun _ _ => False) s) ∧ ∀ Q : Value → Shared → Prop, Q (.bool (!r)) s → wpAny (model X.prog X.w) A (compareOp .NotIn a' b') Q (fun _ _ => False) s := by
  have hu := ro.units
  simp only [inSeq] at h
  split at h
  · rename_i x y hx hy
    obtain ⟨i1, bs, q1, q2, q3⟩ := deep_reads I.rel 6 a x a' hx ra
    obtain ⟨i2, cs, p1, p2, p3⟩ := deep_reads I.rel 6 b _ b' hy rb
    simp only [toPy] at p1 p2 p3
    simp only [PyData.canLay0] at p2
    simp only [Option.some.injEq] at h
    rw [in_list_any i1 (by simpa [isData] using i2)] at h
    have hroom : A.units + 1 + min (PyData.depthAll (toPyL y)) (toPy x).depth < cLine := by show _ < 9900; omega
    exact ⟨fun Q hq => SeqAt.in_list_reads p1 q1 p2 q2 hroom (by rw [h]; exact hq), fun Q hq => SeqAt.notIn_list_reads p1 q1 p2 q2 hroom (by rw [h]; exact hq)⟩
  · rename_i x y hx hy
    obtain ⟨i1, bs, q1, q2, q3⟩ := deep_reads I.rel 6 a x a' hx ra
    obtain ⟨i2, cs, p1, p2, p3⟩ := deep_reads I.rel 6 b _ b' hy rb
    simp only [toPy] at p1 p2 p3
    simp only [PyData.canLay0] at p2
    simp only [Option.some.injEq] at h
    rw [in_list_any i1 (by simpa [isData] using i2)] at h
    have hroom : A.units + 1 + min (PyData.depthAll (toPyL y)) (toPy x).depth < cLine := by show _ < 9900; omega
    exact ⟨fun Q hq => SeqAt.in_tuple_reads p1 q1 p2 q2 hroom (by rw [h]; exact hq), fun Q hq => SeqAt.notIn_tuple_reads p1 q1 p2 q2 hroom (by rw [h]; exact hq)⟩
  · cases h
end
end Mine
end

section
namespace Mine
open PySem PyProof.Rows

section
variable {X : Ctx}

theorem map_strOf_inj {a b : List (List Nat)} (h : a.map strOf = b.map strOf) : a = b := by
  induction a generalizing b with
  | nil => cases b with
    | nil => rfl
    | cons y ys => simp at h
  | cons x xs ih => cases b with
    | nil => simp at h
    | cons y ys =>
      simp only [List.map_cons, List.cons.injEq] at h
      rw [strOf_inj h.1, ih h.2]

/-! keys -/
theorem strs_items {c : Cfg} {h : Heap} : ∀ (vs : List V) (ks : List (List Nat)) (items : List Value), (vs.mapM fun v => match v with | .str s => some s | _ => none) = some ks → VReps X c h items vs → ItemsAre (strKind X.prog X.w) (ks.map strOf) items
  | [], ks, items, e, r => by
    simp at e; subst e
    simp only [VReps] at r; subst r
    exact .nil
  | v :: vs, ks, items, e, r => by
    simp only [VReps] at r
    obtain ⟨v', r', rfl, r1, r2⟩ := r
    rw [List.mapM_cons] at e
    cases v with
    | str x =>
      cases hm : (vs.mapM fun v => match v with | V.str s => some s | _ => none) with
      | none => rw [hm] at e; cases e
      | some ks' =>
        rw [hm] at e
        cases e
        obtain ⟨⟨t, rfl⟩, _, _⟩ := vrep_str r1
        refine .cons ?_ (strs_items vs ks' r' hm r2)
        simp [PySem.strKind, Value.isStrOf, strOf]
    | _ => cases e
theorem key_strs {c : Cfg} {h : Heap} {v' : Value} {v : V} {ks : List (List Nat)} (r : VRep X c h v' v) (e : asStrs v = some ks) : ∃ a, v' = .ref a ∧ c.frz a ∧ IsTupleKey (strKind X.prog X.w) h (ks.map strOf) a := by
  cases v with
  | tup vs =>
    obtain ⟨a, items, n, rfl, hf, g, q, hl⟩ := vrep_tup r
    exact ⟨a, rfl, hf, _, items, n, g, rfl, rfl, strs_items vs ks _ e q⟩
  | _ => cases e
/-! tables -/
section
variable {α β : Type} [BEq α] [LawfulBEq α] [DecidableEq β] {enc : α → β} {c : Cfg} {h : Heap}

theorem atKey_cons (k0 : β) (p : Addr × Value) (xs : List (β × Addr × Value)) (k : β) : atKey ((k0, p) :: xs) k = if k0 = k then some p else atKey xs k := by
  by_cases q : k0 = k
  · subst q; simp [atKey]
  · simp [atKey, List.find?_cons, q]
theorem at_lookup (inj : ∀ a b, enc a = enc b → a = b) (k : α) : ∀ (es : List (α × V)) (xs : List (β × Addr × Value)), xs.map (·.1) = es.map (fun e => enc e.1) → VReps X c h (xs.map (·.2.2)) (es.map (·.2)) →
    (∀ v, es.lookup k = some v → ∃ p, atKey xs (enc k) = some p ∧ VRep X c h p.2 v) ∧ (es.lookup k = none → atKey xs (enc k) = none)
  | [], xs, e, r => by
    have : xs = [] := by simpa using e
    subst this
    exact ⟨fun v q => by simp at q, fun _ => rfl⟩
  | (k0, v0) :: es, xs, e, r => by
    cases xs with
    | nil => simp at e
    | cons x xs =>
      obtain ⟨k1, p⟩ := x
      simp only [List.map_cons, List.cons.injEq] at e
      simp only [List.map_cons, VReps] at r
      obtain ⟨v', r', q, r1, r2⟩ := r
      simp only [List.cons.injEq] at q
      obtain ⟨q1, q2⟩ := q
      subst q1; subst q2
      obtain ⟨i1, i2⟩ := at_lookup inj k es xs e.2 r2
      have e1 : k1 = enc k0 := e.1
      subst e1
      rw [atKey_cons]
      by_cases hk : k0 = k
      · subst hk
        rw [if_pos rfl]
        refine ⟨fun v q => ⟨p, rfl, ?_⟩, fun q => ?_⟩
        · simp at q; subst q; exact r1
        · simp at q
      · have hne : (k == k0) = false := beq_eq_false_iff_ne.mpr (Ne.symm hk)
        rw [if_neg (fun q => hk (inj _ _ q))]
        simp only [List.lookup_cons, hne]
        exact ⟨i1, i2⟩
theorem at_some (inj : ∀ a b, enc a = enc b → a = b) {k : α} {es : List (α × V)} {xs : List (β × Addr × Value)} (h1 : xs.map (·.1) = es.map (fun e => enc e.1)) (h2 : VReps X c h (xs.map (·.2.2)) (es.map (·.2))) : (atKey xs (enc k)).isSome = (es.lookup k).isSome := by
  obtain ⟨i1, i2⟩ := at_lookup inj k es xs h1 h2
  cases q : es.lookup k with
  | none => rw [i2 q]; rfl
  | some v => obtain ⟨p, e, _⟩ := i1 v q; rw [e]; rfl

theorem putAt_none (k : β) (v : Value) : ∀ (xs : List (β × Addr × Value)), k ∉ xs.map (·.1) → xs.map (putAt k v) = xs
  | [], _ => rfl
  | x :: xs, q => by
    simp only [List.map_cons, List.mem_cons, not_or] at q
    simp only [List.map_cons, putAt_none k v xs q.2, putAt, if_neg (Ne.symm q.1)]
theorem storedH_cons (k0 : β) (p : Addr × Value) (xs : List (β × Addr × Value)) (k : β) (a : Addr) (v : Value) (hn : (((k0, p) :: xs).map (·.1)).Nodup) : storedH ((k0, p) :: xs) k a v = if k0 = k then (k0, p.1, v) :: xs else (k0, p) :: storedH xs k a v := by
  simp only [List.map_cons, List.nodup_cons] at hn
  unfold storedH
  rw [atKey_cons]
  by_cases q : k0 = k
  · subst q
    simp only [if_pos, Option.isSome_some, List.map_cons, putAt_none k0 v xs hn.1, putAt]
  · simp only [if_neg q]
    split
    · simp [putAt, q]
    · simp
theorem stored_put (k : α) (a : Addr) {v' : Value} {v : V} (inj : ∀ a b, enc a = enc b → a = b) (rv : VRep X c h v' v) : ∀ (es : List (α × V)) (xs : List (β × Addr × Value)), (xs.map (·.1)).Nodup → xs.map (·.1) = es.map (fun e => enc e.1) → VReps X c h (xs.map (·.2.2)) (es.map (·.2)) →
    (storedH xs (enc k) a v').map (·.1) = (putKV k v es).map (fun e => enc e.1) ∧ VReps X c h ((storedH xs (enc k) a v').map (·.2.2)) ((putKV k v es).map (·.2)) ∧ ∀ x ∈ storedH xs (enc k) a v', x.2.1 = a ∨ ∃ y ∈ xs, x.2.1 = y.2.1
  | [], xs, hn, e, r => by
    have : xs = [] := by simpa using e
    subst this
    refine ⟨rfl, ?_, fun x hx => ?_⟩
    · simp only [storedH, atKey, putKV, VReps, List.map_cons, List.map_nil]
      exact ⟨v', [], rfl, rv, rfl⟩
    · simp [storedH, atKey] at hx; subst hx; exact .inl rfl
  | (k0, v0) :: es, xs, hn, e, r => by
    cases xs with
    | nil => simp at e
    | cons x xs =>
      obtain ⟨k1, p⟩ := x
      rw [storedH_cons _ _ _ _ _ _ hn]
      simp only [List.map_cons, List.cons.injEq] at e
      simp only [List.map_cons, VReps] at r
      obtain ⟨w', r', q, r1, r2⟩ := r
      simp only [List.cons.injEq] at q
      obtain ⟨q1, q2⟩ := q
      subst q1; subst q2
      have e1 : k1 = enc k0 := e.1
      subst e1
      simp only [List.map_cons, List.nodup_cons] at hn
      obtain ⟨i1, i2, i3⟩ := stored_put k a inj rv es xs hn.2 e.2 r2
      by_cases hk : k0 = k
      · subst hk
        simp only [if_pos, putKV, beq_self_eq_true, List.map_cons, VReps]
        refine ⟨by rw [e.2], ⟨v', _, rfl, rv, r2⟩, fun x hx => ?_⟩
        rcases List.mem_cons.mp hx with rfl | hx
        · exact .inr ⟨_, List.mem_cons_self .., rfl⟩
        · exact .inr ⟨x, List.mem_cons_of_mem _ hx, rfl⟩
      · have hne : (k0 == k) = false := beq_eq_false_iff_ne.mpr hk
        rw [if_neg (fun q => hk (inj _ _ q))]
        simp only [putKV, hne, List.map_cons, VReps, Bool.false_eq_true, if_false]
        refine ⟨by rw [i1], ⟨_, _, rfl, r1, i2⟩, fun x hx => ?_⟩
        rcases List.mem_cons.mp hx with rfl | hx
        · exact .inr ⟨_, List.mem_cons_self .., rfl⟩
        · rcases i3 x hx with q | ⟨y, hy, q⟩
          · exact .inl q
          · exact .inr ⟨y, List.mem_cons_of_mem _ hy, q⟩

section
variable {knd : KeyKind X.prog X.w β} {enc : α → List β} {A : Around} {s : Shared} {a ka : Addr} {es : List (α × V)} {xs : List (List β × Addr × Value)} {k : α}

theorem cLine_room (ro : PRoom A) : (tupleKind knd).room A.in1 := tupleKind_room_in1 (by have := ro.units; show _ < 9900; omega)
theorem tab_in (inj : ∀ a b, enc a = enc b → a = b) (ro : PRoom A) (hd : (a == sysModules) = false) (hm : s.heap.DictOfH (tupleKind knd) a xs) (h1 : xs.map (·.1) = es.map (fun e => enc e.1)) (h2 : VReps X c s.heap (xs.map (·.2.2)) (es.map (·.2))) (hk : IsTupleKey knd s.heap (enc k) ka) :
    (∀ Q : Value → Shared → Prop, (∀ t, Q (.bool (es.lookup k).isSome) { s with toks := t }) → wpAny (model X.prog X.w) A (compareOp .In (.ref ka) (.ref a)) Q (fun _ _ => False) s) ∧ ∀ Q : Value → Shared → Prop, (∀ t, Q (.bool (!(es.lookup k).isSome)) { s with toks := t }) → wpAny (model X.prog X.w) A (compareOp .NotIn (.ref ka) (.ref a)) Q (fun _ _ => False) s := by
  rw [← at_some (c := c) (h := s.heap) inj h1 h2]
  exact ⟨fun Q q => wpAny_in_heap (cLine_room ro) hk hd hm (q _), fun Q q => wpAny_notIn_heap (cLine_room ro) hk hd hm (q _)⟩
theorem tab_item (inj : ∀ a b, enc a = enc b → a = b) (ro : PRoom A) (hm : s.heap.DictOfH (tupleKind knd) a xs) (h1 : xs.map (·.1) = es.map (fun e => enc e.1)) (h2 : VReps X c s.heap (xs.map (·.2.2)) (es.map (·.2))) (hk : IsTupleKey knd s.heap (enc k) ka) {v : V} (hv : es.lookup k = some v) {Q : Value → Shared → Prop}
    (q : ∀ v' t, VRep X c s.heap v' v → Q v' { s with toks := t }) : wpAny (model X.prog X.w) A (getItem (.ref a) (.ref ka)) Q (fun _ _ => False) s := by
  obtain ⟨p, e, r⟩ := (at_lookup (c := c) (h := s.heap) inj k es xs h1 h2).1 v hv
  exact wpAny_getItem_heap (cLine_room ro) hk hm e (q _ _ r)
theorem tab_get1 (inj : ∀ a b, enc a = enc b → a = b) (ro : PRoom A) (hd : (a == sysModules) = false) (hm : s.heap.DictOfH (tupleKind knd) a xs) (h1 : xs.map (·.1) = es.map (fun e => enc e.1)) (h2 : VReps X c s.heap (xs.map (·.2.2)) (es.map (·.2))) (hk : IsTupleKey knd s.heap (enc k) ka) {Q : Value → Shared → Prop}
    (q : ∀ w' t, VRep X c s.heap w' ((es.lookup k).getD .none) → Q w' { s with toks := t }) : wpAny (model X.prog X.w) A (call (.builtin "dict.get") [.ref a, .ref ka]) Q (fun _ _ => False) s := by
  refine call_meetsIn PySem.F.slot_dict_get hm.typeIs PySem.F.entry_dict_get (PySem.F.args_dict_get_2 _ _) (meetsH_dict_get (tupleKind knd) a ka hd) ⟨cLine_room ro, enc k, xs, hk, hm, q _ _ ?_⟩
  obtain ⟨i1, i2⟩ := at_lookup (c := c) (h := s.heap) inj k es xs h1 h2
  cases e : es.lookup k with
  | none => rw [i2 e]; exact rep_none
  | some w => obtain ⟨p, e', r⟩ := i1 w e; rw [e']; exact r
end
end

/-! the dict at a place -/
theorem loc_dictS {c : Cfg} {σ : St} {h : Heap} {v' : Value} {l : Nat} {es : List (List (List Nat) × V)} (R : Rel X c σ h) (r : VRep X c h v' (.loc l)) (e : σ[l]? = some (.dictS es)) :
    ∃ a xs, v' = .ref a ∧ c.mu[l]? = some a ∧ (a == sysModules) = false ∧ h.DictOfH (tupleKind (strKind X.prog X.w)) a xs ∧ (∀ x ∈ xs, c.frz x.2.1) ∧ xs.map (·.1) = es.map (fun e => e.1.map strOf) ∧ VReps X c h (xs.map (·.2.2)) (es.map (·.2)) := by
  simp only [VRep] at r
  obtain ⟨a, rfl, m⟩ := r
  obtain ⟨_, _, q, xs, h1, h2, h3, h4⟩ := R.obj l _ a e rfl m
  exact ⟨a, xs, rfl, m, q, h1, h2, h3, h4⟩
end
end Mine
end

section
namespace Mine
open PySem PyProof.Rows

theorem seqIndex_pos {k : Int} {n : Nat} (h0 : 0 ≤ k) (h1 : k < n) : seqIndex? k n = some k.toNat := by
  unfold seqIndex?
  simp only [show ¬ k < 0 by omega, if_false]
  rw [if_pos (by simp only [Bool.and_eq_true, decide_eq_true_eq]; omega)]
theorem pyIdx_spec {α : Type} {xs : List α} {i : Int} {x : α} (h : pyIdx xs i = some x) : ∃ j, seqIndex? i xs.length = some j ∧ xs[j]? = some x ∧ -(xs.length : Int) ≤ i ∧ i < xs.length := by
  unfold pyIdx at h
  split at h
  · rename_i h0
    have hlt := (List.getElem?_eq_some_iff.mp h).1
    exact ⟨i.toNat, seqIndex_pos h0 (by omega), h, by omega, by omega⟩
  · split at h
    · rename_i h0 h1
      refine ⟨(xs.length + i).toNat, ?_, h, by omega, by omega⟩
      rw [seqIndex_neg (by omega) h1, Int.add_comm]
    · cases h

section
variable {X : Ctx} {D : Dom}

/-- getItem, and the type that is asked for it -/
noncomputable def IdxPrim (X : Ctx) (p : V → V → St → Out V) : Prop :=
  ∀ (A : Around) (fr : List Addr) (c : Cfg) (σ : St) (s : Shared) (a' b' : Value) (a b : V), PRoom A → RInv X fr c σ s → VRep X c s.heap a' a → VRep X c s.heap b' b → p a b σ ≠ .bad →
    (∃ T id, s.TypeIs a' T ∧ typeLookup (.type T) "__getitem__" = pure (some (.builtin id))) ∧ wpAny (model X.prog X.w) A (getItem a' b') (POk X fr c σ s (p a b σ)) (fun _ _ => False) s

theorem idx_list {A : Around} {fr : List Addr} {c : Cfg} {σ : St} {s : Shared} {l : Addr} {items : Array Value} {n : Nat} {vs : List V} {i : Int} {t : Tok} {x : V} (I : RInv X fr c σ s) (g : s.heap.get? l = some (lstObj items n)) (r : VReps X c s.heap items.toList vs) (hl : vs.length ≤ LIM) (h : pyIdx vs i = some x) :
    wpAny (model X.prog X.w) A (getItem (.ref l) (.int i t)) (POk X fr c σ s (.ok x σ)) (fun _ _ => False) s := by
  obtain ⟨j, h1, h2, h3, h4⟩ := pyIdx_spec h
  have hlen := r.length
  simp only [Array.length_toList] at hlen
  obtain ⟨x', e, rx⟩ := r.get _ h2
  have e' : items[j]? = some x' := by simpa using e
  simp only [LIM] at hl
  by_cases h0 : 0 ≤ i
  · rw [seqIndex_pos h0 h4] at h1
    simp only [Option.some.injEq] at h1
    subst h1
    exact wpAny_getItem_list (lst_is g) h0 (by omega) e' (POk.same I rx)
  · rw [seqIndex_neg (by omega) h3] at h1
    simp only [Option.some.injEq] at h1
    subst h1
    exact wpAny_getItem_list_neg (lst_is g) (by omega) (by omega) (by omega) (by rw [hlen]; exact e') (POk.same I rx)

theorem idxL_some {vs : List V} {σ : St} {i : V} (nb : idxL vs σ i ≠ .bad) : ∃ k x, i = .int k ∧ pyIdx vs k = some x ∧ idxL vs σ i = .ok x σ := by
  cases i with
  | int k => obtain ⟨x, hx⟩ := lift_ne_bad nb; exact ⟨k, x, rfl, hx, by simp only [idxL, hx, lift_some]⟩
  | _ => exact absurd rfl nb
theorem p_idx : IdxPrim X pIdx := by
  intro A fr c σ s a' b' a b ro I ra rb nb
  have list : ∀ vs, asList σ a = some vs → idxL vs σ b ≠ .bad → (∃ T id, s.TypeIs a' T ∧ typeLookup (.type T) "__getitem__" = pure (some (.builtin id))) ∧ wpAny (model X.prog X.w) A (getItem a' b') (POk X fr c σ s (idxL vs σ b)) (fun _ _ => False) s := by
    intro vs hv nb
    obtain ⟨k, x, rfl, hx, e⟩ := idxL_some nb
    obtain ⟨t, rfl⟩ := vrep_int rb
    obtain ⟨l, items, n, rfl, g, r, hl⟩ := list_of I.rel ra hv
    rw [e]
    exact ⟨⟨"list", _, (lst_is g).typeIs, slot_list_getitem.lookup⟩, idx_list I g r hl hx⟩
  cases a with
  | lst vs => exact list vs rfl nb
  | loc l =>
    cases ho : σ[l]? with
    | none => simp only [pIdx, ho] at nb; exact absurd rfl nb
    | some o =>
      cases o with
      | list vs =>
        simp only [pIdx, ho] at nb ⊢
        exact list vs (by simp only [asList, ho]) nb
      | dictS es =>
        simp only [pIdx, ho] at nb ⊢
        obtain ⟨x, hx⟩ := lift_ne_bad nb
        obtain ⟨k, hk, hx'⟩ := Option.bind_eq_some_iff.mp hx
        obtain ⟨d, xs, rfl, m, hs, hm, hf, k1, k2⟩ := loc_dictS I.rel ra ho
        obtain ⟨ka, rfl, fk, tk⟩ := key_strs rb hk
        rw [hx]
        exact ⟨⟨"dict", _, hm.typeIs, slot_dict_getitem.lookup⟩, tab_item (enc := fun k => k.map strOf) (c := c) (fun a b e => map_strOf_inj e) ro hm k1 k2 tk hx' fun v' t rx => POk.plain I t rx⟩
      | _ => simp only [pIdx, ho] at nb; exact absurd rfl nb
  | tup vs =>
    obtain ⟨k, x, rfl, hx, e⟩ := idxL_some (show idxL vs σ b ≠ .bad from nb)
    obtain ⟨t, rfl⟩ := vrep_int rb
    obtain ⟨l, items, n, rfl, hf, g, r, hl⟩ := vrep_tup ra
    refine ⟨⟨"tuple", _, (tup_is g).typeIs, F.slot_tuple_getitem.lookup⟩, ?_⟩
    show wpAny _ _ _ (POk X fr c σ s (idxL vs σ (.int k))) _ _
    rw [e]
    obtain ⟨j, h1, h2, h3, h4⟩ := pyIdx_spec hx
    have hlen := r.length
    simp only [Array.length_toList] at hlen
    obtain ⟨x', e', rx⟩ := r.get _ h2
    simp only [LIM] at hl
    exact getItem_tuple (tup_is g) (by omega) (by omega) (by rw [hlen]; exact h1) (by simpa using e') (POk.same I rx)
  | str x =>
    cases b with
    | int i =>
      obtain ⟨t, rfl⟩ := vrep_int rb
      obtain ⟨⟨u, rfl⟩, h1, h2⟩ := vrep_str ra
      refine ⟨⟨"str", _, typeIs_str s _ _, F.slot_str_getitem.lookup⟩, ?_⟩
      simp only [pIdx] at nb ⊢
      cases hx : pyIdx x i with
      | none => rw [hx] at nb; exact absurd rfl nb
      | some k =>
        obtain ⟨j, q1, q2, q3, q4⟩ := pyIdx_spec hx
        simp only [LIM] at h2
        refine P.getItem_str (c := k) ?_ ?_ (POk.plain I _ (rep_str (fun d hd => ?_) (by simp [LIM])))
        · simp; omega
        · rw [show (Str.mk x.toArray).length = x.length from by simp [Str.length], q1]
          simpa using q2
        · rw [List.mem_singleton.mp hd]; exact h1 k (List.mem_of_getElem? q2)
    | _ => exact absurd rfl nb
  | _ => exact absurd rfl nb

theorem sE_idx {value slice : Expr} {pos : Pos} {cv ci : E} {p : V → V → St → Out V} (hp : IdxPrim X p) (hs : ∀ o i, subscripted slice false o i = operate [o, i] (getItem o i)) (hv : SoundE X D value cv) (hi : SoundE X D slice ci) : SoundE X D (.Subscript value slice pos) (bin p cv ci) := by
  intro a c σ ρ s ok I nb
  unfold bin at nb ⊢
  refine Subscript_ (hv.then ok I nb (fun _ _ p => p) fun v' v σ₁ c₁ s₁ e1 eb nb1 I1 x1 r1 => ?_)
  rw [eb]
  refine hi.then ok I1 nb1 (fun e' s' p => p.trans x1) fun w' w σ₂ c₂ s₂ e2 eb2 nb2 I2 x2 r2 => ?_
  rw [eb2]
  obtain ⟨⟨T, id, hT, hl⟩, hg⟩ := hp a.A a.fr c₂ σ₂ s₂ v' w' v w ok.room.p I2.r (r1.evo x2 I1.r.rel I1.r.fro (fun _ _ => id)) r2 nb2
  exact tail_any hT hl (wpAny_mono hg (fun v3 s3 p3 => (p3.act I2).trans (x1.trans x2)) fun _ _ f => f.elim) (hs _ _)

/-! slices -/
noncomputable def SoundP (X : Ctx) (D : Dom) (e : Option Expr) (ce : E) : Prop :=
  ∀ (a : Act) (c : Cfg) (σ : St) (ρ : Env) (s : Shared), ActOk D a → Inv X a c σ ρ s → ce ρ σ ≠ .bad →
    wpAny (model X.prog X.w) a.A (evalPart e a.env) (OkPost X a c σ ρ s (ce ρ σ)) (ExPost X a c σ ρ s (ce ρ σ)) s
theorem sP_none : SoundP X D none (cst .none) := fun a c σ ρ s ok I nb => wpAny_pure (.here I rep_none)
theorem sP_some {e : Expr} {ce : E} (h : SoundE X D e ce) : SoundP X D (some e) ce := fun a c σ ρ s ok I nb => h a c σ ρ s ok I nb

theorem clamp_clip (n : Nat) (i : Int) (d : Nat) : clampI n d (some i) = clipAt n i := by
  have h := clipAt_cast n i
  simp only [clampI]
  split <;> split at h <;> omega
theorem clamp_elim (n d : Nat) (o : Option Int) : clampI n d o = o.elim d (clipAt n) := by
  cases o with
  | none => rfl
  | some i => exact clamp_clip n i d
theorem pySlice_pick {α : Type} (xs : List α) (lo hi : Option Int) : pySlice xs lo hi = (xs.drop (lo.elim 0 (clipAt xs.length))).take (hi.elim xs.length (clipAt xs.length) - lo.elim 0 (clipAt xs.length)) := by
  unfold pySlice
  rw [clamp_elim, clamp_elim, List.drop_take]
theorem isPart_of {c : Cfg} {h : Heap} {v' : Value} {v : V} {o : Option Int} (r : VRep X c h v' v) (e : optInt v = some o) : IsPart v' o ∧ ∃ q, v' = partValue q ∧ q.map (·.1) = o := by
  cases v with
  | none => simp only [optInt, Option.some.injEq] at e; subst e; rw [vrep_none r]; exact ⟨.none, none, rfl, rfl⟩
  | int i => simp only [optInt, Option.some.injEq] at e; subst e; obtain ⟨t, rfl⟩ := vrep_int r; exact ⟨.int i t, some (i, t), rfl, rfl⟩
  | _ => simp [optInt] at e
theorem strPick (x : List Nat) (lo hi : Option Int) : Builtin.Str.strSliceIndices lo hi 1 x.length = (List.range (hi.elim x.length (clipAt x.length) - lo.elim 0 (clipAt x.length))).map (lo.elim 0 (clipAt x.length) + ·) := by
  have key : ∀ (o : Option Int) (d : Nat), (match o with | none => (d : Int) | some i => if (1:Int) > 0 then max 0 (min (if i < 0 then i + (x.length : Int) else i) (x.length : Int)) else max (-1) (min (if i < 0 then i + (x.length : Int) else i) ((x.length : Int) - 1))) = ((o.elim d (clipAt x.length) : Nat) : Int) := by
    intro o d
    cases o with
    | none => rfl
    | some i => simp [clipAt_cast]
  have h1 := key lo 0
  have h2 := key hi x.length
  unfold Builtin.Str.strSliceIndices
  dsimp only
  rw [← sliceRange_one]
  congr 1

theorem pick_list (x : List Nat) (l k : Nat) : ((List.range k).map (l + ·)).filterMap (x.toArray[·]?) = (x.drop l).take k := by
  have : ∀ (k : Nat), ((List.range k).map (l + ·)).filterMap (fun i => x.toArray[i]?) = (x.drop l).take k := by
    intro k
    induction k with
    | zero => simp
    | succ k ih =>
      rw [List.range_succ, List.map_append, List.filterMap_append, ih, List.take_add_one]
      simp only [List.map_cons, List.map_nil, List.getElem?_toArray, List.getElem?_drop]
      cases h : x[l + k]? <;> simp [h]
  exact this k
end
end Mine
end

section
namespace Mine
open PySem PyProof.Rows

section
variable {X : Ctx} {D : Dom}

theorem SoundP.then {e : Option Expr} {ce : E} (hs : SoundP X D e ce) {β : Type} {f : V → St → Out β} {a : Act} {c : Cfg} {σ : St} {ρ : Env} {s : Shared} (ok : ActOk D a) (I : Inv X a c σ ρ s) (nb : (ce ρ σ).bind f ≠ .bad)
    {Q : Value → Shared → Prop} {Ex : Value → Shared → Prop} (hx : ∀ e' s', ExPost X a c σ ρ s ((ce ρ σ).bind f) e' s' → Ex e' s')
    (h : ∀ v' v σ₁ c₁ s₁, ce ρ σ = .ok v σ₁ → (ce ρ σ).bind f = f v σ₁ → f v σ₁ ≠ .bad → Inv X a c₁ σ₁ ρ s₁ → Evo a.fr c σ s c₁ σ₁ s₁ → VRep X c₁ s₁.heap v' v → Q v' s₁) :
    wpAny (model X.prog X.w) a.A (evalPart e a.env) Q Ex s := by
  refine wpAny_mono (hs a c σ ρ s ok I (bind_ok_ne nb)) (fun v' s₁ p => ?_) fun e' s' p => hx e' s' p.bind
  obtain ⟨v, σ₁, c₁, eq, i, x, r⟩ := p
  have hb : (ce ρ σ).bind f = f v σ₁ := by rw [eq]; rfl
  exact h v' v σ₁ c₁ s₁ eq hb (by rw [← hb]; exact nb) i x r

theorem pySlice_le {α : Type} (xs : List α) (lo hi : Option Int) : (pySlice xs lo hi).length ≤ xs.length := by
  unfold pySlice; rw [List.length_drop, List.length_take]; exact Nat.le_trans (Nat.sub_le _ _) (Nat.min_le_right _ _)
theorem pick_len {n a b : Nat} (hb : b ≤ n) (h : b - a = n) : min (b - a) (n - a) = n := by omega
theorem clip_le {n : Nat} {o : Option Int} {d : Nat} (hd : d ≤ n) : o.elim d (clipAt n) ≤ n := by
  cases o with
  | none => exact hd
  | some i => have := clipAt_cast n i; simp only [Option.elim]; omega
theorem slice_prim {A : Around} {fr : List Addr} {c : Cfg} {σ : St} {s : Shared} {v' l' u' : Value} {v l u : V} {sl : Addr} (I : RInv X fr c σ s) (hs : s.heap.get? sl = some { cls := .type "slice", data := .fields #[l', u', .none] })
    (rv : VRep X c s.heap v' v) (rl : VRep X c s.heap l' l) (ru : VRep X c s.heap u' u) (nb : pSlice v l u σ ≠ .bad) :
    (∃ T id, s.TypeIs v' T ∧ typeLookup (.type T) "__getitem__" = pure (some (.builtin id))) ∧ wpAny (model X.prog X.w) A (getItem v' (.ref sl)) (POk X fr c σ s (pSlice v l u σ)) (fun _ _ => False) s := by
  unfold pSlice at nb ⊢
  cases hl : optInt l with
  | none => rw [hl] at nb; exact absurd rfl nb
  | some lo =>
    cases hu : optInt u with
    | none => rw [hl, hu] at nb; exact absurd rfl nb
    | some hi =>
      rw [hl, hu] at nb
      simp only at nb ⊢
      obtain ⟨pl, ql, hql, hql'⟩ := isPart_of rl hl
      obtain ⟨pu, qu, hqu, hqu'⟩ := isPart_of ru hu
      cases v with
      | str x =>
        obtain ⟨⟨t, rfl⟩, h1, h2⟩ := vrep_str rv
        refine ⟨⟨"str", _, typeIs_str s _ _, F.slot_str_getitem.lookup⟩, ?_⟩
        refine wpAny_getItem_str_slice (l := ql) (u := qu) (st := none) ⟨_, hs, rfl, by rw [hql, hqu]; rfl⟩ rfl ?_
        have e0 : slicePicked ⟨x.toArray⟩ ql qu none = (List.range (hi.elim x.length (clipAt x.length) - lo.elim 0 (clipAt x.length))).map (lo.elim 0 (clipAt x.length) + ·) := by
          unfold slicePicked
          rw [hql', hqu', show (Str.mk x.toArray).length = x.length from by simp [Str.length]]
          exact strPick x lo hi
        have hsl : (pySlice x lo hi).length ≤ x.length := pySlice_le _ _ _
        have rep : ∀ {t : Tok} {h : Heap}, VRep X c h (.str ⟨(pySlice x lo hi).toArray⟩ t) (.str (pySlice x lo hi)) := by
          intro t h
          refine rep_str (fun d hd => h1 d ?_) (Nat.le_trans hsl h2)
          rw [pySlice_pick] at hd
          exact List.mem_of_mem_drop (List.mem_of_mem_take hd)
        have e1 : ((slicePicked ⟨x.toArray⟩ ql qu none).filterMap ((⟨x.toArray⟩ : Str).cps[·]?)) = pySlice x lo hi := by
          rw [e0, pySlice_pick]; exact pick_list x _ _
        unfold sliceMade
        split
        · rename_i hc
          simp only [Bool.and_eq_true, beq_iff_eq] at hc
          have hlen2 : (pySlice x lo hi).length = x.length := by
            have h3 := hc.2
            rw [e0] at h3
            simp only [List.length_map, List.length_range, Str.length, List.size_toArray] at h3
            rw [pySlice_pick, List.length_take, List.length_drop]
            exact pick_len (clip_le (Nat.le_refl _)) h3
          have e2 : pySlice x lo hi = x := by
            have hh : pySlice x lo hi = (x.take (clampI x.length x.length hi)).drop (clampI x.length 0 lo) := rfl
            have hsub : (pySlice x lo hi).Sublist x := by rw [hh]; exact (List.drop_sublist _ _).trans (List.take_sublist _ _)
            exact hsub.eq_of_length hlen2
          show POk X fr c σ s (.ok (.str (pySlice x lo hi)) σ) (.str ⟨x.toArray⟩ t) s
          rw [e2] at rep ⊢
          exact POk.same I rep
        · rw [e1]
          refine ⟨?_, POk.plain I _ rep⟩
          refine Nat.le_trans ?_ (lim_le rfl (Nat.le_trans hsl h2))
          simp [Str.length]
      | _ => exact absurd rfl nb

theorem sE_slice {value : Expr} {lower upper : Option Expr} {p pos : Pos} {cv cl cu : E} (hv : SoundE X D value cv) (hl : SoundP X D lower cl) (hu : SoundP X D upper cu) : SoundE X D (.Subscript value (.Slice lower upper none p) pos) (tri pSlice cv cl cu) := by
  intro a c σ ρ s ok I nb
  unfold tri at nb ⊢
  refine Subscript_ (hv.then ok I nb (fun _ _ p => p) fun v' v σ₁ c₁ s₁ e1 eb nb1 I1 x1 r1 => ?_)
  rw [eb]
  refine wpAny_Slice (hl.then ok I1 nb1 (fun e' s' p => p.trans x1) fun l' l σ₂ c₂ s₂ e2 eb2 nb2 I2 x2 r2 => ?_)
  rw [eb2]
  refine hu.then ok I2 nb2 (fun e' s' p => p.trans (x1.trans x2)) fun u' u σ₃ c₃ s₃ e3 eb3 nb3 I3 x3 r3 => ?_
  rw [eb3, evalPart_none]
  refine wpAny_pure ?_
  generalize ho : ({ cls := .type "slice", data := .fields #[l', u', .none] } : Obj) = oS
  have q : Quiet [] a.fr s₃.heap (s₃.heap.push oS) := Quiet.push ..
  have I4 : Inv X a c₃ σ₃ ρ { s₃ with heap := s₃.heap.push oS } := I3.quiet (t := s₃.toks) q (by simp) (by simp) (by simp)
  have x4 : Evo a.fr c₃ σ₃ s₃ c₃ σ₃ { s₃ with heap := s₃.heap.push oS } := (EvoO.self).quiet (t := s₃.toks) q (by simp)
  have r1' := ((r1.evo x2 I1.r.rel I1.r.fro (fun _ _ => id)).evo x3 I2.r.rel I2.r.fro (fun _ _ => id)).push oS
  have r2' := (r2.evo x3 I2.r.rel I2.r.fro (fun _ _ => id)).push oS
  obtain ⟨⟨T, id, hT, hlk⟩, hg⟩ := slice_prim (A := a.A) (s := { s₃ with heap := s₃.heap.push oS }) (sl := s₃.heap.objs.size) I4.r (by rw [ho]; exact Heap.get?_push_size _ (by subst ho; rfl)) r1' r2' (r3.push oS) nb3
  refine tail_any (ops := [.ref s₃.heap.objs.size, v']) hT hlk (wpAny_mono hg (fun v5 s5 p5 => (p5.act I4).trans ((x1.trans x2).trans (x3.trans x4))) fun _ _ f => f.elim) rfl

/-! truth -/
theorem t_true : TruePrim X := by
  intro A fr c σ s a' a b ro I ra h
  have list : ∀ vs, asList σ a = some vs → (!vs.isEmpty) = b → wpAny (model X.prog X.w) A (truthy a') (fun b' s' => b' = b ∧ ∃ t, s' = { s with toks := t }) (fun _ _ => False) s := by
    intro vs hv hb
    obtain ⟨l, items, n, rfl, g, r, hl⟩ := list_of I.rel ra hv
    have hlen := r.length
    simp only [Array.length_toList] at hlen
    simp only [LIM] at hl
    refine wpAny_truthy_list (lst_is g) (by omega) ⟨?_, _, rfl⟩
    rw [← hb]
    cases vs <;> simp_all [Array.isEmpty]
  cases a with
  | none => rw [vrep_none ra]; simp only [truth, Option.some.injEq] at h; exact fun _ _ _ => ⟨h, s.toks, rfl⟩
  | bool x => rw [vrep_bool ra]; simp only [truth, Option.some.injEq] at h; exact wpAny_truthy_bool ⟨h, s.toks, rfl⟩
  | int i => obtain ⟨t, rfl⟩ := vrep_int ra; simp only [truth, Option.some.injEq] at h; exact P.truthy_int ⟨h, s.toks, rfl⟩
  | str x =>
    obtain ⟨⟨t, rfl⟩, h1, h2⟩ := vrep_str ra
    simp only [truth, Option.some.injEq] at h
    simp only [LIM] at h2
    refine P.truthy_str (by simp only [Str.length, List.size_toArray]; omega) ⟨?_, _, rfl⟩
    rw [← h]
    cases x <;> simp [Str.length] <;> omega
  | tup vs =>
    obtain ⟨l, items, n, rfl, hf, g, r, hl⟩ := vrep_tup ra
    simp only [truth, Option.some.injEq] at h
    have hlen := r.length
    simp only [Array.length_toList] at hlen
    simp only [LIM] at hl
    refine truthy_tuple (tup_is g) (by omega) ⟨?_, _, rfl⟩
    rw [← h]
    cases vs <;> simp_all [Array.isEmpty]
  | lst vs => exact list vs rfl (by simpa [truth] using h)
  | loc l =>
    simp only [truth] at h
    cases ho : σ[l]? with
    | none => rw [ho] at h; cases h
    | some o =>
      rw [ho] at h
      cases o with
      | list vs => exact list vs (by simp [asList, ho]) (by simpa using h)
      | _ => cases h
  | _ => cases h
end
end Mine
end

section
namespace Mine
open PySem PyProof.Rows

section
variable {X : Ctx} {D : Dom}

noncomputable def L1 (p : V → St → Out V) : F := fun vs σ => match vs with | [a] => p a σ | _ => .bad
noncomputable def L2 (p : V → V → St → Out V) : F := fun vs σ => match vs with | [a, b] => p a b σ | _ => .bad
theorem app_L1 (p : V → St → Out V) (a : E) : app (L1 p) [a] = un p a := by
  funext ρ σ
  simp only [app, evs, un]
  cases a ρ σ <;> rfl
/-- a built-in of any arguments; hn: whether it wants no exception at hand -/
noncomputable def PrimL (X : Ctx) (hn : Bool) (t : List Value → Sem Value) (p : F) : Prop :=
  ∀ (A : Around) (fr : List Addr) (c : Cfg) (σ : St) (s : Shared) (vs' : List Value) (vs : List V), PRoom A → (hn = true → A.handled = none) → RInv X fr c σ s → VReps X c s.heap vs' vs → p vs σ ≠ .bad →
    wpAny (model X.prog X.w) A (t vs') (POk X fr c σ s (p vs σ)) (fun _ _ => False) s
theorem PrimL.of1 {t : List Value → Sem Value} {p : V → St → Out V} (h : Prim1 X (fun v => t [v]) p) : PrimL X false t (L1 p) := by
  intro A fr c σ s vs' vs ro hh I r nb
  match vs, r, nb with
  | [a], r, nb =>
    simp only [VReps] at r
    obtain ⟨v, r', rfl, r1, rfl⟩ := r
    exact h A fr c σ s v a ro I r1 nb
  | [], _, nb => exact absurd rfl nb
  | _ :: _ :: _, _, nb => exact absurd rfl nb
theorem PrimL.of2 {t : List Value → Sem Value} {p : V → V → St → Out V} (h : Prim2 X (fun v w => t [v, w]) p) : PrimL X false t (L2 p) := by
  intro A fr c σ s vs' vs ro hh I r nb
  match vs, r, nb with
  | [a, b], r, nb =>
    simp only [VReps] at r
    obtain ⟨v, r', rfl, r1, w, r'', rfl, r2, rfl⟩ := r
    exact h A fr c σ s v w a b ro I r1 r2 nb
  | [], _, nb => exact absurd rfl nb
  | [_], _, nb => exact absurd rfl nb
  | _ :: _ :: _ :: _, _, nb => exact absurd rfl nb

/-- a value that is called plainly -/
noncomputable def Callee (f : Value) : Prop := (∃ T, f = .type T) ∨ ∃ id, f = .builtin id
theorem callWith_of {M : Model} {A : Around} {E : Value → Shared → Prop} {s : Shared} {pos : Pos} {f : Value} {first : List Value} {args : List (Bool × Sem Value)} {Q : Value → Shared → Prop} (hf : Callee f) (hplain : args.any (·.1) = false)
    (h : wpAny M A (spliced args) (fun vs s₁ => wpAny M A (call f (first ++ vs)) Q E s₁) E s) : wpAny M A (callWith pos f first args []) Q E s := by
  rcases hf with ⟨T, rfl⟩ | ⟨id, rfl⟩
  · exact PySem.callWith_type hplain (evalArgs_spliced hplain h)
  · exact Calls.callWith_builtin hplain (evalArgs_spliced hplain h)

theorem sE_bi {x : Str} {np pos : Pos} {es : List Expr} {ces : List E} {f : Value} {p : F} {hn : Bool} (xo : XOk X) (hk : D.sc.names.lookup x = some .globalImplicit) (hd : (x == ("__debug__" : Str)) = false) (hm : X.mg x = none) (hv : bootBuiltins x = some f) (hnm : x ≠ "__name__") (hf : Callee f)
    (hp : PrimL X hn (fun vs => call f vs) p) (hrs : hn = true → D.rs = true) (h : SoundA X D es ces) (hs : ∀ env, (backTo pos (starEach es env)).any (·.1) = false) (hcall : ∀ env, eval (.Call (.Name x np) es [] pos) env = (do callWith pos (← eval (.Name x np) env) [] (backTo pos (starEach es env)) (backToKw pos (keywordEach [] env)))) : SoundE X D (.Call (.Name x np) es [] pos) (app p ces) := by
  intro a c σ ρ s ok I nb
  unfold app at nb ⊢
  refine Call_ (name_bi xo ok I hk hd hm hv hnm ?_) (hcall _)
  show wpAny _ _ (callWith pos f [] (backTo pos (starEach es a.env)) []) _ _ s
  refine callWith_of hf (hs _) (h.then ok I nb (fun _ _ p => p) fun vs' vs σ₁ c₁ s₁ e1 eb nb1 I1 x1 r1 => ?_)
  rw [eb]
  exact wpAny_mono (hp a.A a.fr c₁ σ₁ s₁ vs' vs ok.room.p (fun q => ok.hd (hrs q)) I1.r r1 nb1) (fun v3 s3 p3 => (p3.act I1).trans x1) fun _ _ f => f.elim

/-! len, int, list, all -/
theorem p_len : Prim1 X (fun v => call (.builtin "len") [v]) pLen := by
  intro A fr c σ s a' a ro I ra nb
  have list : ∀ vs, asList σ a = some vs → wpAny (model X.prog X.w) A (call (.builtin "len") [a']) (POk X fr c σ s (.ok (.int vs.length) σ)) (fun _ _ => False) s := by
    intro vs hv
    obtain ⟨l, items, n, rfl, g, r, hl⟩ := list_of I.rel ra hv
    have hlen := r.length
    simp only [Array.length_toList] at hlen
    simp only [LIM] at hl
    exact Calls.call_len_list (lst_is g) (by omega) (by rw [hlen]; exact POk.plain I _ rep_int)
  cases a with
  | str x =>
    obtain ⟨⟨t, rfl⟩, h1, h2⟩ := vrep_str ra
    simp only [LIM] at h2
    have e : (Str.mk x.toArray).length = x.length := by simp [Str.length]
    exact P.len_str (by rw [e]; omega) (by rw [e]; exact POk.plain I _ rep_int)
  | tup vs =>
    obtain ⟨l, items, n, rfl, hf, g, r, hl⟩ := vrep_tup ra
    have hlen := r.length
    simp only [Array.length_toList] at hlen
    simp only [LIM] at hl
    exact P.len_tuple (n := n) g (by omega) (by rw [hlen]; exact POk.plain I _ rep_int)
  | lst vs => exact list vs rfl
  | loc l =>
    simp only [pLen] at nb ⊢
    cases ho : σ[l]? with
    | none => rw [ho] at nb; exact absurd rfl nb
    | some o =>
      cases o with
      | list vs => exact list vs (by simp [asList, ho])
      | _ => rw [ho] at nb; exact absurd rfl nb
  | _ => exact absurd rfl nb
end
end Mine
end

section
namespace Mine
open PySem PyProof.Rows PySem.W

section
variable {X : Ctx} {D : Dom}

theorem p_isi_str : Prim1 X (fun v => call (.builtin "isinstance") [v, .type "str"]) (isI .str) := by
  intro A fr c σ s a' a ro I ra nb
  have list : ∀ vs, asList σ a = some vs → isI .str a σ = .ok (.bool false) σ → wpAny (model X.prog X.w) A (call (.builtin "isinstance") [a', .type "str"]) (POk X fr c σ s (isI .str a σ)) (fun _ _ => False) s := by
    intro vs hv hp
    rw [hp]
    obtain ⟨l, items, n, rfl, g, r, hl⟩ := list_of I.rel ra hv
    exact IsiPair.list_str g rfl (POk.plain I _ rep_bool)
  cases a with
  | none => rw [vrep_none ra]; exact IsiPair.NoneType_str (POk.plain I _ rep_bool)
  | bool x => rw [vrep_bool ra]; exact IsiPair.bool_str (POk.plain I _ rep_bool)
  | int x => obtain ⟨t, rfl⟩ := vrep_int ra; exact IsiPair.int_str (POk.plain I _ rep_bool)
  | str x => obtain ⟨⟨t, rfl⟩, _, _⟩ := vrep_str ra; exact IsiPair.str_str (POk.same I rep_bool)
  | lst vs => exact list vs rfl rfl
  | tup vs =>
    obtain ⟨l, items, n, rfl, hf, g, r, hl⟩ := vrep_tup ra
    exact IsiPair.tuple_str g rfl (POk.plain I _ rep_bool)
  | loc l =>
    cases ho : σ[l]? with
    | none => simp [isI, isInst, ho] at nb
    | some o =>
      cases o with
      | list vs => exact list vs (by simp [asList, ho]) (by simp [isI, isInst, ho])
      | _ => simp [isI, isInst, ho] at nb
  | _ => exact absurd rfl nb
theorem p_isi_int : Prim1 X (fun v => call (.builtin "isinstance") [v, .type "int"]) (isI .int) := by
  intro A fr c σ s a' a ro I ra nb
  have list : ∀ vs, asList σ a = some vs → isI .int a σ = .ok (.bool false) σ → wpAny (model X.prog X.w) A (call (.builtin "isinstance") [a', .type "int"]) (POk X fr c σ s (isI .int a σ)) (fun _ _ => False) s := by
    intro vs hv hp
    rw [hp]
    obtain ⟨l, items, n, rfl, g, r, hl⟩ := list_of I.rel ra hv
    exact IsiPair.list_int g rfl (POk.plain I _ rep_bool)
  cases a with
  | none => rw [vrep_none ra]; exact IsiPair.NoneType_int (POk.plain I _ rep_bool)
  | bool x => rw [vrep_bool ra]; exact IsiPair.bool_int (POk.same I rep_bool)
  | int x => obtain ⟨t, rfl⟩ := vrep_int ra; exact IsiPair.int_int (POk.same I rep_bool)
  | str x => obtain ⟨⟨t, rfl⟩, _, _⟩ := vrep_str ra; exact IsiPair.str_int (POk.plain I _ rep_bool)
  | lst vs => exact list vs rfl rfl
  | tup vs =>
    obtain ⟨l, items, n, rfl, hf, g, r, hl⟩ := vrep_tup ra
    exact IsiPair.tuple_int g rfl (POk.plain I _ rep_bool)
  | loc l =>
    cases ho : σ[l]? with
    | none => simp [isI, isInst, ho] at nb
    | some o =>
      cases o with
      | list vs => exact list vs (by simp [asList, ho]) (by simp [isI, isInst, ho])
      | _ => simp [isI, isInst, ho] at nb
  | _ => exact absurd rfl nb
theorem p_isi_bool : Prim1 X (fun v => call (.builtin "isinstance") [v, .type "bool"]) (isI .bool) := by
  intro A fr c σ s a' a ro I ra nb
  have list : ∀ vs, asList σ a = some vs → isI .bool a σ = .ok (.bool false) σ → wpAny (model X.prog X.w) A (call (.builtin "isinstance") [a', .type "bool"]) (POk X fr c σ s (isI .bool a σ)) (fun _ _ => False) s := by
    intro vs hv hp
    rw [hp]
    obtain ⟨l, items, n, rfl, g, r, hl⟩ := list_of I.rel ra hv
    exact IsiPair.list_bool g rfl (POk.plain I _ rep_bool)
  cases a with
  | none => rw [vrep_none ra]; exact IsiPair.NoneType_bool (POk.plain I _ rep_bool)
  | bool x => rw [vrep_bool ra]; exact IsiPair.bool_bool (POk.same I rep_bool)
  | int x => obtain ⟨t, rfl⟩ := vrep_int ra; exact IsiPair.int_bool (POk.plain I _ rep_bool)
  | str x => obtain ⟨⟨t, rfl⟩, _, _⟩ := vrep_str ra; exact IsiPair.str_bool (POk.plain I _ rep_bool)
  | lst vs => exact list vs rfl rfl
  | tup vs =>
    obtain ⟨l, items, n, rfl, hf, g, r, hl⟩ := vrep_tup ra
    exact IsiPair.tuple_bool g rfl (POk.plain I _ rep_bool)
  | loc l =>
    cases ho : σ[l]? with
    | none => simp [isI, isInst, ho] at nb
    | some o =>
      cases o with
      | list vs => exact list vs (by simp [asList, ho]) (by simp [isI, isInst, ho])
      | _ => simp [isI, isInst, ho] at nb
  | _ => exact absurd rfl nb
theorem p_isi_list : Prim1 X (fun v => call (.builtin "isinstance") [v, .type "list"]) (isI .list) := by
  intro A fr c σ s a' a ro I ra nb
  have list : ∀ vs, asList σ a = some vs → isI .list a σ = .ok (.bool true) σ → wpAny (model X.prog X.w) A (call (.builtin "isinstance") [a', .type "list"]) (POk X fr c σ s (isI .list a σ)) (fun _ _ => False) s := by
    intro vs hv hp
    rw [hp]
    obtain ⟨l, items, n, rfl, g, r, hl⟩ := list_of I.rel ra hv
    exact IsiPair.list_list g rfl (POk.same I rep_bool)
  cases a with
  | none => rw [vrep_none ra]; exact IsiPair.NoneType_list (POk.plain I _ rep_bool)
  | bool x => rw [vrep_bool ra]; exact IsiPair.bool_list (POk.plain I _ rep_bool)
  | int x => obtain ⟨t, rfl⟩ := vrep_int ra; exact IsiPair.int_list (POk.plain I _ rep_bool)
  | str x => obtain ⟨⟨t, rfl⟩, _, _⟩ := vrep_str ra; exact IsiPair.str_list (POk.plain I _ rep_bool)
  | lst vs => exact list vs rfl rfl
  | tup vs =>
    obtain ⟨l, items, n, rfl, hf, g, r, hl⟩ := vrep_tup ra
    exact IsiPair.tuple_list g rfl (POk.plain I _ rep_bool)
  | loc l =>
    cases ho : σ[l]? with
    | none => simp [isI, isInst, ho] at nb
    | some o =>
      cases o with
      | list vs => exact list vs (by simp [asList, ho]) (by simp [isI, isInst, ho])
      | _ => simp [isI, isInst, ho] at nb
  | _ => exact absurd rfl nb
theorem p_isi_tuple : Prim1 X (fun v => call (.builtin "isinstance") [v, .type "tuple"]) (isI .tuple) := by
  intro A fr c σ s a' a ro I ra nb
  have list : ∀ vs, asList σ a = some vs → isI .tuple a σ = .ok (.bool false) σ → wpAny (model X.prog X.w) A (call (.builtin "isinstance") [a', .type "tuple"]) (POk X fr c σ s (isI .tuple a σ)) (fun _ _ => False) s := by
    intro vs hv hp
    rw [hp]
    obtain ⟨l, items, n, rfl, g, r, hl⟩ := list_of I.rel ra hv
    exact IsiPair.list_tuple g rfl (POk.plain I _ rep_bool)
  cases a with
  | none => rw [vrep_none ra]; exact IsiPair.NoneType_tuple (POk.plain I _ rep_bool)
  | bool x => rw [vrep_bool ra]; exact IsiPair.bool_tuple (POk.plain I _ rep_bool)
  | int x => obtain ⟨t, rfl⟩ := vrep_int ra; exact IsiPair.int_tuple (POk.plain I _ rep_bool)
  | str x => obtain ⟨⟨t, rfl⟩, _, _⟩ := vrep_str ra; exact IsiPair.str_tuple (POk.plain I _ rep_bool)
  | lst vs => exact list vs rfl rfl
  | tup vs =>
    obtain ⟨l, items, n, rfl, hf, g, r, hl⟩ := vrep_tup ra
    exact IsiPair.tuple_tuple g rfl (POk.same I rep_bool)
  | loc l =>
    cases ho : σ[l]? with
    | none => simp [isI, isInst, ho] at nb
    | some o =>
      cases o with
      | list vs => exact list vs (by simp [asList, ho]) (by simp [isI, isInst, ho])
      | _ => simp [isI, isInst, ho] at nb
  | _ => exact absurd rfl nb

end
end Mine
end

section
namespace Mine
open PySem PyProof.Rows PySem.W

section
variable {X : Ctx} {D : Dom}

/-! a place's list changed -/
theorem live_of {c : Cfg} {σ : St} {l : Nat} {a : Addr} {o : PObj} (m : c.mu[l]? = some a) (e : σ[l]? = some o) (d : o.isDead = false) : live c σ a := ⟨l, o, m, e, d⟩
theorem set_getD {α : Type} {xs : List α} {i j : Nat} {x y : α} (h : (xs.set i x)[j]? = some y) : (i = j ∧ y = x) ∨ (i ≠ j ∧ xs[j]? = some y) := by
  rw [List.getElem?_set] at h
  split at h
  · rename_i q
    split at h
    · exact .inl ⟨q, by cases h; rfl⟩
    · cases h
  · rename_i q; exact .inr ⟨q, h⟩

theorem RInv.change {fr : List Addr} {c : Cfg} {σ : St} {s : Shared} {l : Nat} {a : Addr} {o o' : PObj} {h' : Heap} {t : Nat} (I : RInv X fr c σ s) (m : c.mu[l]? = some a) (e : σ[l]? = some o) (d : o.isDead = false) (d' : o'.isDead = false) (hs : Heap.SameBut a s.heap h') (ho : ObjRep X c h' a o') (hrec : ∃ ob, h'.get? a = some ob ∧ ∀ vs, ob.data ≠ .fields vs) :
    RInv X fr c (σ.set l o') { s with heap := h', toks := t } ∧ Evo fr c σ s c (σ.set l o') { s with heap := h', toks := t } := by
  obtain ⟨n1, n2, n3⟩ := I.rel.obj l o a e d m
  have la : live c σ a := live_of m e d
  have hlive : ∀ b, live c (σ.set l o') b → live c σ b := by
    rintro b ⟨j, ob, mj, ej, dj⟩
    rcases set_getD ej with ⟨rfl, rfl⟩ | ⟨ne, ej'⟩
    · rw [m] at mj; cases mj; exact la
    · exact ⟨j, ob, mj, ej', dj⟩
  have hfrne : ∀ b ∈ fr, b ≠ a := fun b hb q => (I.frl b hb).1 (q ▸ la)
  have hfz : ∀ b, c.frz b → b ≠ a := fun b f q => n1 (q ▸ f)
  refine ⟨⟨⟨by rw [List.length_set]; exact I.rel.len, I.rel.nd, fun b hb => ?_, fun j ob b ej dj mj => ?_, fun b f => ?_, fun b ob q => ?_⟩, fun f hf => ?_, fun f hf => ⟨fun q => (I.frl f hf).1 (hlive f q), (I.frl f hf).2⟩⟩, ?_⟩
  · by_cases q : b = a
    · subst q; exact hrec
    · obtain ⟨ob, e', k⟩ := I.rel.there b hb
      exact ⟨ob, (hs.2 b q).trans e', k⟩
  · rcases set_getD ej with ⟨rfl, rfl⟩ | ⟨ne, ej'⟩
    · rw [m] at mj; cases mj; exact ⟨n1, n2, ho⟩
    · obtain ⟨k1, k2, k3⟩ := I.rel.obj j ob b ej' dj mj
      have nab : b ≠ a := by
        rintro rfl
        exact ne ((List.getElem?_inj (List.getElem?_eq_some_iff.mp m).1 I.rel.nd).mp (m.trans mj.symm))
      exact ⟨k1, k2, ObjRep.mono (fun _ _ e => e) (fun _ f => f) (fun b' ob f e => (hs.2 b' (hfz b' f)).trans e) (fun ob e => (hs.2 b nab).trans e) ob k3⟩
  · obtain ⟨ob, e', k⟩ := I.rel.frz b f
    exact ⟨ob, (hs.2 b (hfz b f)).trans e', k⟩
  · exact (hs.2 b (by rintro rfl; rw [n2] at q; cases q)).trans (I.rel.base b ob q)
  · obtain ⟨ob, es, ep, e', k⟩ := I.fro f hf
    exact ⟨ob, es, ep, (hs.2 f (hfrne f hf)).trans e', k⟩
  · exact {
      same := fun b ob e' nl _ _ => (hs.2 b (by rintro rfl; exact nl la)).trans e'
      frs := fun b ob e' nl _ _ => ⟨ob.slots, (hs.2 b (by rintro rfl; exact nl la)).trans e'⟩
      exist := fun b ob e' => by
        by_cases q : b = a
        · subst q; exact ⟨_, hrec.choose_spec.1⟩
        · exact ⟨ob, (hs.2 b q).trans e'⟩
      lives := fun b q => .inl (hlive b q)
      mu := fun _ _ e => e
      frz := fun _ f => f
      newf := fun _ f => .inl f
      gens := rfl
      os := rfl }

/-- a list at a place gets other items -/
theorem POk.setList {fr : List Addr} {c : Cfg} {σ : St} {s : Shared} {l : Nat} {a : Addr} {vs ws : List V} {h' : Heap} {t : Nat} {items' : Array Value} {n' : Nat} (I : RInv X fr c σ s) (m : c.mu[l]? = some a) (e : σ[l]? = some (.list vs)) (hs : Heap.SameBut a s.heap h') (he : h'.get? a = some (lstObj items' n')) (r : VReps X c s.heap items'.toList ws) (hl : ws.length ≤ LIM) :
    POk X fr c σ s (.ok .none (σ.set l (.list ws))) .none { s with heap := h', toks := t } := by
  obtain ⟨n1, n2, n3⟩ := I.rel.obj l _ a e rfl m
  have r' : VReps X c h' items'.toList ws := VReps.mono (fun _ _ e => e) (fun _ f => f) (fun b ob f e => (hs.2 b (by rintro rfl; exact n1 f)).trans e) ws r
  obtain ⟨R, x⟩ := I.change (t := t) m e rfl rfl hs (o' := .list ws) ⟨items', n', he, r', hl⟩ ⟨_, he, fun vs q => by cases q⟩
  exact ⟨.none, _, c, rfl, R, x, rep_none⟩

theorem VReps.snoc {c : Cfg} {h : Heap} {vs' : Array Value} {vs : List V} {v' : Value} {v : V} (r : VReps X c h vs'.toList vs) (q : VRep X c h v' v) : VReps X c h (vs'.push v').toList (vs ++ [v]) := by
  rw [Array.toList_push]
  exact VReps.append _ _ r (by simp only [VReps]; exact ⟨v', [], rfl, q, rfl⟩)

theorem loc_list {c : Cfg} {σ : St} {h : Heap} {v' : Value} {l : Nat} {vs : List V} (R : Rel X c σ h) (r : VRep X c h v' (.loc l)) (e : σ[l]? = some (.list vs)) : ∃ a items n, v' = .ref a ∧ c.mu[l]? = some a ∧ h.get? a = some (lstObj items n) ∧ VReps X c h items.toList vs ∧ vs.length ≤ LIM := by
  simp only [VRep] at r
  obtain ⟨a, rfl, m⟩ := r
  obtain ⟨_, _, items, n, g, q, hl⟩ := R.obj l _ a e rfl m
  exact ⟨a, items, n, rfl, m, g, q, hl⟩

/-! methods of lists and texts -/
structure MethOk (T : String) (name : Str) (id : String) : Prop where
  pa : PlainAttrs T
  slot : PySem.Slot T name id
  ty : typeOf (.builtin id) = pure (.type "method_descriptor")
noncomputable def RecvOk (X : Ctx) (T : String) (chk : St → V → Bool) : Prop :=
  ∀ (fr : List Addr) (c : Cfg) (σ : St) (s : Shared) (v' : Value) (v : V), RInv X fr c σ s → VRep X c s.heap v' v → chk σ v = true → s.TypeIs v' T ∧ ∀ a, v' = .ref a → ∃ ob, s.heap.get? a = some ob ∧ ob.dict = none
theorem recv_list : RecvOk X "list" isL := by
  intro fr c σ s v' v I r h
  unfold isL at h
  obtain ⟨vs, hv⟩ := Option.isSome_iff_exists.mp h
  obtain ⟨a, items, n, rfl, g, _, _⟩ := list_of I.rel r hv
  exact ⟨(lst_is g).typeIs, fun b q => by cases q; exact ⟨_, g, rfl⟩⟩
theorem recv_str : RecvOk X "str" isS := by
  intro fr c σ s v' v I r h
  cases v with
  | str x => obtain ⟨⟨t, rfl⟩, _, _⟩ := vrep_str r; exact ⟨typeIs_str _ _ _, fun b q => by cases q⟩
  | _ => cases h

theorem sE_meth1 {o e : Expr} {name : Str} {apos pos : Pos} {T id : String} {chk : St → V → Bool} {p : V → V → St → Out V} {hn : Bool} {co ce : E} (hm : MethOk T name id) (hr : RecvOk X T chk) (hp : PrimL X hn (fun vs => call (.builtin id) vs) (L2 p)) (hrs : hn = true → D.rs = true)
    (hbase : ∀ env, attributeBase o name env (eval o env) = eval o env) (hs : ∀ env, starEach [e] env = [(false, eval e env)]) (hline : (apos.endLine == pos.line) = true) (ho : SoundE X D o co) (he : SoundE X D e ce) : SoundE X D (.Call (.Attribute o name apos) [e] [] pos) (binM chk p co ce) := by
  intro a c σ ρ s ok I nb
  unfold binM at nb ⊢
  refine Call_method1 (hbase _) (hs _) hline (ho.then ok I nb (fun _ _ p => p) fun v' v σ₁ c₁ s₁ e1 eb nb1 I1 x1 r1 => ?_)
  rw [eb]
  split at nb1
  · rename_i hc
    rw [if_pos hc]
    obtain ⟨hT, hd⟩ := hr a.fr c₁ σ₁ s₁ v' v I1.r r1 hc
    refine ⟨T, id, hm.pa, hm.slot, hm.ty, hT, hd, ?_⟩
    refine callWith_of (.inr ⟨id, rfl⟩) rfl (Calls.spliced_cons (he.then ok I1 nb1 (fun e' s' p => p.trans x1) fun w' w σ₂ c₂ s₂ e2 eb2 nb2 I2 x2 r2 => Calls.spliced_nil ?_))
    rw [eb2]
    refine wpAny_mono (hp a.A a.fr c₂ σ₂ s₂ [v', w'] [v, w] ok.room.p (fun q => ok.hd (hrs q)) I2.r ?_ nb2) (fun v3 s3 p3 => (p3.act I2).trans (x1.trans x2)) fun _ _ f => f.elim
    simp only [VReps]
    exact ⟨v', [w'], rfl, r1.evo x2 I1.r.rel I1.r.fro (fun _ _ (h : noOwn _) => h), w', [], rfl, r2, rfl⟩
  · exact absurd rfl nb1

theorem ip_append : Prim2 X (fun v w => call (.builtin "list.append") [v, w]) pAppend := by
  intro A fr c σ s a' b' a b ro I ra rb nb
  cases a with
  | loc l =>
    simp only [pAppend] at nb ⊢
    cases ho : σ[l]? with
    | none => rw [ho] at nb; exact absurd rfl nb
    | some o =>
      cases o with
      | list vs =>
        rw [ho] at nb
        simp only at nb ⊢
        split at nb
        · rename_i hlt
          rw [if_pos hlt]
          obtain ⟨d, items, n, rfl, m, g, r, hl⟩ := loc_list I.rel ra ho
          have hlen := r.length
          simp only [Array.length_toList] at hlen
          refine wpAny_list_append_plain ⟨n, g⟩ (fun h' pl hs => ?_) (lim_le hlen (Nat.le_of_lt hlt))
          obtain ⟨n', g'⟩ := pl
          exact POk.setList (t := s.toks) I m ho hs g' (r.snoc rb) (by simp; omega)
        · exact absurd rfl nb
      | _ => rw [ho] at nb; exact absurd rfl nb
  | _ => exact absurd rfl nb
theorem m_append : MethOk "list" "append" "list.append" := ⟨F.plainAttrs_list, slot_list_append, type_list_append⟩

/-- an expression that stands alone -/
theorem sS_expr {e : Expr} {pos : Pos} {ce : E} (hs : ∀ env, swapsWith e none pos.line env = pure false) (h : SoundE X D e ce) : SoundS X D (.Expr e pos) (exprS ce) := by
  intro a c σ ρ s ok I nb
  unfold exprS at nb ⊢
  refine wpAny_Expr_any (h.to ok I nb (fun _ _ p => p) fun v' v σ₁ c₁ s₁ e1 eb nb1 I1 x1 r1 => ?_) (by unfold interactive; rw [I.env.kind]; rfl) (hs _)
  rw [eb]
  exact .inl ⟨ρ, σ₁, c₁, rfl, rfl, I1, EvoO.weak x1⟩

/-! xs[i] = v -/
noncomputable def SetPrim (X : Ctx) (p : V → V → V → St → Out V) : Prop :=
  ∀ (A : Around) (fr : List Addr) (c : Cfg) (σ : St) (s : Shared) (o' i' v' : Value) (o i v : V), PRoom A → RInv X fr c σ s → VRep X c s.heap o' o → VRep X c s.heap i' i → VRep X c s.heap v' v → p o i v σ ≠ .bad →
    wpAny (model X.prog X.w) A (setItem o' i' v') (fun _ s' => POk X fr c σ s (p o i v σ) .none s') (fun _ _ => False) s
theorem sp_put : SetPrim X pPut := by
  intro A fr c σ s o' i' v' o i v ro I ra ri rv nb
  cases o with
  | loc l =>
    simp only [pPut] at nb ⊢
    cases ho : σ[l]? with
    | none => rw [ho] at nb; exact absurd rfl nb
    | some ob =>
      cases ob with
      | dictS es =>
        rw [ho] at nb
        simp only at nb ⊢
        cases hk : asStrs i with
        | none => rw [hk] at nb; exact absurd rfl nb
        | some k =>
          rw [hk] at nb
          simp only at nb ⊢
          split at nb
          · rename_i hlt
            rw [if_pos hlt]
            obtain ⟨d, xs, rfl, m, hs, hm, hf, k1, k2⟩ := loc_dictS I.rel ra ho
            obtain ⟨ka, rfl, fk, tk⟩ := key_strs ri hk
            have hn : (xs.map (·.1)).Nodup := let ⟨_, _, _, _, _, _, _, _, q⟩ := hm; q
            obtain ⟨j1, j2, j3⟩ := stored_put (enc := fun k => k.map strOf) (X := X) (c := c) (h := s.heap) k ka (fun a b e => map_strOf_inj e) rv es xs hn k1 k2
            have hlen : xs.length = es.length := by have := congrArg List.length k1; simpa using this
            refine wpAny_setItem_heap (cLine_room ro) tk hm (fun h' hm' hs' => ?_) (lim_le hlen (Nat.le_of_lt hlt))
            have n1 := (I.rel.obj l _ d ho rfl m).1
            obtain ⟨R, x⟩ := I.change (t := s.toks + (tupleKind (strKind X.prog X.w)).draws (k.map strOf)) m ho rfl rfl hs' (o' := .dictS (putKV k v es))
              ⟨hs, _, hm', fun x hx => by
                rcases j3 x hx with q | ⟨y, hy, q⟩
                · rw [q]; exact fk
                · rw [q]; exact hf y hy, j1, VReps.mono (fun _ _ e => e) (fun _ f => f) (fun b ob f e => (hs'.2 b (by rintro rfl; exact n1 f)).trans e) _ j2⟩
              (let ⟨o, es, ep, e, _, dd, _⟩ := hm'; ⟨o, e, fun vs q => by rw [dd] at q; cases q⟩)
            exact ⟨.none, _, c, rfl, R, x, rep_none⟩
          · exact absurd rfl nb
      | _ => rw [ho] at nb; exact absurd rfl nb
  | _ => exact absurd rfl nb

/-- o[i] = value -/
theorem sS_put {o i value : Expr} {pos' pos : Pos} {cv co ci : E} {p : V → V → V → St → Out V} (hp : SetPrim X p) (hs : ∀ env, swapsWith value (some (.Subscript o i pos')) pos.line env = pure false) (hv : SoundE X D value cv) (ho : SoundE X D o co) (hi : SoundE X D i ci) : SoundS X D (.Assign [.Subscript o i pos'] value pos) (exprS (tri (fun v o i σ => p o i v σ) cv co ci)) := by
  intro a c σ ρ s ok I nb
  have nb0 := to_ok_ne nb
  unfold exprS
  have key : wpAny (model X.prog X.w) a.A (exec (.Assign [.Subscript o i pos'] value pos) a.env) (fun f s' => f = .next ∧ OkPost X a c σ ρ s (tri (fun v o i σ => p o i v σ) cv co ci ρ σ) .none s') (ExPost X a c σ ρ s (tri (fun v o i σ => p o i v σ) cv co ci ρ σ)) s := by
    unfold tri at nb0 ⊢
    refine wpAny_Assign_Subscript (hv.then ok I nb0 (fun _ _ p => p) fun v' v σ₁ c₁ s₁ e1 eb nb1 I1 x1 r1 => ?_) (hs _)
    rw [eb]
    refine ho.then ok I1 nb1 (fun e' s' p => p.trans x1) fun o' ov σ₂ c₂ s₂ e2 eb2 nb2 I2 x2 r2 => ?_
    rw [eb2]
    refine hi.then ok I2 nb2 (fun e' s' p => p.trans (x1.trans x2)) fun i' iv σ₃ c₃ s₃ e3 eb3 nb3 I3 x3 r3 => ?_
    rw [eb3]
    refine wpAny_mono (hp a.A a.fr c₃ σ₃ s₃ o' i' v' ov iv v ok.room.p I3.r (r2.evo x3 I2.r.rel I2.r.fro (fun _ _ => id)) r3 ((r1.evo x2 I1.r.rel I1.r.fro (fun _ _ => id)).evo x3 I2.r.rel I2.r.fro (fun _ _ => id)) nb3) (fun _ s4 p4 => ⟨rfl, (p4.act I3).trans ((x1.trans x2).trans x3)⟩) fun _ _ f => f.elim
  refine wpAny_mono key (fun f s' q => ?_) fun e' s' q => SExc.ofEx q
  obtain ⟨rfl, v, σ', c', h1, i', x', r'⟩ := q
  rw [h1]
  exact .inl ⟨ρ, σ', c', rfl, rfl, i', EvoO.weak x'⟩
end
end Mine
end

section
namespace Mine
open PySem PyProof.Rows PySem.W
end Mine
end

section
namespace Mine
open PySem PyProof.Rows PySem.W
end Mine
end

section
namespace Mine
open PySem PyProof.Rows PySem.W

section
variable {X : Ctx} {D : Dom}

/-- a < b < c -/
theorem sT_chain2 {l r₁ r₂ : Expr} {op₁ op₂ : CmpOp} {pos : Pos} {cl c₁ c₂ : E} (h₁ : CmpPrim X op₁) (h₂ : CmpPrim X op₂) (hm : lastMarks [op₁, op₂] [r₁, r₂] = false) (hl : SoundE X D l cl) (hr₁ : SoundE X D r₁ c₁) (hr₂ : SoundE X D r₂ c₂) : SoundT X D (.Compare l [op₁, op₂] [r₁, r₂] pos) (tCmps cl [(op₁, c₁), (op₂, c₂)]) := by
  intro a c σ ρ s ok I nb
  unfold tCmps at nb ⊢
  refine isTrue_chain (hl.then ok I nb (fun e' s' p => p) fun v' v σ₁ cc₁ s₁ e1 eb nb1 I1 x1 r1 => ?_) hm
  rw [eb]
  unfold tChain at nb1 ⊢
  refine test_link (hr₁.then ok I1 nb1 (fun e' s' p => p.trans x1) fun w' w σ₂ cc₂ s₂ e2 eb2 nb2 I2 x2 r2 => ?_)
  rw [eb2]
  obtain ⟨b, hb⟩ := lift_ne_bad (bind_ok_ne nb2)
  refine wpAny_mono (h₁ a.A a.fr cc₂ σ₂ s₂ v' w' v w b ok.room.p I2.r (r1.evo x2 I1.r.rel I1.r.fro (fun _ _ => id)) r2 hb) (fun v3 s3 p3 => ?_) fun _ _ f => f.elim
  obtain ⟨rfl, t, rfl⟩ := p3
  refine wpAny_truthy_bool ?_
  rw [hb] at nb2 ⊢
  simp only [lift_some, Out.ok_bind] at nb2 ⊢
  have I3 := I2.toks t
  have x3 : Evo a.fr c σ s cc₂ σ₂ { s₂ with toks := t } := (x1.trans x2).trans (EvoO.refl t)
  cases b with
  | false =>
    rw [if_neg Bool.false_ne_true]
    exact ⟨σ₂, cc₂, rfl, I3, x3⟩
  | true =>
    rw [if_pos rfl] at nb2 ⊢
    unfold tChain at nb2 ⊢
    refine test_last (hr₂.then ok I3 nb2 (fun e' s' p => p.trans x3) fun u' u σ₄ cc₄ s₄ e4 eb4 nb4 I4 x4 r4 => ?_)
    rw [eb4]
    obtain ⟨b, hb⟩ := lift_ne_bad (bind_ok_ne nb4)
    have r2' : VRep X cc₂ ({ s₂ with toks := t } : Shared).heap w' w := r2
    refine wpAny_mono (h₂ a.A a.fr cc₄ σ₄ s₄ w' u' w u b ok.room.p I4.r (r2'.evo x4 I3.r.rel I3.r.fro (fun _ _ => id)) r4 hb) (fun v3 s3 p3 => ?_) fun _ _ f => f.elim
    obtain ⟨rfl, t, rfl⟩ := p3
    refine wpAny_truthy_bool ?_
    rw [hb]
    refine ⟨σ₄, cc₄, ?_, I4.toks t, (x3.trans x4).trans (EvoO.refl t)⟩
    cases b <;> simp [tChain]

/-- a and b, as a value -/
theorem sE_and2 {e₁ e₂ : Expr} {pos : Pos} {c₁ c₂ : E} (ht : TruePrim X) (h₁ : SoundE X D e₁ c₁) (h₂ : SoundE X D e₂ c₂) (he : ∀ env, eval (.BoolOp .And [e₂] pos) env = eval e₂ env) : SoundE X D (.BoolOp .And [e₁, e₂] pos) (andE [c₁, c₂]) := by
  intro a c σ ρ s ok I nb
  simp only [andE] at nb ⊢
  refine BoolOp_and (h₁.then ok I nb (fun e' s' p => p) fun v' v σ₁ cc₁ s₁ e1 eb nb1 I1 x1 r1 => ?_)
  rw [eb]
  obtain ⟨b, hb⟩ := lift_ne_bad (bind_ok_ne nb1)
  refine wpAny_mono (ht a.A a.fr cc₁ σ₁ s₁ v' v b ok.room.p I1.r r1 hb) (fun v3 s3 p3 => ?_) fun _ _ f => f.elim
  obtain ⟨rfl, t, rfl⟩ := p3
  rw [hb] at nb1 ⊢
  simp only [lift_some, Out.ok_bind] at nb1 ⊢
  have I3 := I1.toks t
  have x3 : Evo a.fr c σ s cc₁ σ₁ { s₁ with toks := t } := x1.trans (EvoO.refl t)
  cases v3 with
  | false =>
    rw [if_neg Bool.false_ne_true, if_neg Bool.false_ne_true]
    exact ⟨v, σ₁, cc₁, rfl, I3, x3, r1⟩
  | true =>
    rw [if_pos rfl] at nb1 ⊢
    rw [if_pos rfl, he]
    exact wpAny_mono (h₂ a cc₁ σ₁ ρ _ ok I3 nb1) (fun _ _ p => p.trans x3) fun _ _ p => p.trans x3
/-! more comparisons -/
theorem c_le : CmpPrim X .LtE := by
  intro A fr c σ s a' b' a b r ro I ra rb h
  cases a with
  | int x => cases b with
    | int y =>
      simp only [cmpV, Option.some.injEq] at h
      obtain ⟨t, rfl⟩ := vrep_int ra; obtain ⟨u, rfl⟩ := vrep_int rb
      exact P.le_int ⟨by rw [h], s.toks, rfl⟩
    | _ => cases h
  | _ => cases h
theorem found_list (x : List Nat) (k : Nat) : (!(Builtin.Str.occurrences (Str.mk x.toArray) ⟨#[k]⟩ 0 (Str.mk x.toArray).length 1).isEmpty) = x.contains k := by
  rw [StrLaws.found_one]
  simp
theorem in_str {A : Around} {s : Shared} {x : List Nat} {k : Nat} {t u : Tok} :
    (∀ Q : Value → Shared → Prop, Q (.bool (x.contains k)) s → wpAny (model X.prog X.w) A (compareOp .In (.str ⟨#[k]⟩ u) (.str ⟨x.toArray⟩ t)) Q (fun _ _ => False) s) ∧ ∀ Q : Value → Shared → Prop, Q (.bool (!x.contains k)) s → wpAny (model X.prog X.w) A (compareOp .NotIn (.str ⟨#[k]⟩ u) (.str ⟨x.toArray⟩ t)) Q (fun _ _ => False) s :=
  ⟨fun Q h => P.in_str (by rw [found_list]; exact h), fun Q h => P.notIn_str (by rw [found_list]; exact h)⟩
theorem pIn_sound {A : Around} {fr : List Addr} {c : Cfg} {σ : St} {s : Shared} {a' b' : Value} {a b : V} {r : Bool} (ro : PRoom A) (I : RInv X fr c σ s) (ra : VRep X c s.heap a' a) (rb : VRep X c s.heap b' b) (h : pIn a b σ = some r) :
    (∀ Q : Value → Shared → Prop, (∀ t, Q (.bool r) { s with toks := t }) → wpAny (model X.prog X.w) A (compareOp .In a' b') Q (fun _ _ => False) s) ∧ ∀ Q : Value → Shared → Prop, (∀ t, Q (.bool (!r)) { s with toks := t }) → wpAny (model X.prog X.w) A (compareOp .NotIn a' b') Q (fun _ _ => False) s := by
  have seq : inSeq a b σ = some r → (∀ Q : Value → Shared → Prop, (∀ t, Q (.bool r) { s with toks := t }) → wpAny (model X.prog X.w) A (compareOp .In a' b') Q (fun _ _ => False) s) ∧ ∀ Q : Value → Shared → Prop, (∀ t, Q (.bool (!r)) { s with toks := t }) → wpAny (model X.prog X.w) A (compareOp .NotIn a' b') Q (fun _ _ => False) s :=
    fun h => ⟨fun Q q => (inSeq_sound ro I ra rb h).1 Q (q s.toks), fun Q q => (inSeq_sound ro I ra rb h).2 Q (q s.toks)⟩
  cases b with
  | str x =>
    cases a with
    | str y =>
      match y, h, ra with
      | [k], h, ra =>
        simp only [pIn, Option.some.injEq] at h
        obtain ⟨⟨t, rfl⟩, _, _⟩ := vrep_str ra; obtain ⟨⟨u, rfl⟩, _, _⟩ := vrep_str rb
        rw [← h]
        exact ⟨fun Q q => in_str.1 Q (q s.toks), fun Q q => in_str.2 Q (q s.toks)⟩
      | [], h, _ => simp [pIn] at h
      | _ :: _ :: _, h, _ => simp [pIn] at h
    | _ => simp [pIn] at h
  | tup vs => exact seq h
  | lst vs => exact seq h
  | loc l =>
    simp only [pIn] at h
    cases ho : σ[l]? with
    | none => rw [ho] at h; cases h
    | some o =>
      rw [ho] at h
      cases o with
      | list vs => exact seq h
      | dictS es =>
        obtain ⟨k, hk, rfl⟩ := Option.map_eq_some_iff.mp h
        obtain ⟨d, xs, rfl, m, hs, hm, hf, k1, k2⟩ := loc_dictS I.rel rb ho
        obtain ⟨ka, rfl, fk, tk⟩ := key_strs ra hk
        exact tab_in (enc := fun k => k.map strOf) (c := c) (fun a b e => map_strOf_inj e) ro hs hm k1 k2 tk
      | _ => cases h
  | _ => simp [pIn] at h
theorem c_in : CmpPrim X .In := fun A fr c σ s a' b' a b r ro I ra rb h => (pIn_sound ro I ra rb h).1 _ fun t => ⟨rfl, t, rfl⟩
theorem c_notin : CmpPrim X .NotIn := by
  intro A fr c σ s a' b' a b r ro I ra rb h
  simp only [cmpV, Option.map_eq_some_iff] at h
  obtain ⟨q, hq, rfl⟩ := h
  exact (pIn_sound ro I ra rb hq).2 _ fun t => ⟨rfl, t, rfl⟩

/-! sums and products -/
theorem p_add : Prim2 X (binaryOp .Add) pAdd := by
  intro A fr c σ s a' b' a b ro I ra rb nb
  cases a with
  | int x => cases b with
    | int y =>
      obtain ⟨t, rfl⟩ := vrep_int ra; obtain ⟨u, rfl⟩ := vrep_int rb
      exact P.add_int (POk.plain I _ rep_int)
    | _ => exact absurd rfl nb
  | str x => cases b with
    | str y =>
      obtain ⟨⟨t, rfl⟩, h1, _⟩ := vrep_str ra; obtain ⟨⟨u, rfl⟩, h2, _⟩ := vrep_str rb
      simp only [pAdd] at nb ⊢
      split at nb
      · rename_i hl
        rw [if_pos hl]
        exact p_add_str I h1 h2 hl
      · exact absurd rfl nb
    | _ => exact absurd rfl nb
  | _ => exact absurd rfl nb
theorem p_mul : Prim2 X (binaryOp .Mult) pMulS := by
  intro A fr c σ s a' b' a b ro I ra rb nb
  cases b with
  | int y =>
    obtain ⟨u, rfl⟩ := vrep_int rb
    cases a with
    | int x =>
      obtain ⟨t, rfl⟩ := vrep_int ra
      simp only [pMulS] at nb ⊢
      split at nb
      · rename_i h
        rw [if_pos h]
        refine p_mul_int I ?_
        rcases Bool.or_eq_true_iff.mp h with h | h
        · exact IntMulOk.of_left (short_bits h)
        · exact IntMulOk.of_right (short_bits h)
      · exact absurd rfl nb
    | str x =>
      obtain ⟨⟨t, rfl⟩, h1, _⟩ := vrep_str ra
      simp only [pMulS] at nb ⊢
      split at nb
      · rename_i h
        rw [if_pos h]
        exact p_mul_str I h1 h.2.1 h.1 h.2.2
      · exact absurd rfl nb
    | _ => exact absurd rfl nb
  | _ => exact absurd rfl nb
end
end Mine
end

section
namespace Mine
open PySem PyProof.Rows PySem.W

section
variable {X : Ctx} {D : Dom}

/-- objects that nobody knows come and go -/
theorem POk.keeps {fr : List Addr} {c : Cfg} {σ : St} {s : Shared} {h' : Heap} {t : Nat} {v' : Value} {v : V} (I : RInv X fr c σ s) (hk : ∀ b o, s.heap.get? b = some o → h'.get? b = some o) (r : ∀ h, VRep X c h v' v) : POk X fr c σ s (.ok v σ) v' { s with heap := h', toks := t } := by
  have q : Quiet [] fr s.heap h' := ⟨fun a o e _ _ => hk a o e, fun a o e _ _ => ⟨o.slots, hk a o e⟩⟩
  exact ⟨v, σ, c, rfl, I.quiet q (by simp) (by simp) (by simp), (EvoO.self).quiet q (by simp), r _⟩

theorem bools_of {c : Cfg} {h : Heap} : ∀ {vs' : List Value} (vs : List V) {bs : List Bool}, VReps X c h vs' vs → vs.mapM asBool = some bs → vs' = bs.map .bool
  | _, [], bs, r, e => by simp at e; subst e; simp only [VReps] at r; rw [r]; rfl
  | _, v :: vs, bs, r, e => by
    simp only [VReps] at r
    obtain ⟨v', r', rfl, r1, r2⟩ := r
    rw [List.mapM_cons] at e
    cases v with
    | bool b =>
      cases hr : vs.mapM asBool with
      | none => rw [hr] at e; cases e
      | some bs' =>
        rw [hr] at e; cases e
        rw [vrep_bool r1, bools_of vs r2 hr]; rfl
    | _ => cases e

theorem all_range_bools (bs : List Bool) : (List.range bs.length).all (fun i => bs.getD i false) = bs.all id := by
  rw [Bool.eq_iff_iff]
  simp only [List.all_eq_true, List.mem_range, id]
  constructor
  · intro h b hb
    obtain ⟨i, hi, rfl⟩ := List.getElem_of_mem hb
    have := h i hi
    simpa [List.getD, hi] using this
  · intro h i hi
    have := h bs[i] (List.getElem_mem hi)
    simpa [List.getD, hi] using this

theorem p_all : PrimL X true (fun vs => call (.builtin "all") vs) (L1 pAll) := by
  intro A fr c σ s vs' vs ro hh I r nb
  match vs, r, nb with
  | [a], r, nb =>
    simp only [VReps] at r
    obtain ⟨v, r', rfl, r1, rfl⟩ := r
    simp only [L1] at nb ⊢
    cases a with
    | lst ws =>
      simp only [pAll] at nb ⊢
      cases hb : ws.mapM asBool with
      | none => rw [hb] at nb; exact absurd rfl nb
      | some bs =>
        obtain ⟨l, items, n, rfl, g, rr, hl⟩ := list_of I.rel r1 rfl
        have hi := bools_of ws rr hb
        have hsz : items.size = bs.length := by have := congrArg List.length hi; simpa using this
        refine call_all_walk (wpAny_pyIter_list (lst_is g) ?_)
        have hne : l ≠ s.heap.objs.size := Nat.ne_of_lt (Heap.lt_size g)
        refine ⟨_, _, _, _, _, _, fun i => bs.getD i false, rfl, Walks.list (A := A.in1) (hh rfl) s.heap.objs.size l hne items, ⟨⟨_, Heap.get?_push_size _ rfl, rfl, rfl⟩, ⟨_, Heap.get?_push_of_some _ g, rfl, n, rfl⟩⟩, ?_, ?_⟩
        · intro i v s' Q' E' hv hq
          have hv' : items.toList[i]? = some v := by simpa using hv
          rw [hi, List.getElem?_map, Option.map_eq_some_iff] at hv'
          obtain ⟨b, hb', rfl⟩ := hv'
          have : bs.getD i false = b := by simp [List.getD, hb']
          have hq' : Q' (bs.getD i false) s' := hq
          rw [this] at hq'
          exact wpAny_truthy_bool hq'
        · intro h' tk hk
          have e : (List.range items.size).all (fun i => bs.getD i false) = bs.all id := by rw [hsz]; exact all_range_bools bs
          rw [e]
          exact POk.keeps (s := s) I (fun b o e => hk b o (by simp; exact Nat.ne_of_lt (Heap.lt_size e)) (Heap.get?_push_of_some _ e)) fun _ => rep_bool
    | _ => exact absurd rfl nb
  | [], _, nb => exact absurd rfl nb
  | _ :: _ :: _, _, nb => exact absurd rfl nb

theorem strs_of {c : Cfg} {h : Heap} : ∀ {vs' : List Value} (vs : List V) {ss : List (List Nat)}, VReps X c h vs' vs → vs.mapM asStr = some ss → StrsAre vs' (ss.map fun x => ⟨x.toArray⟩) ∧ ∀ x ∈ ss, ∀ k ∈ x, k < 128
  | _, [], ss, r, e => by simp at e; subst e; simp only [VReps] at r; rw [r]; exact ⟨.nil, by simp⟩
  | _, v :: vs, ss, r, e => by
    simp only [VReps] at r
    obtain ⟨v', r', rfl, r1, r2⟩ := r
    rw [List.mapM_cons] at e
    cases v with
    | str x =>
      cases hr : vs.mapM asStr with
      | none => rw [hr] at e; cases e
      | some ss' =>
        rw [hr] at e; cases e
        obtain ⟨q1, q2⟩ := strs_of vs r2 hr
        obtain ⟨⟨t, rfl⟩, h1, _⟩ := vrep_str r1
        refine ⟨.cons _ t q1, fun y hy => ?_⟩
        rcases List.mem_cons.mp hy with rfl | hy
        · exact h1
        · exact q2 y hy
    | _ => cases e
theorem join_glue (sep : List Nat) : ∀ ss : List (List Nat), Str.join ⟨sep.toArray⟩ (ss.map fun x => ⟨x.toArray⟩) = ⟨(glue sep ss).toArray⟩
  | [] => rfl
  | [x] => rfl
  | x :: y :: r => by
    show (⟨x.toArray⟩ : Str) ++ ⟨sep.toArray⟩ ++ Str.join ⟨sep.toArray⟩ ((y :: r).map fun x => ⟨x.toArray⟩) = _
    rw [join_glue sep (y :: r), str_append, str_append]
    simp [glue]
theorem glue_mem (sep : List Nat) : ∀ (ss : List (List Nat)) (k : Nat), k ∈ glue sep ss → k ∈ sep ∨ ∃ x ∈ ss, k ∈ x
  | [], k, h => by simp [glue] at h
  | [x], k, h => .inr ⟨x, by simp, by simpa [glue] using h⟩
  | x :: y :: r, k, h => by
    simp only [glue, List.mem_append] at h
    rcases h with (h | h) | h
    · exact .inr ⟨x, by simp, h⟩
    · exact .inl h
    · rcases glue_mem sep (y :: r) k h with h | ⟨z, hz, hk⟩
      · exact .inl h
      · exact .inr ⟨z, List.mem_cons_of_mem _ hz, hk⟩
theorem glue_len (sep : List Nat) : ∀ ss : List (List Nat), (glue sep ss).length ≤ ss.flatten.length + ss.length * sep.length
  | [] => by simp [glue]
  | [x] => by simp [glue]
  | x :: y :: r => by
    have := glue_len sep (y :: r)
    simp only [glue, List.length_append, List.flatten_cons, List.length_cons, Nat.succ_mul] at this ⊢
    omega

theorem ip_join : Prim2 X (fun v w => call (.builtin "str.join") [v, w]) pJoin := by
  intro A fr c σ s a' b' a b ro I ra rb nb
  cases a with
  | str sep =>
    cases b with
    | lst vs =>
      simp only [pJoin] at nb ⊢
      cases hs : vs.mapM asStr with
      | none => rw [hs] at nb; exact absurd rfl nb
      | some ss =>
        rw [hs] at nb
        simp only at nb ⊢
        split at nb
        · rename_i hb
          rw [if_pos hb]
          obtain ⟨⟨t, rfl⟩, h1, h2⟩ := vrep_str ra
          obtain ⟨l, items, n, rfl, g, rr, hl⟩ := list_of I.rel rb rfl
          obtain ⟨q1, q2⟩ := strs_of vs rr hs
          have hsum : ((ss.map fun x => (⟨x.toArray⟩ : Str)).map (·.length)).sum = ss.flatten.length := by
            simp [List.length_flatten, Str.length, Function.comp_def]
          have hgl := glue_len sep ss
          have hmul : ss.length * sep.length ≤ 1000 * 10 := Nat.mul_le_mul hb.1 hb.2.2
          refine join_list (lst_is g) q1 ?_ fun t' k => ?_
          · rw [hsum]
            simp only [List.length_map, Str.length, List.size_toArray]
            omega
          · have e : Txt.join ⟨sep.toArray⟩ (ss.map fun x => (⟨x.toArray⟩ : Str)) = ⟨(glue sep ss).toArray⟩ := by
              show Builtin.Str.glued _ _ = _
              rw [StrLaws.glued_eq_join]; exact join_glue sep ss
            rw [e]
            refine POk.plain I _ (rep_str (fun d hd => ?_) ?_)
            · rcases glue_mem sep ss d hd with h | ⟨x, hx, hk⟩
              · exact h1 d h
              · exact q2 x hx d hk
            · simp only [LIM]; omega
        · exact absurd rfl nb
    | _ => exact absurd rfl nb
  | _ => exact absurd rfl nb
theorem m_join : MethOk "str" "join" "str.join" := ⟨F.plainAttrs_str, F.slot_str_join, F.type_str_join⟩

/-! ranges -/
theorem rangeL_step (a b : Int) : rangeL a b = stepL a 1 (b - a).toNat := by
  unfold rangeL stepL; simp
theorem it_range {a : Act} {c c₁ : Cfg} {σ σ₁ : St} {ρ : Env} {s s₁ : Shared} {o : Out V} {lo hi d : Int} {n : Nat} {t u v : Tok} {tk : Nat} (I1 : Inv X a c₁ σ₁ ρ s₁) (x1 : Evo a.fr c σ s c₁ σ₁ s₁) (ho : o = .ok (.lst (stepL lo d n)) σ₁) (hsm : Builtin.Range.small lo hi d = true) (hsz : Builtin.Range.rangeSize lo hi d = (n : Int)) (hn : n ≤ 2000) :
    wpAny (model X.prog X.w) a.A (pyIter (.ref s₁.heap.objs.size)) (ItPost X a c σ ρ s o) (fun _ _ => False) { s₁ with heap := s₁.heap.push { cls := .type "range", data := .fields #[.int lo t, .int hi u, .int d v] }, toks := tk } := by
  refine wpAny_pyIter_range (IsRange.new ..) hsm ?_
  generalize hO : ({ cls := .type "range", data := .fields #[.int lo t, .int hi u, .int d v] } : Obj) = oR
  have q : Quiet [] a.fr s₁.heap (s₁.heap.push oR) := Quiet.push ..
  have I2 : Inv X a c₁ σ₁ ρ { s₁ with heap := s₁.heap.push oR, toks := tk } := I1.quiet q (by simp) (by simp) (by simp)
  have x2 : Evo a.fr c σ s c₁ σ₁ { s₁ with heap := s₁.heap.push oR, toks := tk } := x1.quiet q (by simp)
  refine it_push (s₁ := { s₁ with heap := s₁.heap.push oR, toks := tk }) _ I2 x2 ho (proto_range (a := lo) (d := d) (n := n)) ⟨Nat.zero_le _, ?_, frz_lt I2.r.rel⟩ fun vs hv => ?_
  · show IsRangeIter _ _ (lo + ((0 : Nat) : Int) * d) ((n : Int) - ((0 : Nat) : Int)) d
    have e1 : lo + ((0 : Nat) : Int) * d = lo := by simp
    have e2 : (n : Int) - ((0 : Nat) : Int) = Builtin.Range.rangeSize lo hi d := by rw [hsz]; simp
    rw [e1, e2]
    exact Heap.get?_push_size _ rfl
  · simp only [asIter, Option.some.injEq] at hv; subst hv
    simp only [stepL, List.length_map, List.length_range, LIM]; omega

theorem sI_range1 {e : Expr} {np pos : Pos} {ce : E} (xo : XOk X) (hk : D.sc.names.lookup ("range" : Str) = some .globalImplicit) (hm : X.mg "range" = none) (hs : ∀ env, starEach [e] env = [(false, eval e env)]) (he : SoundE X D e ce) : SoundI X D (.Call (.Name "range" np) [e] [] pos) (un pRange1 ce) := by
  intro a c σ ρ s ok I nb
  unfold un at nb ⊢
  refine Call_ (name_bi xo ok I hk (by decide) hm (by with_unfolding_all rfl) (by decide) ?_) rfl
  show wpAny _ _ (callWith pos (.type "range") [] (backTo pos (starEach [e] a.env)) []) _ _ s
  rw [hs]
  refine callWith_of (.inl ⟨_, rfl⟩) rfl (Calls.spliced_cons (he.then ok I nb.1 (fun _ _ p => p) fun v' v σ₁ c₁ s₁ e1 eb nb1 I1 x1 r1 => Calls.spliced_nil ?_))
  rw [eb]
  cases v with
  | int b =>
    obtain ⟨t, rfl⟩ := vrep_int r1
    simp only [pRange1] at nb1 ⊢
    split at nb1
    · rename_i hb
      rw [if_pos hb, rangeL_step]
      refine call_range_1 (it_range I1 x1 rfl (small_one (by omega) (by omega) (by omega) (by omega)) ?_ (by omega))
      rw [rangeSize_one]; split <;> omega
    · exact absurd rfl nb1
  | _ => exact absurd rfl nb1
/-! isinstance -/
theorem sE_isi {e : Expr} {tx : Str} {ip tp pos : Pos} {cv : Value} {p : V → St → Out V} {ce : E} (xo : XOk X) (hk : D.sc.names.lookup ("isinstance" : Str) = some .globalImplicit) (hm : X.mg "isinstance" = none) (hs : ∀ env, starEach [e, .Name tx tp] env = [(false, eval e env), (false, eval (.Name tx tp) env)])
    (hn : ∀ (a : Act) (c : Cfg) (σ : St) (ρ : Env) (s : Shared), ActOk D a → Inv X a c σ ρ s → ∀ (Q : Value → Shared → Prop) (Ex : Value → Shared → Prop), Q cv s → wpAny (model X.prog X.w) a.A (eval (.Name tx tp) a.env) Q Ex s) (hp : Prim1 X (fun v => call (.builtin "isinstance") [v, cv]) p) (he : SoundE X D e ce) : SoundE X D (.Call (.Name "isinstance" ip) [e, .Name tx tp] [] pos) (un p ce) := by
  intro a c σ ρ s ok I nb
  unfold un at nb ⊢
  refine Call_ (name_bi xo ok I hk (by decide) hm (by with_unfolding_all rfl) (by decide) ?_) rfl
  show wpAny _ _ (callWith pos (.builtin "isinstance") [] (backTo pos (starEach [e, .Name tx tp] a.env)) []) _ _ s
  rw [hs]
  refine callWith_of (.inr ⟨_, rfl⟩) rfl (Calls.spliced_cons (he.then ok I nb (fun _ _ p => p) fun v' v σ₁ c₁ s₁ e1 eb nb1 I1 x1 r1 => Calls.spliced_cons (hn a c₁ σ₁ ρ s₁ ok I1 _ _ (Calls.spliced_nil ?_))))
  rw [eb]
  exact wpAny_mono (hp a.A a.fr c₁ σ₁ s₁ v' v ok.room.p I1.r r1 nb1) (fun v3 s3 p3 => (p3.act I1).trans x1) fun _ _ f => f.elim

end
end Mine
end

section
namespace Mine
open PySem PyProof.Rows PySem.W

noncomputable def cDom (D : Dom) (scope : Scope) (names : List Str) : Dom := ⟨relabelS scope D.sc, names, D.n, D.rs⟩
noncomputable def compOk (D : Dom) (scope : Scope) (x : Str) (names : List Str) : Bool :=
  scope.kind == .function && decide names.Nodup && (names.length == D.names.length + 1) && (names[D.names.length]? == some x) &&
  ((relabelS scope D.sc).names.lookup x == some .local) && (names.all fun y => (relabelS scope D.sc).names.lookup y != some .local || y == x) &&
  ((List.range names.length).all fun i => match names[i]? with
    | some y => if (relabelS scope D.sc).names.lookup y == some .cell || (relabelS scope D.sc).names.lookup y == some .free then scope.names.contains (y, NameKind.free) && (D.names[i]? == some y) && (D.sc.names.lookup y == some .cell) else true
    | none => true) &&
  (scope.names.all fun p => p.2 != .free || D.sc.names.lookup p.1 == some .cell) && (scope.names.all fun p => p.2 != .cell) &&
  ((relabelS scope D.sc).names.all fun p => p.2 != .cell || scope.names.contains (p.1, NameKind.free)) && (scope.names.all fun p => p.2 != .local || scope.names.lookup p.1 == some .local)

theorem compDom_of {D : Dom} {scope : Scope} {x : Str} {names : List Str} (h : compOk D scope x names = true) : CompDom D (cDom D scope names) scope x := by
  unfold compOk at h
  simp only [Bool.and_eq_true] at h
  obtain ⟨⟨⟨⟨⟨⟨⟨⟨⟨⟨h1, h2⟩, h3⟩, h4⟩, h5⟩, h6⟩, h7⟩, h8⟩, h9⟩, h10⟩, h11⟩ := h
  simp only [List.all_eq_true, Bool.or_eq_true, bne_iff_ne, ne_eq, beq_iff_eq] at h6 h8 h9 h10 h11
  exact {
    kind := by simpa using h1
    sc := rfl
    n := rfl
    rs := rfl
    nodup := of_decide_eq_true h2
    len := beq_iff_eq.mp h3
    last := beq_iff_eq.mp h4
    loc := beq_iff_eq.mp h5
    locs := fun i y hi hy => by
      rcases h6 y (List.mem_of_getElem? hi) with q | q
      · exact absurd hy q
      · exact q
    free := fun i y hi hk => by
      have hlt : i < names.length := (List.getElem?_eq_some_iff.mp hi).1
      have := List.all_eq_true.mp h7 i (List.mem_range.mpr hlt)
      have hi' : names[i]? = some y := hi
      rw [hi'] at this
      simp only at this
      have hk' : ((relabelS scope D.sc).names.lookup y == some .cell || (relabelS scope D.sc).names.lookup y == some .free) = true := by
        rcases hk with hk | hk
        · have : (relabelS scope D.sc).names.lookup y = some .cell := hk
          rw [this]; rfl
        · have : (relabelS scope D.sc).names.lookup y = some .free := hk
          rw [this]; rfl
      rw [if_pos hk'] at this
      simp only [Bool.and_eq_true, beq_iff_eq, List.contains_iff_mem] at this
      exact ⟨this.1.1, this.1.2, this.2⟩
    frees := fun p hp hf => by
      rcases h8 p hp with q | q
      · exact absurd hf q
      · exact q
    cells := fun p hp => h9 p hp
    hasc := fun y hy => by
      rcases h10 (y, .cell) (PySem.mem_of_lookup hy) with q | q
      · exact absurd rfl q
      · simpa [List.contains_iff_mem] using q
    names := fun p hp hl => by
      rcases h11 p hp with q | q
      · exact absurd hl q
      · exact q }

section
variable {X : Ctx} {D : Dom}

theorem gE_local {x : Str} {i : Nat} {pos : Pos} (hi : D.names[i]? = some x := by with_unfolding_all rfl) (hk : D.sc.names.lookup x = some .local := by with_unfolding_all rfl) (hd : (x == ("__debug__" : Str)) = false := by with_unfolding_all rfl) : SoundE X D (.Name x pos) (var i) := sE_local hi hk hd
theorem gE_cell {x : Str} {i : Nat} {pos : Pos} (hi : D.names[i]? = some x := by with_unfolding_all rfl) (hk : D.sc.names.lookup x = some .cell := by with_unfolding_all rfl) (hd : (x == ("__debug__" : Str)) = false := by with_unfolding_all rfl) : SoundE X D (.Name x pos) (var i) := sE_cell hi hk hd
theorem gE_str {x : Str} {l : List Nat} {k : Nat} {pos : Pos} (h : x = strOf l := by with_unfolding_all rfl) (hl : (∀ c ∈ l, c < 128) ∧ l.length ≤ LIM := by decide) : SoundE X D (.Constant (.str x) k pos) (cst (.str l)) := sE_str h hl
theorem gE_glob {x : Str} {pos : Pos} {v : Value} {d : V} (xo : XOk X) (hv : X.mg x = some v ∧ ∀ c h, VRep X c h v d) (hk : D.sc.names.lookup x = some .globalImplicit := by with_unfolding_all rfl) (hd : (x == ("__debug__" : Str)) = false := by with_unfolding_all rfl) : SoundE X D (.Name x pos) (cst d) := sE_glob xo hk hd hv.1 hv.2
theorem gA_cons {e : Expr} {es : List Expr} {ce : E} {ces : List E} (h : SoundE X D e ce) (hr : SoundA X D es ces) (hs : ∀ env, starEach (e :: es) env = (false, eval e env) :: starEach es env := by intro _; rfl) : SoundA X D (e :: es) (ce :: ces) := sA_cons hs h hr
theorem gE_call {x : Str} {np pos : Pos} {es : List Expr} {ces : List E} {fa : Addr} {f : F} {n : Nat} (xo : XOk X) (hv : X.mg x = some (.ref fa)) (hf : FnAt X fa) (hF : SoundF X n D.rs fa f) (h : SoundA X D es ces) (hk : D.sc.names.lookup x = some .globalImplicit := by with_unfolding_all rfl) (hd : (x == ("__debug__" : Str)) = false := by with_unfolding_all rfl) (hn : n ≤ D.n := by decide)
    (hs : ∀ env, (backTo pos (starEach es env)).any (·.1) = false := by intro _; rfl) (hcall : ∀ env, eval (.Call (.Name x np) es [] pos) env = (do callWith pos (← eval (.Name x np) env) [] (backTo pos (starEach es env)) (backToKw pos (keywordEach [] env))) := by intro _; rfl) : SoundE X D (.Call (.Name x np) es [] pos) (app f ces) := sE_call xo hk hd hv hf hF hn h hs hcall
theorem gE_bi1 {x : Str} {np pos : Pos} {e : Expr} {ce : E} {f : Value} {p : V → St → Out V} (xo : XOk X) (hm : X.mg x = none) (hp : Prim1 X (fun v => call f [v]) p) (hf : Callee f) (h : SoundE X D e ce) (hk : D.sc.names.lookup x = some .globalImplicit := by with_unfolding_all rfl) (hd : (x == ("__debug__" : Str)) = false := by with_unfolding_all rfl) (hv : bootBuiltins x = some f := by kernel_rfl) (hnm : x ≠ "__name__" := by decide)
    (hst : ∀ env, starEach [e] env = (false, eval e env) :: starEach [] env := by intro _; rfl) (hs : ∀ env, (backTo pos (starEach [e] env)).any (·.1) = false := by intro _; rfl) (hcall : ∀ env, eval (.Call (.Name x np) [e] [] pos) env = (do callWith pos (← eval (.Name x np) env) [] (backTo pos (starEach [e] env)) (backToKw pos (keywordEach [] env))) := by intro _; rfl) : SoundE X D (.Call (.Name x np) [e] [] pos) (un p ce) :=
  app_L1 p ce ▸ sE_bi xo hk hd hm hv hnm hf (PrimL.of1 (t := fun vs => call f vs) hp) (fun q => by cases q) (sA_cons hst h sA_nil) hs hcall
theorem gE_bi1H {x : Str} {np pos : Pos} {e : Expr} {ce : E} {f : Value} {p : V → St → Out V} (xo : XOk X) (hm : X.mg x = none) (hp : PrimL X true (fun vs => call f vs) (L1 p)) (hf : Callee f) (h : SoundE X D e ce) (hrs : D.rs = true := by rfl) (hk : D.sc.names.lookup x = some .globalImplicit := by with_unfolding_all rfl) (hd : (x == ("__debug__" : Str)) = false := by with_unfolding_all rfl) (hv : bootBuiltins x = some f := by kernel_rfl) (hnm : x ≠ "__name__" := by decide)
    (hst : ∀ env, starEach [e] env = (false, eval e env) :: starEach [] env := by intro _; rfl) (hs : ∀ env, (backTo pos (starEach [e] env)).any (·.1) = false := by intro _; rfl) (hcall : ∀ env, eval (.Call (.Name x np) [e] [] pos) env = (do callWith pos (← eval (.Name x np) env) [] (backTo pos (starEach [e] env)) (backToKw pos (keywordEach [] env))) := by intro _; rfl) : SoundE X D (.Call (.Name x np) [e] [] pos) (un p ce) :=
  app_L1 p ce ▸ sE_bi xo hk hd hm hv hnm hf hp (fun _ => hrs) (sA_cons hst h sA_nil) hs hcall
theorem cal_b (id : String) : Callee (.builtin id) := .inr ⟨id, rfl⟩
theorem cal_t (T : String) : Callee (.type T) := .inl ⟨T, rfl⟩

theorem gT_cmp {l r : Expr} {op : CmpOp} {pos : Pos} {cl cr : E} (hp : CmpPrim X op) (hl : SoundE X D l cl) (hr : SoundE X D r cr) (hm : behindInMarks op r = false := by with_unfolding_all rfl) : SoundT X D (.Compare l [op] [r] pos) (tCmp op cl cr) := sT_cmp hp hm hl hr
theorem gE_cmp {l r : Expr} {op : CmpOp} {pos : Pos} {cl cr : E} (hp : CmpPrim X op) (hl : SoundE X D l cl) (hr : SoundE X D r cr) (hm : behindInMarks op r = false := by with_unfolding_all rfl) : SoundE X D (.Compare l [op] [r] pos) (ofT (tCmp op cl cr)) := sE_cmp hp hm hl hr
theorem gT_chain2 {l r₁ r₂ : Expr} {op₁ op₂ : CmpOp} {pos : Pos} {cl c₁ c₂ : E} (h₁ : CmpPrim X op₁) (h₂ : CmpPrim X op₂) (hl : SoundE X D l cl) (hr₁ : SoundE X D r₁ c₁) (hr₂ : SoundE X D r₂ c₂) (hm : lastMarks [op₁, op₂] [r₁, r₂] = false := by with_unfolding_all rfl) : SoundT X D (.Compare l [op₁, op₂] [r₁, r₂] pos) (tCmps cl [(op₁, c₁), (op₂, c₂)]) := sT_chain2 h₁ h₂ hm hl hr₁ hr₂
theorem gT_of {e : Expr} {ce : E} (h : SoundE X D e ce) (he : ∀ env whole, isTrue e env whole = (do let v ← whole; standAt e.pos; holding [v] (truthy v)) := by intro _ _; rfl) : SoundT X D e (tOf ce) := sT_of t_true h he
theorem gE_and2 {e₁ e₂ : Expr} {pos : Pos} {c₁ c₂ : E} (h₁ : SoundE X D e₁ c₁) (h₂ : SoundE X D e₂ c₂) : SoundE X D (.BoolOp .And [e₁, e₂] pos) (andE [c₁, c₂]) := sE_and2 t_true h₁ h₂ fun _ => rfl
theorem gE_lst {es : List Expr} {ces : List E} {pos : Pos} (h : SoundA X D es ces) (hlen : ces.length ≤ 1000 := by decide) : SoundE X D (.List es pos) (lstE ces) := sE_lst hlen h
theorem gE_newL {es : List Expr} {ces : List E} {pos : Pos} (h : SoundA X D es ces) (hlen : ces.length ≤ 1000 := by decide) : SoundE X D (.List es pos) (newL ces) := sE_newL hlen h
theorem gE_tup {es : List Expr} {ces : List E} {k : Nat} {pos : Pos} (h : SoundA X D es ces) (hlen : ces.length ≤ 1000 := by decide) : SoundE X D (.Tuple es k pos) (tupE ces) := sE_tup hlen h
theorem gE_idx {value slice : Expr} {pos : Pos} {cv ci : E} (hv : SoundE X D value cv) (hi : SoundE X D slice ci) (hs : ∀ o i, subscripted slice false o i = operate [o, i] (getItem o i) := by intro _ _; rfl) : SoundE X D (.Subscript value slice pos) (bin pIdx cv ci) := sE_idx p_idx hs hv hi
theorem gE_comp {scope : Scope} {x : Str} {px pos : Pos} {elt iter : Expr} {ifs : List Expr} {ci celt : E} {cifs : T} (names : List Str) (hi : SoundI X D iter ci) (ht : SoundTs X (cDom D scope names) ifs cifs) (he : SoundE X (cDom D scope names) elt celt) (hc : compOk D scope x names = true := by with_unfolding_all rfl) (hrs : D.rs = true := by rfl) (hfo : ∀ env v, foldedSetIterable iter env v = pure v := by intro _ _; rfl) : SoundE X D (.ListComp elt [⟨.Name x px, iter, ifs, 0⟩] scope pos) (comp ci cifs celt) := sE_comp (compDom_of hc) hrs hfo hi ht he
theorem gI_range1 {e : Expr} {np pos : Pos} {ce : E} (xo : XOk X) (hm : X.mg "range" = none) (he : SoundE X D e ce) (hk : D.sc.names.lookup ("range" : Str) = some .globalImplicit := by with_unfolding_all rfl) (hs : ∀ env, starEach [e] env = [(false, eval e env)] := by intro _; rfl) : SoundI X D (.Call (.Name "range" np) [e] [] pos) (un pRange1 ce) := sI_range1 xo hk hm hs he
theorem gE_join {o e : Expr} {apos pos : Pos} {co ce : E} (ho : SoundE X D o co) (he : SoundE X D e ce) (hbase : ∀ env, attributeBase o "join" env (eval o env) = eval o env := by intro _; rfl) (hs : ∀ env, starEach [e] env = [(false, eval e env)] := by intro _; rfl) (hline : (apos.endLine == pos.line) = true := by rfl) : SoundE X D (.Call (.Attribute o "join" apos) [e] [] pos) (binM isS pJoin co ce) :=
  sE_meth1 m_join recv_str (PrimL.of2 (t := fun vs => call (.builtin "str.join") vs) ip_join) (fun q => by cases q) hbase hs hline ho he
theorem gE_append {o e : Expr} {apos pos : Pos} {co ce : E} (ho : SoundE X D o co) (he : SoundE X D e ce) (hbase : ∀ env, attributeBase o "append" env (eval o env) = eval o env := by intro _; rfl) (hs : ∀ env, starEach [e] env = [(false, eval e env)] := by intro _; rfl) (hline : (apos.endLine == pos.line) = true := by rfl) : SoundE X D (.Call (.Attribute o "append" apos) [e] [] pos) (binM isL pAppend co ce) :=
  sE_meth1 m_append recv_list (PrimL.of2 (t := fun vs => call (.builtin "list.append") vs) ip_append) (fun q => by cases q) hbase hs hline ho he
theorem gE_isiT {e : Expr} {tx : Str} {ip tp pos : Pos} {T : String} {p : V → St → Out V} {ce : E} (xo : XOk X) (hm : X.mg "isinstance" = none) (hmT : X.mg tx = none) (hp : Prim1 X (fun v => call (.builtin "isinstance") [v, .type T]) p) (he : SoundE X D e ce) (hk : D.sc.names.lookup ("isinstance" : Str) = some .globalImplicit := by with_unfolding_all rfl) (hkT : D.sc.names.lookup tx = some .globalImplicit := by with_unfolding_all rfl) (hd : (tx == ("__debug__" : Str)) = false := by with_unfolding_all rfl) (hv : bootBuiltins tx = some (.type T) := by kernel_rfl) (hnm : tx ≠ "__name__" := by decide) (hs : ∀ env, starEach [e, .Name tx tp] env = [(false, eval e env), (false, eval (.Name tx tp) env)] := by intro _; rfl) : SoundE X D (.Call (.Name "isinstance" ip) [e, .Name tx tp] [] pos) (un p ce) :=
  sE_isi xo hk hm hs (fun a c σ ρ s ok I Q Ex q => name_bi xo ok I hkT hd hmT hv hnm q) hp he
/-! statements -/
theorem gS_asg {x : Str} {i : Nat} {p pos : Pos} {e : Expr} {ce : E} (h : SoundE X D e ce) (hi : D.names[i]? = some x := by with_unfolding_all rfl) (hk : D.sc.names.lookup x = some .local ∨ D.sc.names.lookup x = some .cell := by first | exact Or.inl (by with_unfolding_all rfl) | exact Or.inr (by with_unfolding_all rfl)) (hs : ∀ env, swapsWith e (some (.Name x p)) pos.line env = pure false := by intro _; rfl) : SoundS X D (.Assign [.Name x p] e pos) (asg i ce) := sS_asg ⟨hi, hk⟩ hs h
theorem gS_for {x : Str} {p pos : Pos} {slot : Nat} {temps : List Nat} {it : Expr} {cit : E} {body : List Stmt} {cb : S} (hit : SoundI X D it cit) (hb : SoundB X D body cb) (hi : D.names[slot]? = some x := by with_unfolding_all rfl) (hk : D.sc.names.lookup x = some .local ∨ D.sc.names.lookup x = some .cell := by first | exact Or.inl (by with_unfolding_all rfl) | exact Or.inr (by with_unfolding_all rfl)) (hrs : D.rs = true := by rfl) (hf : ∀ env v, foldedSetIterable it env v = pure v := by intro _ _; rfl) : SoundS X D (.For (.Name x p) it body [] pos) (forS slot temps cit cb) := sS_for hrs ⟨hi, hk⟩ hf hit hb
theorem gS_expr {e : Expr} {pos : Pos} {ce : E} (h : SoundE X D e ce) (hs : ∀ env, swapsWith e none pos.line env = pure false := by intro _; rfl) : SoundS X D (.Expr e pos) (exprS ce) := sS_expr hs h
theorem gS_put {o i value : Expr} {pos' pos : Pos} {cv co ci : E} (hv : SoundE X D value cv) (ho : SoundE X D o co) (hi : SoundE X D i ci) (hs : ∀ env, swapsWith value (some (.Subscript o i pos')) pos.line env = pure false := by intro _; rfl) : SoundS X D (.Assign [.Subscript o i pos'] value pos) (exprS (tri (fun v o i σ => pPut o i v σ) cv co ci)) := sS_put sp_put hs hv ho hi
end
end Mine
end

section
namespace Mine
open PySem PyProof.Rows PySem.W

/-- what is known of the class -/
structure ClsK (X : Ctx) (K : Frag) : Prop where
  ki : K.In X.base
  bound : X.mg "Tariff" = some (.ref X.cls)
  makes : makesIn K X.cls = true
  ga : findIn K (.ref X.cls) "__getattribute__" = some (some (.builtin "object.__getattribute__"))
  gattr : findIn K (.ref X.cls) "__getattr__" = some none
  sa : findIn K (.ref X.cls) "__setattr__" = some (some (.builtin "object.__setattr__"))
  over : plainOver K X.cls = true
  hasD : hasDictIn K X.cls = true
  rowsF : findIn K (.ref X.cls) "rows" = some none
  waysF : findIn K (.ref X.cls) "ways" = some none
  rowsT : takerIn K X.cls "rows" = some none
  waysT : takerIn K X.cls "ways" = some none
  keep : keepIn K (.ref X.cls) = true
structure MethK (X : Ctx) (K : Frag) (x : Str) (f : Addr) : Prop where
  find : findIn K (.ref X.cls) x = some (some (.ref f))
  fn : typeIn K (.ref f) = some (.type "function")

section
variable {X : Ctx} {D : Dom} {K : Frag}

theorem lookIn_ns {h : Heap} {a : Addr} {m : Str → Option Value} (hn : h.Ns a m) : ∃ od, h.get? a = some od ∧ ∀ x, lookIn x od = some (m x) := by
  obtain ⟨o, es, ep, e, d, hk, hf⟩ := hn
  refine ⟨o, e, fun x => ?_⟩
  have hany : es.toList.any (·.refKey) = false := by
    rw [Array.any_toList, Array.any_eq_false']
    intro en he; obtain ⟨n, t, h⟩ := hk en he; simp [DictEntry.refKey, h]
  unfold lookIn
  rw [d]
  simp only
  rw [← hf x]
  simp only [nsFind, findBy, ← Array.find?_toList]
  cases q : es.toList.find? (·.key.isStr x) with
  | some en => simp
  | none => simp [hany]

theorem ns1_size {h : Heap} {a : Addr} {m : Str → Option Value} (hn : h.Ns1 a m) (hm : ∀ x : Str, x ≠ "rows" → x ≠ "ways" → m x = none) : ∃ o es ep, h.get? a = some o ∧ o.data = .dict es ep ∧ es.size ≤ 2 := by
  obtain ⟨o, es, ep, e, d, hk, hu, hf⟩ := hn
  refine ⟨o, es, ep, e, d, ?_⟩
  have key : ∀ en ∈ es.toList, ∃ n : Str, en.key.isStr n = true ∧ (n = "rows" ∨ n = "ways") := by
    intro en he
    obtain ⟨n, t, hn⟩ := hk en (by simpa using he)
    have hs : en.key.isStr n = true := by rw [hn]; simp [Value.isStr]
    refine ⟨n, hs, ?_⟩
    by_cases h1 : n = "rows"
    · exact .inl h1
    · by_cases h2 : n = "ways"
      · exact .inr h2
      · have := hf n
        rw [hm n h1 h2] at this
        simp only [nsFind, findBy, Option.map_eq_none_iff, ← Array.find?_toList, List.find?_eq_none] at this
        exact absurd hs (this en he)
  rw [← Array.length_toList]
  unfold UniqKeys at hu
  match hl : es.toList, hu, key with
  | [], _, _ => simp
  | [_], _, _ => simp
  | [_, _], _, _ => simp
  | x :: y :: z :: r, hu, key =>
    simp only [List.pairwise_cons, List.mem_cons, forall_eq_or_imp] at hu
    obtain ⟨⟨xy, xz, _⟩, ⟨yz, _⟩, _⟩ := hu
    obtain ⟨n1, a1, b1⟩ := key x (by simp)
    obtain ⟨n2, a2, b2⟩ := key y (by simp)
    obtain ⟨n3, a3, b3⟩ := key z (by simp)
    rcases b1 with rfl | rfl <;> rcases b2 with rfl | rfl <;> rcases b3 with rfl | rfl <;> first | exact (xy _ a1 a2).elim | exact (xz _ a1 a3).elim | exact (yz _ a2 a3).elim

theorem inst_at {c : Cfg} {σ : St} {h : Heap} {v' : Value} {l d : Nat} {r w : Option V} (R : Rel X c σ h) (rv : VRep X c h v' (.loc l)) (e : σ[l]? = some (.inst d)) (e2 : σ[d]? = some (.attrs r w)) :
    ∃ a dx od m, v' = .ref a ∧ c.mu[l]? = some a ∧ c.mu[d]? = some dx ∧ InstAt h a (instObj X.cls dx) X.cls (some od) ∧ h.Ns1 dx m ∧ (∀ x, lookIn x od = some (m x)) ∧
      (∀ v, r = some v → ∃ v', m "rows" = some v' ∧ VRep X c h v' v) ∧ (∀ v, w = some v → ∃ v', m "ways" = some v' ∧ VRep X c h v' v) ∧ ∀ x : Str, x ≠ "rows" → x ≠ "ways" → m x = none := by
  simp only [VRep] at rv
  obtain ⟨a, rfl, ma⟩ := rv
  obtain ⟨_, _, dx, md, ga⟩ := R.obj l _ a e rfl ma
  obtain ⟨_, _, m, hn, h1, h2, h3⟩ := R.obj d _ dx e2 rfl md
  obtain ⟨od, ho, hl⟩ := lookIn_ns hn.ns
  exact ⟨a, dx, od, m, rfl, ma, md, ⟨ga, rfl, rfl, ho⟩, hn, hl, h1, h2, h3⟩

theorem vrep_handed {c : Cfg} {h : Heap} {v' : Value} {v : V} (r : VRep X c h v' v) : handedIn v' = true := by
  cases v with
  | none => rw [vrep_none r]; rfl
  | bool b => rw [vrep_bool r]; rfl
  | int b => obtain ⟨t, rfl⟩ := vrep_int r; rfl
  | str b => obtain ⟨⟨t, rfl⟩, _⟩ := vrep_str r; rfl
  | tup vs => obtain ⟨a, items, n, rfl, _⟩ := vrep_tup r; rfl
  | lst vs => simp only [VRep] at r; obtain ⟨a, items, n, rfl, _⟩ := r; rfl
  | loc l => simp only [VRep] at r; obtain ⟨a, rfl, _⟩ := r; rfl
  | exn k => simp only [VRep] at r; obtain ⟨a, o, fs, rfl, _⟩ := r; rfl
  | fn k => simp only [VRep] at r; rw [r]; rfl

/-! an attribute read -/
noncomputable def attrName (n : Nat) : Str := if n = 0 then "rows" else "ways"
theorem pAttr_some {n : Nat} {v : V} {σ : St} (nb : pAttr n v σ ≠ .bad) : ∃ l d r w x, v = .loc l ∧ σ[l]? = some (.inst d) ∧ σ[d]? = some (.attrs r w) ∧ (if n = 0 then r else w) = some x ∧ pAttr n v σ = .ok x σ := by
  unfold pAttr at nb ⊢
  split at nb
  · rename_i l
    split at nb
    · rename_i d h1
      split at nb
      · rename_i r w h2
        obtain ⟨x, hx⟩ := lift_ne_bad nb
        exact ⟨l, d, r, w, x, rfl, h1, h2, hx, by simp [h1, h2, hx]⟩
      · exact absurd rfl nb
    · exact absurd rfl nb
  · exact absurd rfl nb
theorem p_attr {n : Nat} {name : Str} (ck : ClsK X K) (hn : name = attrName n) : Prim1 X (fun v => getAttr v name true) (pAttr n) := by
  intro A fr c σ s a' a ro I ra nb
  obtain ⟨l, d, r, w, x, rfl, h1, h2, hx, hp⟩ := pAttr_some nb
  rw [hp]
  obtain ⟨ad, dx, od, m, rfl, ma, md, IA, hns, hl, q1, q2, q3⟩ := inst_at I.rel ra h1 h2
  have KI : K.In s.heap := fun b o e => I.rel.base b o (ck.ki b o e)
  obtain ⟨x', hm, rx⟩ : ∃ v', m name = some v' ∧ VRep X c s.heap v' x := by
    subst hn
    unfold attrName
    by_cases hz : n = 0
    · rw [if_pos hz] at hx ⊢; exact q1 x hx
    · rw [if_neg hz] at hx ⊢; exact q2 x hx
  have hf : findIn K (.ref X.cls) name = some none := by
    subst hn; unfold attrName; split
    · exact ck.rowsF
    · exact ck.waysF
  exact get_value KI IA ck.ga (findObj_own ck.hasD hf rfl (by rw [hl, hm])) (vrep_handed rx) (POk.plain I _ rx)
theorem sE_attr {o : Expr} {name : Str} {pos : Pos} {n : Nat} {co : E} (ck : ClsK X K) (hn : name = attrName n) (ho : SoundE X D o co)
    (he : ∀ env, eval (.Attribute o name pos) env = (do
      let v ← eval o env
      standAt pos.atName
      let r ← holding [v] (getAttr v name true)
      letTemporaryGo o v r
      pure r)) : SoundE X D (.Attribute o name pos) (un (pAttr n) co) := by
  intro a c σ ρ s ok I nb
  unfold un at nb ⊢
  refine Attribute_any_ (ho.then ok I nb (fun _ _ p => p) fun v' v σ₁ c₁ s₁ e1 eb nb1 I1 x1 r1 => ?_) (he _)
  rw [eb]
  exact wpAny_mono (p_attr ck hn a.A a.fr c₁ σ₁ s₁ v' v ok.room.p I1.r r1 nb1) (fun v3 s3 p3 => (p3.act I1).trans x1) fun _ _ f => f.elim

/-! an attribute set -/
theorem pSet_some {n : Nat} {v x : V} {σ : St} (nb : pSetAttr n v x σ ≠ .bad) : ∃ l d r w, v = .loc l ∧ σ[l]? = some (.inst d) ∧ σ[d]? = some (.attrs r w) ∧ pSetAttr n v x σ = .ok .none (σ.set d (if n = 0 then .attrs (some x) w else .attrs r (some x))) := by
  unfold pSetAttr at nb ⊢
  split at nb
  · rename_i l
    split at nb
    · rename_i d h1
      split at nb
      · rename_i r w h2
        exact ⟨l, d, r, w, rfl, h1, h2, by simp [h1, h2]⟩
      · exact absurd rfl nb
    · exact absurd rfl nb
  · exact absurd rfl nb
theorem p_setAttr {n : Nat} {name : Str} (ck : ClsK X K) (hn : name = attrName n) (A : Around) (fr : List Addr) (c : Cfg) (σ : St) (s : Shared) (o' v' : Value) (o v : V) (ro : PRoom A) (I : RInv X fr c σ s) (rp : VRep X c s.heap o' o) (rv : VRep X c s.heap v' v) (nb : pSetAttr n o v σ ≠ .bad) :
    wpAny (model X.prog X.w) A (setAttr o' name v') (fun _ s' => POk X fr c σ s (pSetAttr n o v σ) .none s') (fun _ _ => False) s := by
  obtain ⟨l, d, r, w, rfl, h1, h2, hp⟩ := pSet_some nb
  rw [hp]
  obtain ⟨ad, dx, od, m, rfl, ma, md, IA, hns, hl, q1, q2, q3⟩ := inst_at I.rel rp h1 h2
  have KI : K.In s.heap := fun b o e => I.rel.base b o (ck.ki b o e)
  have hT : takerIn K X.cls name = some none := by
    subst hn; unfold attrName; split
    · exact ck.rowsT
    · exact ck.waysT
  obtain ⟨cd, hc, hd'⟩ := any_some ck.hasD
  refine set_plain KI IA ck.sa (osa_open (s := { s with toks := s.toks + 1 }) KI IA ck.over hT fun b => ?_)
  have hx := IA.at_
  refine wpAny_bind (wpAny_pure (wpAny_bind (wpAny_bind (wpAny_loadPart hx (wpAny_bind (looks_clsIn KI hc _ _ _ _ (fun _ _ e => e) ?_))))))
  rw [hd']
  refine wpAny_pure (a := some dx) (wpAny_bind (wpAny_pure (wpAny_bind ?_)))
  refine wpAny_nsSet1 (s := { s with toks := s.toks + 1 }) hns (fun h' hn' hs => ?_)
  have nf : ¬ c.frz dx := (I.rel.obj d _ dx h2 rfl md).1
  have mono : ∀ {w' : Value} {w : V}, VRep X c s.heap w' w → VRep X c h' w' w := fun {w' w} q => VRep.mono (fun _ _ e => e) (fun _ f => f) (fun b ob f e => (hs.2 b (by rintro rfl; exact nf f)).trans e) w q
  have hrw : ("rows" : Str) ≠ "ways" := by decide
  have hrep : ObjRep X c h' dx (if n = 0 then .attrs (some v) w else .attrs r (some v)) := by
    subst hn
    unfold attrName at hn'
    by_cases hz : n = 0
    · rw [if_pos hz] at hn' ⊢
      refine ⟨_, hn', fun y hy => ?_, fun y hy => ?_, fun x hx1 hx2 => ?_⟩
      · cases hy; exact ⟨v', by simp, mono rv⟩
      · obtain ⟨w', e, q⟩ := q2 y hy
        exact ⟨w', by simp [hrw.symm, e], mono q⟩
      · simp [hx1, q3 x hx1 hx2]
    · rw [if_neg hz] at hn' ⊢
      refine ⟨_, hn', fun y hy => ?_, fun y hy => ?_, fun x hx1 hx2 => ?_⟩
      · obtain ⟨w', e, q⟩ := q1 y hy
        exact ⟨w', by simp [hrw, e], mono q⟩
      · cases hy; exact ⟨v', by simp, mono rv⟩
      · simp [hx2, q3 x hx1 hx2]
  have hm' : ∀ x : Str, x ≠ "rows" → x ≠ "ways" → (fun x => if x = name then some v' else m x) x = none := by
    intro x h1 h2
    have : x ≠ name := by subst hn; unfold attrName; split <;> assumption
    simp only [this, if_false]; exact q3 x h1 h2
  obtain ⟨o2, es2, ep2, g2, d2, z2⟩ := ns1_size hn' hm'
  have hrec : ∃ ob, h'.get? dx = some ob ∧ ∀ vs, ob.data ≠ .fields vs := ⟨o2, g2, fun vs q => by rw [d2] at q; cases q⟩
  refine wpAny_bind (wpAny_lookBehind g2 (by rw [d2]; exact pastItsLine_dict (by rw [sizeLine_eq]; omega)) (wpAny_pure ?_))
  obtain ⟨R, x⟩ := I.change (t := s.toks + 1 + 1) md h2 rfl (by split <;> rfl) hs hrep hrec
  exact ⟨.none, _, c, rfl, R, x, rep_none⟩
theorem sS_setAttr {o value : Expr} {name : Str} {pos' pos : Pos} {n : Nat} {cv co : E} (ck : ClsK X K) (hn : name = attrName n) (hs : ∀ env, swapsWith value (some (.Attribute o name pos')) pos.line env = pure false) (hv : SoundE X D value cv) (ho : SoundE X D o co) :
    SoundS X D (.Assign [.Attribute o name pos'] value pos) (exprS (bin (fun v o σ => pSetAttr n o v σ) cv co)) := by
  intro a c σ ρ s ok I nb
  have nb0 := to_ok_ne nb
  unfold exprS
  have key : wpAny (model X.prog X.w) a.A (exec (.Assign [.Attribute o name pos'] value pos) a.env) (fun f s' => f = .next ∧ OkPost X a c σ ρ s (bin (fun v o σ => pSetAttr n o v σ) cv co ρ σ) .none s') (ExPost X a c σ ρ s (bin (fun v o σ => pSetAttr n o v σ) cv co ρ σ)) s := by
    unfold bin at nb0 ⊢
    refine plainObj_wpAny_Assign_Attribute (hv.then ok I nb0 (fun _ _ p => p) fun v' v σ₁ c₁ s₁ e1 eb nb1 I1 x1 r1 => ?_) (hs _)
    rw [eb]
    refine ho.then ok I1 nb1 (fun e' s' p => p.trans x1) fun o' ov σ₂ c₂ s₂ e2 eb2 nb2 I2 x2 r2 => ?_
    rw [eb2]
    refine wpAny_mono (p_setAttr ck hn a.A a.fr c₂ σ₂ s₂ o' v' ov v ok.room.p I2.r r2 (r1.evo x2 I1.r.rel I1.r.fro (fun _ _ => id)) nb2) (fun _ s4 p4 => ⟨rfl, (p4.act I2).trans (x1.trans x2)⟩) fun _ _ f => f.elim
  refine wpAny_mono key (fun f s' q => ?_) fun e' s' q => SExc.ofEx q
  obtain ⟨rfl, v, σ', c', h1, i', x', r'⟩ := q
  rw [h1]
  exact .inl ⟨ρ, σ', c', rfl, rfl, i', EvoO.weak x'⟩

/-! a method's call -/
theorem isT_some {σ : St} {v : V} (h : isT σ v = true) : ∃ l d r w, v = .loc l ∧ σ[l]? = some (.inst d) ∧ σ[d]? = some (.attrs r w) := by
  unfold isT at h
  split at h
  · rename_i l
    split at h
    · rename_i d h1
      split at h
      · rename_i r w h2; exact ⟨l, d, r, w, rfl, h1, h2⟩
      · cases h
    · cases h
  · cases h
theorem sE_methI {o : Expr} {es : List Expr} {ces : List E} {name : Str} {apos pos : Pos} {co : E} {fa : Addr} {f : F} {n : Nat} (ck : ClsK X K) (mk : MethK X K name fa) (hnm : name ≠ "rows" ∧ name ≠ "ways") (hf : FnAt X fa) (hF : SoundF X n D.rs fa f) (hn : n ≤ D.n)
    (hbase : ∀ env, attributeBase o name env (eval o env) = eval o env) (hline : (apos.endLine == pos.line) = true)
    (hfew : ∀ env, methodCallForm (es.length + ([] : List Keyword).length) (backTo pos (starEach es env)) (backToKw pos (keywordEach [] env)) = true)
    (ho : SoundE X D o co) (h : SoundA X D es ces) (hs : ∀ env, (backTo pos (starEach es env)).any (·.1) = false) : SoundE X D (.Call (.Attribute o name apos) es [] pos) (appM f co ces) := by
  intro a c σ ρ s ok I nb
  unfold appM at nb ⊢
  rw [arm_eval_Call, hbase]
  refine wpAny_bind (ho.then ok I nb (fun _ _ p => p) fun v' v σ₁ c₁ s₁ e1 eb nb1 I1 x1 r1 => ?_)
  rw [eb]
  split at nb1
  · rename_i hc
    rw [if_pos hc]
    obtain ⟨l, d, r, w, rfl, h1, h2⟩ := isT_some hc
    obtain ⟨ad, dx, od, m, rfl, ma, md, IA, hns, hl, q1, q2, q3⟩ := inst_at I1.r.rel r1 h1 h2
    have KI : K.In s₁.heap := fun b o e => I1.r.rel.base b o (ck.ki b o e)
    refine wpAny_bind (wpAny_standAt ?_)
    have hpos : methodCallPos true o a.env apos pos = pure pos := by unfold methodCallPos; simp [hline]
    unfold methodCall
    rw [hfew]
    refine wpAny_bind (wpAny_holding (method_fn KI IA ck.ga ck.gattr mk.find mk.fn (by show (lookIn name od).map (·.isSome) = some false; rw [hl, q3 _ hnm.1 hnm.2]; rfl) ?_))
    refine wpAny_bind (wpAny_of_eq hpos ?_)
    obtain ⟨o₀, fd, ho₀, hdat⟩ := hf.here
    refine Calls.callWith_function (o := o₀) (fd := fd) (evalArgs_spliced (hs _) (h.then ok I1 nb1 (fun e' s' p => p.trans x1) fun vs' vs σ₂ c₂ s₂ e2 eb2 nb2 I2 x2 r2 => ?_))
    rw [eb2]
    refine ⟨⟨I2.r.rel.base _ _ ho₀, hdat⟩, ?_⟩
    have rs : VReps X c₂ s₂.heap (.ref ad :: vs') (.loc l :: vs) := by
      simp only [VReps]
      exact ⟨_, _, rfl, r1.evo x2 I1.r.rel I1.r.fro (fun _ _ => id), r2⟩
    refine wpAny_call (codeAny_mono (hF a.A a.envs c₂ σ₂ s₂ (.ref ad :: vs') (.loc l :: vs) (ok.room.mono hn) ⟨ok.frames, ok.kinds⟩ ok.hd I2.r rs nb2) fun r s₃ p => ?_)
    cases r with
    | error e' =>
      obtain ⟨k, σ', c', e, h1, h2, i, x, z⟩ := p
      exact ExPost.trans (x1.trans x2) ⟨k, σ', c', e, h1, h2, I2.evo x i, x, z.at_none⟩
    | ok fl =>
      cases fl with
      | ret v' =>
        obtain ⟨v, σ', c', h1, i, x, r⟩ := p
        exact OkPost.trans (x1.trans x2) ⟨v, σ', c', h1, I2.evo x i, x, r⟩
      | next => exact p.elim
      | brk => exact p.elim
      | cont => exact p.elim
  · exact absurd rfl nb1

/-! a new instance -/
theorem under_tc {A : Around} {C : Addr} {rest : List Value} {kw : List (Str × Value)} : A.under (.builtin "type.__call__" ⟨.ref C :: rest, kw⟩) = { A with depth := A.depth + 1, units := A.units + 1 } := by kernel_rfl
theorem ExcH.evo {cx : Cfg} {fl : Value} {own : Addr → Prop} {fr : List Addr} {c c' : Cfg} {σ σ' : St} {s s' : Shared} (x : EvoO own fr c σ s c' σ' s') {h : Heap} {k : Nat} {e : Addr} (z : ExcH X cx fl s'.heap h k e) : ExcH X cx fl s.heap h k e := by
  exact z.elim
theorem soundNew {fa : Addr} {f : F} {n : Nat} {rs : Bool} (ck : ClsK X K) (mk : MethK X K "__init__" fa) (hF : SoundF X n rs fa f) : SoundF X (n + 1) rs X.cls (newInst f) := by
  intro A envs c σ s vs' vs room fo hd I r nb
  have KI : K.In s.heap := fun b o e => I.rel.base b o (ck.ki b o e)
  unfold newInst at nb ⊢
  have hfree : (emptyDict).isFreed = false := rfl
  have I1 := I.pushPlace (.attrs none none) emptyDict rfl (fun _ h => nomatch h) ⟨fun _ => none, ⟨_, #[], 0, Heap.get?_push_size _ rfl, rfl, fun e he => by simp at he, by simp [UniqKeys], fun x => rfl⟩, ⟨fun v q => (nomatch q), fun v q => (nomatch q), fun _ _ _ => rfl⟩⟩
  have x1 : Evo (frOf envs) c σ s (c.place s.heap.objs.size) (σ ++ [.attrs none none]) { s with heap := s.heap.push emptyDict } := place_evo I.rel (.attrs none none) emptyDict rfl
  have hmu : (c.place s.heap.objs.size).mu[σ.length]? = some s.heap.objs.size := by simp [Cfg.place, ← I.rel.len]
  have I2 := I1.pushPlace (.inst σ.length) (instObj X.cls s.heap.objs.size) rfl (fun _ h => nomatch h) ⟨s.heap.objs.size, getElem?_append_some _ hmu, Heap.get?_push_size _ rfl⟩
  have x2 := place_evo (fr := frOf envs) I1.rel (.inst σ.length) (instObj X.cls s.heap.objs.size) rfl
  have x12 := x1.trans x2
  have hsz : (s.heap.push emptyDict).objs.size = s.heap.objs.size + 1 := Heap.size_push ..
  obtain ⟨hh, g, d, t, os⟩ := s
  refine make_core (makes_of KI ck.makes) (looks_findIn KI mk.find) (fun self => bind_fn KI self mk.fn) (.inl rfl) ?_
  rw [under_tc]
  simp only [hsz] at I2 x12
  have rm : ARoom { A with depth := A.depth + 1, units := A.units + 1 } n := ⟨room.guards, by have := room.depth; show A.depth + 1 + 20 * n < 900; omega, by have := room.units; show A.units + 1 + 100 * n < 9000; omega⟩
  have hl : (σ ++ [PObj.attrs none none]).length = σ.length + 1 := by simp
  have rself : VRep X ((c.place hh.objs.size).place (hh.objs.size + 1)) ((hh.push emptyDict).push (instObj X.cls hh.objs.size)) (.ref (hh.objs.size + 1)) (.loc (σ.length + 1)) := by
    simp only [VRep]
    refine ⟨_, rfl, ?_⟩
    simp only [Cfg.place]
    have := I.rel.len
    simp [this]
  have rargs : VReps X ((c.place hh.objs.size).place (hh.objs.size + 1)) ((hh.push emptyDict).push (instObj X.cls hh.objs.size)) (.ref (hh.objs.size + 1) :: vs') (.loc (σ.length + 1) :: vs) := by
    simp only [VReps]
    exact ⟨_, _, rfl, rself, r.evo x12 I.rel I.fro (fun _ _ => id)⟩
  have nb' : f (.loc (σ.length + 1) :: vs) (σ ++ [PObj.attrs none none] ++ [PObj.inst σ.length]) ≠ .bad := by have := bind_ok_ne nb; simpa using this
  refine codeAny_mono (hF { A with depth := A.depth + 1, units := A.units + 1 } envs _ _ _ (.ref (hh.objs.size + 1) :: vs') (.loc (σ.length + 1) :: vs) rm ⟨fo.frames, fo.kinds⟩ hd I2 rargs nb') fun res s' p => ?_
  cases res with
  | error e' =>
    obtain ⟨k, σ', c', e, h1, h2, i, y, z⟩ := p
    show FPost X (frOf envs) c σ _ _ (.error e') s'
    have h1' : f (V.loc (σ.length + 1) :: vs) (σ ++ [PObj.attrs none none, PObj.inst σ.length]) = .exc k σ' := by simpa using h1
    rw [h1']
    exact ⟨k, σ', c', e, rfl, h2, i, x12.trans y, z.evo x12⟩
  | ok fl =>
    cases fl with
    | ret v' =>
      obtain ⟨v, σ', c', h1, i, y, q⟩ := p
      have h1' : f (V.loc (σ.length + 1) :: vs) (σ ++ [PObj.attrs none none, PObj.inst σ.length]) = .ok v σ' := by simpa using h1
      rw [h1'] at nb ⊢
      simp only [Out.ok_bind] at nb ⊢
      cases v with
      | none =>
        refine ⟨vrep_none q, ?_⟩
        refine ⟨_, σ', c', rfl, i, x12.trans y, ?_⟩
        exact rself.evo y I2.rel I2.fro (fun _ _ => id)
      | _ => exact absurd rfl nb
    | next => exact p.elim
    | brk => exact p.elim
    | cont => exact p.elim

theorem sE_new {np pos : Pos} {es : List Expr} {ces : List E} {f : F} {n : Nat} (xo : XOk X) (ck : ClsK X K) (hk : D.sc.names.lookup ("Tariff" : Str) = some .globalImplicit)
    (hF : SoundF X n D.rs X.cls f) (hn : n ≤ D.n) (h : SoundA X D es ces) (hs : ∀ env, (backTo pos (starEach es env)).any (·.1) = false) (hcall : ∀ env, eval (.Call (.Name "Tariff" np) es [] pos) env = (do callWith pos (← eval (.Name "Tariff" np) env) [] (backTo pos (starEach es env)) (backToKw pos (keywordEach [] env)))) : SoundE X D (.Call (.Name "Tariff" np) es [] pos) (app f ces) := by
  intro a c σ ρ s ok I nb
  unfold app at nb ⊢
  refine Call_ (name_glob xo ok I hk (by decide) ck.bound ?_) (hcall _)
  show wpAny _ _ (callWith pos (.ref X.cls) [] (backTo pos (starEach es a.env)) []) _ _ s
  refine PySem.W.callWith_of (P := fun h => K.In h) (by simp [hs]) (keeps_K ck.keep) (evalArgs_spliced (hs _) ?_)
  refine h.then ok I nb (fun _ _ p => p) fun vs' vs σ₁ c₁ s₁ e1 eb nb1 I1 x1 r1 => ?_
  rw [eb]
  refine ⟨fun b o e => I1.r.rel.base b o (ck.ki b o e), ?_⟩
  refine wpAny_call (codeAny_mono (hF a.A a.envs c₁ σ₁ s₁ vs' vs (ok.room.mono hn) ⟨ok.frames, ok.kinds⟩ ok.hd I1.r r1 nb1) fun r s₂ p => ?_)
  cases r with
  | error e' =>
    obtain ⟨k, σ', c', e, h1, h2, i, x, z⟩ := p
    exact ExPost.trans x1 ⟨k, σ', c', e, h1, h2, I1.evo x i, x, z.at_none⟩
  | ok fl =>
    cases fl with
    | ret v' =>
      obtain ⟨v, σ', c', h1, i, x, r⟩ := p
      exact OkPost.trans x1 ⟨v, σ', c', h1, I1.evo x i, x, r⟩
    | next => exact p.elim
    | brk => exact p.elim
    | cont => exact p.elim
end
end Mine
end

section
namespace Mine
open PySem PyProof.Rows PySem.W

section
variable {X : Ctx} {D : Dom} {K : Frag}

/-- a fresh object becomes a place -/
theorem POk.freshPlace {fr : List Addr} {c : Cfg} {σ : St} {s : Shared} {h' : Heap} {b : Addr} {ob : Obj} {po : PObj} {t : Nat} (I : RInv X fr c σ s) (hk : ∀ b o, s.heap.get? b = some o → h'.get? b = some o) (hn : s.heap.get? b = none) (e : h'.get? b = some ob) (hrec : ∀ vs, ob.data ≠ .fields vs) (hr : ObjRep X (c.place b) h' b po) :
    POk X fr c σ s (alloc po σ) (.ref b) { s with heap := h', toks := t } := by
  have q : Quiet [] fr s.heap h' := ⟨fun a o e _ _ => hk a o e, fun a o e _ _ => ⟨o.slots, hk a o e⟩⟩
  have I' : RInv X fr c σ { s with heap := h', toks := t } := I.quiet q (by simp) (by simp) (by simp)
  have x' : Evo fr c σ s c σ { s with heap := h', toks := t } := (EvoO.self).quiet q (by simp)
  have hnb : X.base.get? b = none := by
    cases q : X.base.get? b with
    | none => rfl
    | some o => have := I.rel.base _ _ q; rw [hn] at this; cases this
  have hlv : ∀ a, live (c.place b) (σ ++ [po]) a → live c σ a ∨ a = b := by
    rintro a ⟨l, o, m, e, d⟩
    rcases getElem?_snoc _ _ _ _ m with m | ⟨rfl, rfl⟩
    · rcases getElem?_snoc _ _ _ _ e with e | ⟨rfl, rfl⟩
      · exact .inl ⟨l, o, m, e, d⟩
      · have := (List.getElem?_eq_some_iff.mp m).1
        rw [I.rel.len] at this; exact absurd this (Nat.lt_irrefl _)
    · exact .inr rfl
  refine ⟨_, σ ++ [po], c.place b, rfl, ⟨⟨by simp [Cfg.place, I.rel.len], ?_, fun a h => ?_, fun l o a e1 d m => ?_, fun a f => I'.rel.frz a f, I'.rel.base⟩, I'.fro, fun f hf => ⟨fun l => ?_, (I.frl f hf).2⟩⟩, ?_, ?_⟩
  · simp only [Cfg.place]
    refine List.nodup_append.mpr ⟨I.rel.nd, by simp, fun a ha b' hb' q => ?_⟩
    simp at hb'; subst hb'; subst q
    obtain ⟨ob, e, _⟩ := I.rel.there _ ha
    rw [hn] at e; cases e
  · simp only [Cfg.place, List.mem_append, List.mem_singleton] at h
    rcases h with h | rfl
    · exact I'.rel.there a h
    · exact ⟨ob, e, hrec⟩
  · simp only [Cfg.place] at m
    rcases getElem?_snoc _ _ _ _ m with m | ⟨rfl, rfl⟩
    · have e' : σ[l]? = some o := by
        rcases getElem?_snoc _ _ _ _ e1 with e | ⟨rfl, rfl⟩
        · exact e
        · have := (List.getElem?_eq_some_iff.mp m).1
          rw [I.rel.len] at this; exact absurd this (Nat.lt_irrefl _)
      obtain ⟨n1, n2, n3⟩ := I'.rel.obj l o a e' d m
      exact ⟨n1, n2, ObjRep.mono (c := c) (c' := c.place b) (fun _ _ e => getElem?_append_some _ e) (fun _ f => f) (fun _ _ _ e => e) (fun _ e => e) o n3⟩
    · rw [I.rel.len] at e1
      obtain rfl : po = o := by simpa using e1
      refine ⟨fun f => ?_, hnb, hr⟩
      obtain ⟨ob, e, _⟩ := I.rel.frz _ f
      rw [hn] at e; cases e
  · rcases hlv f l with l | rfl
    · exact (I.frl f hf).1 l
    · obtain ⟨o, _, _, e, _⟩ := I.fro _ hf
      rw [hn] at e; cases e
  · exact ⟨x'.same, x'.frs, x'.exist, fun a l => (hlv a l).imp id fun q => by rw [q]; exact hn, fun l a m => getElem?_append_some _ m, x'.frz, fun a f => .inl f, x'.gens, x'.os⟩
  · simp only [VRep]
    exact ⟨_, rfl, by simp [Cfg.place, ← I.rel.len]⟩
theorem POk.freshList {fr : List Addr} {c : Cfg} {σ : St} {s : Shared} {h' : Heap} {b : Addr} {items : Array Value} {n : Nat} {vs : List V} {t : Nat} (I : RInv X fr c σ s) (hk : ∀ b o, s.heap.get? b = some o → h'.get? b = some o) (hn : s.heap.get? b = none) (e : h'.get? b = some (lstObj items n)) (r : VReps X c s.heap items.toList vs) (hl : vs.length ≤ LIM) :
    POk X fr c σ s (alloc (.list vs) σ) (.ref b) { s with heap := h', toks := t } :=
  POk.freshPlace I hk hn e (fun _ h => nomatch h) ⟨items, n, e, VReps.mono (c := c) (c' := c.place b) (fun _ _ e => getElem?_append_some _ e) (fun _ f => f) (fun b o _ e => hk b o e) vs r, hl⟩

/-! list(x), changed later -/
theorem p_listM : Prim1 X (fun v => call (.type "list") [v]) pListM := by
  intro A fr c σ s a' a ro I ra nb
  have list : ∀ vs, asList σ a = some vs → pListM a σ = alloc (.list vs) σ → wpAny (model X.prog X.w) A (call (.type "list") [a']) (POk X fr c σ s (pListM a σ)) (fun _ _ => False) s := by
    intro vs hv hp
    rw [hp]
    obtain ⟨l, items, n, rfl, g, r, hl⟩ := list_of I.rel ra hv
    have hlen := r.length
    simp only [Array.length_toList] at hlen
    refine call_list_seq l (.inl rfl) g rfl rfl (fun h' c' hk e => ?_) (lim_le hlen hl)
    exact POk.freshList (t := s.toks) I hk (get?_size _) e r hl
  cases a with
  | lst vs => exact list vs rfl rfl
  | tup vs =>
    obtain ⟨l, items, n, rfl, hf, g, r, hl⟩ := vrep_tup ra
    have hlen := r.length
    simp only [Array.length_toList] at hlen
    refine call_list_seq l (.inr rfl) g rfl rfl (fun h' c' hk e => ?_) (lim_le hlen hl)
    exact POk.freshList (t := s.toks) I hk (get?_size _) e r hl
  | loc l =>
    simp only [pListM, asIter] at nb
    cases ho : σ[l]? with
    | none => rw [ho] at nb; exact absurd rfl nb
    | some o =>
      cases o with
      | list vs => exact list vs (by simp [asList, ho]) (by simp [pListM, asIter, ho])
      | _ => rw [ho] at nb; exact absurd rfl nb
  | str x => exact absurd rfl nb
  | _ => exact absurd rfl nb

/-! x is None -/
theorem isNone_of {c : Cfg} {h : Heap} {v' : Value} {v : V} (r : VRep X c h v' v) : plainIs v' .none = true ∧ (v' == .none) = isNoneV v := by
  cases v with
  | none => rw [vrep_none r]; exact ⟨rfl, rfl⟩
  | bool b => rw [vrep_bool r]; exact ⟨rfl, rfl⟩
  | int b => obtain ⟨t, rfl⟩ := vrep_int r; exact ⟨rfl, rfl⟩
  | str b => obtain ⟨⟨t, rfl⟩, _⟩ := vrep_str r; exact ⟨rfl, rfl⟩
  | tup vs => obtain ⟨a, items, n, rfl, _⟩ := vrep_tup r; exact ⟨rfl, rfl⟩
  | lst vs => simp only [VRep] at r; obtain ⟨a, items, n, rfl, _⟩ := r; exact ⟨rfl, rfl⟩
  | loc l => simp only [VRep] at r; obtain ⟨a, rfl, _⟩ := r; exact ⟨rfl, rfl⟩
  | exn k => simp only [VRep] at r; obtain ⟨a, o, fs, rfl, _⟩ := r; exact ⟨rfl, rfl⟩
  | fn k => simp only [VRep] at r; rw [r]; exact ⟨rfl, rfl⟩
theorem c_isnot : CmpPrim X .IsNot := by
  intro A fr c σ s a' b' a b r ro I ra rb h
  cases b with
  | none =>
    rw [vrep_none rb]
    obtain ⟨h1, h2⟩ := isNone_of ra
    simp only [cmpV, Option.some.injEq] at h
    exact wpAny_isNot_plain h1 ⟨by rw [h2, ← h], s.toks, rfl⟩
  | _ => cases h

/-! {} -/
theorem noMods {s : Shared} {fr : List Addr} {c : Cfg} {σ : St} (xo : XOk X) (I : RInv X fr c σ s) : (s.heap.objs.size == sysModules) = false := by
  obtain ⟨o, _, _, e, _⟩ := xo.g
  have := Heap.lt_size (I.rel.base _ _ e)
  refine beq_eq_false_iff_ne.mpr fun q => ?_
  rw [q] at this
  exact absurd this (by decide)
theorem emptyD_get {h : Heap} : (h.push { cls := .type "dict", data := .dict #[] }).get? h.objs.size = some { cls := .type "dict", data := .dict #[] } := Heap.get?_push_size _ rfl
theorem sE_newDS {pos : Pos} (xo : XOk X) : SoundE X D (.Dict [] [] pos) (newD (.dictS [])) := by
  intro a c σ ρ s ok I nb
  refine wpAny_Dict_empty ((POk.freshPlace (po := .dictS []) (t := s.toks) I.r (fun b o e => Heap.get?_push_of_some _ e) (get?_size _) emptyD_get (fun _ h => nomatch h) ?_).act I)
  exact ⟨noMods xo I.r, [], Heap.DictOfH.new _, by simp, rfl, by simp [VReps]⟩
/-! d.get -/
theorem isD_some {σ : St} {v : V} (h : isD σ v = true) : ∃ l es, v = .loc l ∧ σ[l]? = some (.dictS es) := by
  unfold isD at h
  split at h
  · rename_i l
    split at h
    · rename_i es h1; exact ⟨l, es, rfl, h1⟩
    · cases h
  · cases h
theorem recv_dict : RecvOk X "dict" isD := by
  intro fr c σ s v' v I r h
  obtain ⟨l, es, rfl, ho⟩ := isD_some h
  obtain ⟨d, xs, rfl, m, hs, hm, hf, k1, k2⟩ := loc_dictS I.rel r ho
  exact ⟨hm.typeIs, dictOfH_noDict hm⟩
theorem m_get : MethOk "dict" "get" "dict.get" := ⟨F.plainAttrs_dict, F.slot_dict_get, F.type_dict_get⟩
theorem pGet_some {v k d : V} {σ : St} (nb : pGet v k d σ ≠ .bad) : ∃ l es ks, v = .loc l ∧ σ[l]? = some (.dictS es) ∧ asStrs k = some ks ∧ pGet v k d σ = .ok ((es.lookup ks).getD d) σ := by
  unfold pGet at nb ⊢
  split at nb
  · rename_i l
    split at nb
    · rename_i es h1
      obtain ⟨x, hx⟩ := lift_ne_bad nb
      obtain ⟨ks, h2, rfl⟩ := Option.map_eq_some_iff.mp hx
      exact ⟨l, es, ks, rfl, h1, h2, by simp [h1, h2]⟩
    · exact absurd rfl nb
  · exact absurd rfl nb
theorem ip_get1 : Prim2 X (fun v w => call (.builtin "dict.get") [v, w]) pGet1 := by
  intro A fr c σ s a' b' a b ro I ra rb nb
  unfold pGet1 at nb ⊢
  obtain ⟨l, es, ks, rfl, ho, hk, hp⟩ := pGet_some nb
  rw [hp]
  obtain ⟨d, xs, rfl, m, hs, hm, hf, k1, k2⟩ := loc_dictS I.rel ra ho
  obtain ⟨ka, rfl, fk, tk⟩ := key_strs rb hk
  exact tab_get1 (enc := fun k => k.map strOf) (c := c) (fun a b e => map_strOf_inj e) ro hs hm k1 k2 tk fun w' t rw' => POk.plain I t rw'
theorem gE_get1 {o e : Expr} {apos pos : Pos} {co ce : E} (ho : SoundE X D o co) (he : SoundE X D e ce) (hbase : ∀ env, attributeBase o "get" env (eval o env) = eval o env := by intro _; rfl) (hs : ∀ env, starEach [e] env = [(false, eval e env)] := by intro _; rfl) (hline : (apos.endLine == pos.line) = true := by rfl) : SoundE X D (.Call (.Attribute o "get" apos) [e] [] pos) (binM isD pGet1 co ce) :=
  sE_meth1 m_get recv_dict (PrimL.of2 (t := fun vs => call (.builtin "dict.get") vs) ip_get1) (fun q => by cases q) hbase hs hline ho he

/-! methods without arguments -/
theorem sE_meth0 {o : Expr} {name : Str} {apos pos : Pos} {T id : String} {chk : St → V → Bool} {p : V → St → Out V} {co : E} (hm : MethOk T name id) (hr : RecvOk X T chk) (hp : Prim1 X (fun v => call (.builtin id) [v]) p)
    (hbase : ∀ env, attributeBase o name env (eval o env) = eval o env) (hline : (apos.endLine == pos.line) = true) (ho : SoundE X D o co) : SoundE X D (.Call (.Attribute o name apos) [] [] pos) (bin0 chk p co) := by
  intro a c σ ρ s ok I nb
  unfold bin0 at nb ⊢
  refine Call_method0 (hbase _) hline (ho.then ok I nb (fun _ _ p => p) fun v' v σ₁ c₁ s₁ e1 eb nb1 I1 x1 r1 => ?_)
  rw [eb]
  split at nb1
  · rename_i hc
    rw [if_pos hc]
    obtain ⟨hT, hd⟩ := hr a.fr c₁ σ₁ s₁ v' v I1.r r1 hc
    refine ⟨T, id, hm.pa, hm.slot, hm.ty, hT, hd, ?_⟩
    refine callWith_of (.inr ⟨id, rfl⟩) rfl (Calls.spliced_nil ?_)
    exact wpAny_mono (hp a.A a.fr c₁ σ₁ s₁ v' v ok.room.p I1.r r1 nb1) (fun v3 s3 p3 => (p3.act I1).trans x1) fun _ _ f => f.elim
  · exact absurd rfl nb1
theorem ip_clear : Prim1 X (fun v => call (.builtin "list.clear") [v]) pClear := by
  intro A fr c σ s a' a ro I ra nb
  cases a with
  | loc l =>
    simp only [pClear] at nb ⊢
    cases ho : σ[l]? with
    | none => rw [ho] at nb; exact absurd rfl nb
    | some o =>
      cases o with
      | list vs =>
        simp only
        obtain ⟨d, items, n, rfl, m, g, r, hl⟩ := loc_list I.rel ra ho
        have hlen := r.length
        simp only [Array.length_toList] at hlen
        refine call_meets F.slot_list_clear ⟨_, g, rfl⟩ F.entry_list_clear (F.args_list_clear_1 _) (PySem.AutoSeq1.list_clear_list_0 d items n (lim_le hlen hl)) ⟨g, ?_⟩
        exact POk.setList (t := s.toks) (items' := #[]) I m ho (Heap.SameBut.update ..) (Heap.get?_update_self _ g rfl) (by simp [VReps]) (by simp)
      | _ => rw [ho] at nb; exact absurd rfl nb
  | _ => exact absurd rfl nb
theorem m_clear : MethOk "list" "clear" "list.clear" := ⟨F.plainAttrs_list, F.slot_list_clear, F.type_list_clear⟩
theorem gE_clear {o : Expr} {apos pos : Pos} {co : E} (ho : SoundE X D o co) (hbase : ∀ env, attributeBase o "clear" env (eval o env) = eval o env := by intro _; rfl) (hline : (apos.endLine == pos.line) = true := by rfl) : SoundE X D (.Call (.Attribute o "clear" apos) [] [] pos) (bin0 isL pClear co) :=
  sE_meth0 m_clear recv_list ip_clear hbase hline ho

/-! generator's forms of the class nodes -/
theorem gE_attr {o : Expr} {name : Str} {pos : Pos} {n : Nat} {co : E} (ck : ClsK X K) (ho : SoundE X D o co) (hn : name = attrName n := by rfl)
    (he : ∀ env, eval (.Attribute o name pos) env = (do
      let v ← eval o env
      standAt pos.atName
      let r ← holding [v] (getAttr v name true)
      letTemporaryGo o v r
      pure r) := by intro _; with_unfolding_all rfl) : SoundE X D (.Attribute o name pos) (un (pAttr n) co) := sE_attr ck hn ho he
theorem gS_setAttr {o value : Expr} {name : Str} {pos' pos : Pos} {n : Nat} {cv co : E} (ck : ClsK X K) (hv : SoundE X D value cv) (ho : SoundE X D o co) (hn : name = attrName n := by rfl) (hs : ∀ env, swapsWith value (some (.Attribute o name pos')) pos.line env = pure false := by intro _; rfl) :
    SoundS X D (.Assign [.Attribute o name pos'] value pos) (exprS (bin (fun v o σ => pSetAttr n o v σ) cv co)) := sS_setAttr ck hn hs hv ho
theorem gE_methI {o : Expr} {es : List Expr} {ces : List E} {name : Str} {apos pos : Pos} {co : E} {fa : Addr} {f : F} {n : Nat} (ck : ClsK X K) (mk : MethK X K name fa) (hf : FnAt X fa) (hF : SoundF X n D.rs fa f) (ho : SoundE X D o co) (h : SoundA X D es ces) (hnm : name ≠ "rows" ∧ name ≠ "ways" := by decide) (hn : n ≤ D.n := by decide)
    (hbase : ∀ env, attributeBase o name env (eval o env) = eval o env := by intro _; rfl) (hline : (apos.endLine == pos.line) = true := by rfl)
    (hfew : ∀ env, methodCallForm (es.length + ([] : List Keyword).length) (backTo pos (starEach es env)) (backToKw pos (keywordEach [] env)) = true := by intro _; rfl) (hs : ∀ env, (backTo pos (starEach es env)).any (·.1) = false := by intro _; rfl) : SoundE X D (.Call (.Attribute o name apos) es [] pos) (appM f co ces) :=
  sE_methI ck mk hnm hf hF hn hbase hline hfew ho h hs
theorem gE_new {np pos : Pos} {es : List Expr} {ces : List E} {f : F} {n : Nat} (xo : XOk X) (ck : ClsK X K) (hF : SoundF X n D.rs X.cls f) (h : SoundA X D es ces) (hk : D.sc.names.lookup ("Tariff" : Str) = some .globalImplicit := by with_unfolding_all rfl) (hn : n ≤ D.n := by decide) (hs : ∀ env, (backTo pos (starEach es env)).any (·.1) = false := by intro _; rfl) (hcall : ∀ env, eval (.Call (.Name "Tariff" np) es [] pos) env = (do callWith pos (← eval (.Name "Tariff" np) env) [] (backTo pos (starEach es env)) (backToKw pos (keywordEach [] env))) := by intro _; rfl) : SoundE X D (.Call (.Name "Tariff" np) es [] pos) (app f ces) :=
  sE_new xo ck hk hF hn h hs hcall

/-! a chain as a value -/
theorem sE_chain2 {l r₁ r₂ : Expr} {op₁ op₂ : CmpOp} {pos : Pos} {cl c₁ c₂ : E} (h₁ : CmpPrim X op₁) (h₂ : CmpPrim X op₂) (hm : lastMarks [op₁, op₂] [r₁, r₂] = false) (hl : SoundE X D l cl) (hr₁ : SoundE X D r₁ c₁) (hr₂ : SoundE X D r₂ c₂) : SoundE X D (.Compare l [op₁, op₂] [r₁, r₂] pos) (ofT (tCmps cl [(op₁, c₁), (op₂, c₂)])) := by
  intro a c σ ρ s ok I nb
  unfold ofT at nb ⊢
  have nb' := bind_ok_ne nb
  unfold tCmps at nb nb' ⊢
  refine Compare_chain (hl.then ok I nb' (fun e' s' p => p.bind) fun v' v σ₁ cc₁ s₁ e1 eb nb1 I1 x1 r1 => ?_) hm
  rw [eb]
  unfold tChain at nb1 ⊢
  refine chain_link (hr₁.then ok I1 nb1 (fun e' s' p => (p.trans x1).bind) fun w' w σ₂ cc₂ s₂ e2 eb2 nb2 I2 x2 r2 => ?_)
  rw [eb2]
  obtain ⟨b, hb⟩ := lift_ne_bad (bind_ok_ne nb2)
  refine wpAny_mono (h₁ a.A a.fr cc₂ σ₂ s₂ v' w' v w b ok.room.p I2.r (r1.evo x2 I1.r.rel I1.r.fro (fun _ _ => id)) r2 hb) (fun v3 s3 p3 => ?_) fun _ _ f => f.elim
  obtain ⟨rfl, t, rfl⟩ := p3
  refine wpAny_truthy_bool ?_
  rw [hb] at nb2 ⊢
  simp only [lift_some, Out.ok_bind] at nb2 ⊢
  have I3 := I2.toks t
  have x3 : Evo a.fr c σ s cc₂ σ₂ { s₂ with toks := t } := (x1.trans x2).trans (EvoO.refl t)
  cases b with
  | false =>
    rw [if_neg Bool.false_ne_true]
    exact ⟨_, σ₂, cc₂, rfl, I3, x3, by simp [VRep]⟩
  | true =>
    rw [if_pos rfl] at nb2 ⊢
    unfold tChain at nb2 ⊢
    refine chain_last (hr₂.then ok I3 nb2 (fun e' s' p => (p.trans x3).bind) fun u' u σ₄ cc₄ s₄ e4 eb4 nb4 I4 x4 r4 => ?_)
    rw [eb4]
    obtain ⟨b, hb⟩ := lift_ne_bad (bind_ok_ne nb4)
    have r2' : VRep X cc₂ ({ s₂ with toks := t } : Shared).heap w' w := r2
    refine wpAny_mono (h₂ a.A a.fr cc₄ σ₄ s₄ w' u' w u b ok.room.p I4.r (r2'.evo x4 I3.r.rel I3.r.fro (fun _ _ => id)) r4 hb) (fun v3 s3 p3 => ?_) fun _ _ f => f.elim
    obtain ⟨rfl, t, rfl⟩ := p3
    rw [hb]
    simp only [lift_some, Out.ok_bind]
    refine ⟨.bool b, σ₄, cc₄, ?_, I4.toks t, (x3.trans x4).trans (EvoO.refl t), by simp [VRep]⟩
    cases b <;> rfl
theorem gE_chain2 {l r₁ r₂ : Expr} {op₁ op₂ : CmpOp} {pos : Pos} {cl c₁ c₂ : E} (h₁ : CmpPrim X op₁) (h₂ : CmpPrim X op₂) (hl : SoundE X D l cl) (hr₁ : SoundE X D r₁ c₁) (hr₂ : SoundE X D r₂ c₂) (hm : lastMarks [op₁, op₂] [r₁, r₂] = false := by with_unfolding_all rfl) : SoundE X D (.Compare l [op₁, op₂] [r₁, r₂] pos) (ofT (tCmps cl [(op₁, c₁), (op₂, c₂)])) := sE_chain2 h₁ h₂ hm hl hr₁ hr₂

/-! a list that is changed no more -/
theorem RInv.frozen {fr : List Addr} {c : Cfg} {σ : St} {s : Shared} {l : Nat} {a : Addr} {vs : List V} (I : RInv X fr c σ s) (m : c.mu[l]? = some a) (e : σ[l]? = some (.list vs)) : RInv X fr (c.freeze a) (σ.set l .dead) s ∧ Evo fr c σ s (c.freeze a) (σ.set l .dead) s := by
  obtain ⟨n1, n2, items, n, g, r, hl⟩ := I.rel.obj l _ a e rfl m
  have la : live c σ a := live_of m e rfl
  have hlive : ∀ b, live (c.freeze a) (σ.set l .dead) b → live c σ b := by
    rintro b ⟨j, ob, mj, ej, dj⟩
    rcases set_getD ej with ⟨rfl, rfl⟩ | ⟨ne, ej'⟩
    · cases dj
    · exact ⟨j, ob, mj, ej', dj⟩
  refine ⟨⟨⟨by rw [List.length_set]; exact I.rel.len, I.rel.nd, I.rel.there, fun j ob b ej dj mj => ?_, fun b f => ?_, I.rel.base⟩, I.fro, fun f hf => ⟨fun q => (I.frl f hf).1 (hlive f q), (I.frl f hf).2⟩⟩, ?_⟩
  · rcases set_getD ej with ⟨rfl, rfl⟩ | ⟨ne, ej'⟩
    · cases dj
    · obtain ⟨k1, k2, k3⟩ := I.rel.obj j ob b ej' dj mj
      refine ⟨?_, k2, ObjRep.mono (c := c) (c' := c.freeze a) (fun _ _ e => e) (fun _ f => Or.inl f) (fun _ _ _ e => e) (fun _ e => e) ob k3⟩
      rintro (f | rfl)
      · exact k1 f
      · exact ne ((List.getElem?_inj (List.getElem?_eq_some_iff.mp m).1 I.rel.nd).mp (m.trans (show c.mu[j]? = some b from mj).symm))
  · rcases f with f | rfl
    · exact I.rel.frz b f
    · exact ⟨_, g, frzOk_lst _ _⟩
  · exact ⟨fun _ _ e _ _ _ => e, fun _ o e _ _ _ => ⟨o.slots, e⟩, fun _ o e => ⟨o, e⟩, fun b q => .inl (hlive b q), fun _ _ e => e, fun _ f => Or.inl f, fun b f => f.elim .inl fun q => .inr (.inl (q ▸ la)), rfl, rfl⟩
theorem sS_retF {e : Expr} {pos : Pos} {ce : E} (h : SoundE X D e ce) : SoundS X D (.Return (some e) pos) (retF ce) := by
  intro a c σ ρ s ok I nb
  unfold retF at nb ⊢
  refine wpAny_Return_some (h.to ok I nb (fun _ _ p => p) fun v' v σ₁ c₁ s₁ e1 eb nb1 I1 x1 r1 => ?_)
  rw [eb]
  cases v with
  | loc l =>
    simp only at nb1 ⊢
    cases ho : σ₁[l]? with
    | none => rw [ho] at nb1; exact absurd rfl nb1
    | some o =>
      cases o with
      | list vs =>
        simp only
        obtain ⟨d, items, n, rfl, m, g, r, hl⟩ := loc_list I1.r.rel r1 ho
        obtain ⟨R, x⟩ := I1.r.frozen m ho
        refine .inr ⟨_, _, _, c₁.freeze d, rfl, rfl, ⟨ρ, I1.evo x R⟩, EvoO.weak (x1.trans x), ?_⟩
        simp only [VRep]
        exact ⟨d, items, n, rfl, .inr rfl, g, VReps.mono (c := c₁) (c' := c₁.freeze d) (fun _ _ e => e) (fun _ f => Or.inl f) (fun _ _ _ e => e) vs r, hl⟩
      | _ => rw [ho] at nb1; exact absurd rfl nb1
  | _ => exact absurd rfl nb1
/-- what is not reached -/
theorem sS_bad {st : Stmt} : SoundS X D st badS := fun a c σ ρ s ok I nb => absurd rfl nb
end

/-- the class's defs -/
noncomputable def mrecsOf (p : Program) : List DefRec := p.main.body.flatMap fun st => match st with
  | .ClassDef name _ _ body _ _ _ _ _ _ _ => if name == ("Tariff" : Str) then body.filterMap (fun st => match st with
    | .FunctionDef n a b _ _ _ sc _ _ pos => some ⟨n, a, b, sc, pos⟩
    | _ => none) else []
  | _ => []
end Mine
end

section
namespace Mine
open PySem PyProof.Rows PySem.W

noncomputable def addrOf (o : Option Value) : Addr := match o with | some (.ref a) => a | _ => 0
noncomputable def excNames : List Str := ["FareError", "BadPlace", "BadPrice", "TwiceTold", "TooMany", "BadJourney", "BadCuts", "NotHeld", "NoParting", "BadLine"]
noncomputable def mkCtx (prog : Program) (w : World) (h : Heap) (mg mb : Str → Option Value) (fns : List Str) : Mine.Ctx :=
  { prog := prog, w := w, base := h, exc := fun k => addrOf (mg (excNames.getD k "")), fn := fun i => addrOf (mg (fns.getD i "")), mg := mg, mb := mb, cls := addrOf (mg "Tariff") }

section
variable {p : Program} {loose : List Str} {mean : ExcName → Option Value} {mg mb : Str → Option Value} {h : Heap} {prog : Program} {w : World} {fns : List Str} {K : Frag}

theorem xok_of (T : Top p loose mean mg mb h) : XOk (mkCtx prog w h mg mb fns) := ⟨T.g, T.b, T.nolimit, T.builtins⟩
theorem none_of (T : Top p loose mean mg mb h) (KI : K.In h) {x : Str} (e : nsIn K mainGlobals x = some none) : (mkCtx prog w h mg mb fns).mg x = none := ns_none_of KI T.g e
theorem str_const {x : Str} {l : List Nat} (T : Top p loose mean mg mb h) (hv : valOf p x = some (.str (strOf l))) (hl : (∀ c ∈ l, c < 128) ∧ l.length ≤ LIM) : ∃ v, (mkCtx prog w h mg mb fns).mg x = some v ∧ ∀ c h', VRep (mkCtx prog w h mg mb fns) c h' v (.str l) := by
  obtain ⟨v, h1, h2⟩ := T.const x _ hv
  refine ⟨v, h1, fun c h' => ?_⟩
  have := h2 h
  cases this
  exact rep_str hl.1 hl.2
theorem int_const {x : Str} {i : Int} (T : Top p loose mean mg mb h) (hv : valOf p x = some (.int i)) : ∃ v, (mkCtx prog w h mg mb fns).mg x = some v ∧ ∀ c h', VRep (mkCtx prog w h mg mb fns) c h' v (.int i) := by
  obtain ⟨v, h1, h2⟩ := T.const x _ hv
  refine ⟨v, h1, fun c h' => ?_⟩
  have := h2 h
  cases this
  exact rep_int
theorem fn_of (T : Top p loose mean mg mb h) {d : DefRec} {i pars : Nat} {names : List Str} (hd : d ∈ recsOf p) (hi : fns.getD i "" = d.name) (hk : d.scope.kind = .function) (hg : d.scope.isGenerator = false) (hc : d.scope.isCoroutine = false) (hnd : names.Nodup) (hle : pars ≤ names.length)
    (hks : ∀ x ∈ names.take pars, d.scope.names.lookup x = some .local ∨ d.scope.names.lookup x = some .cell) (hb : ∀ (pm code doc : Value) (vals : List Value), vals.length = pars → bindArgs (Calls.docDef d.name d.params d.body d.scope pm code doc) ⟨vals, []⟩ = pure ((names.take pars).zip vals)) :
    (mkCtx prog w h mg mb fns).mg d.name = some (.ref ((mkCtx prog w h mg mb fns).fn i)) ∧ FnOk (mkCtx prog w h mg mb fns) ((mkCtx prog w h mg mb fns).fn i) d.scope names pars d.body := by
  obtain ⟨a, o, pm, code, doc, h1, h2, h3, h4⟩ := T.fn d hd
  have e : (mkCtx prog w h mg mb fns).fn i = a := by show addrOf (mg _) = a; rw [hi, h1]; rfl
  rw [e]
  exact ⟨h1, ⟨⟨o, _, h2, h3, rfl, rfl, rfl, rfl, rfl, h4, hb pm code doc⟩, hk, hg, hc, hnd, hle, hks⟩⟩

theorem cls_addr (T : Top p loose mean mg mb h) (KI : K.In h) {C : Addr} (e : nsIn K mainGlobals "Tariff" = some (some (.ref C))) : (mkCtx prog w h mg mb fns).cls = C := by
  show addrOf (mg _) = C
  rw [mg_of KI T.g e]; rfl
noncomputable def clsOk (K : Frag) (C : Addr) : Bool :=
  makesIn K C && findIn K (.ref C) "__getattribute__" == some (some (.builtin "object.__getattribute__")) && findIn K (.ref C) "__getattr__" == some none && findIn K (.ref C) "__setattr__" == some (some (.builtin "object.__setattr__")) &&
  plainOver K C && hasDictIn K C && findIn K (.ref C) "rows" == some none && findIn K (.ref C) "ways" == some none && takerIn K C "rows" == some none && takerIn K C "ways" == some none && keepIn K (.ref C)
theorem clsK_of (T : Top p loose mean mg mb h) (KI : K.In h) {C : Addr} (e : nsIn K mainGlobals "Tariff" = some (some (.ref C))) (q : clsOk K C = true) : ClsK (mkCtx prog w h mg mb fns) K := by
  unfold clsOk at q
  simp only [Bool.and_eq_true, beq_iff_eq] at q
  obtain ⟨⟨⟨⟨⟨⟨⟨⟨⟨⟨h1, h2⟩, h3⟩, h4⟩, h5⟩, h6⟩, h7⟩, h8⟩, h9⟩, h10⟩, h11⟩ := q
  have ec : (mkCtx prog w h mg mb fns).cls = C := cls_addr T KI e
  exact ⟨KI, by rw [ec]; exact mg_of KI T.g e, by rw [ec]; exact h1, by rw [ec]; exact h2, by rw [ec]; exact h3, by rw [ec]; exact h4, by rw [ec]; exact h5, by rw [ec]; exact h6, by rw [ec]; exact h7, by rw [ec]; exact h8, by rw [ec]; exact h9, by rw [ec]; exact h10, by rw [ec]; exact h11⟩
theorem meth_of (T : Top p loose mean mg mb h) (KI : K.In h) {C f : Addr} {x : Str} {o : Obj} {fd : FuncData} {body : List Stmt} {sc : Scope} {names : List Str} {pars : Nat} (e : nsIn K mainGlobals "Tariff" = some (some (.ref C))) (h1 : findIn K (.ref C) x = some (some (.ref f))) (h2 : typeIn K (.ref f) = some (.type "function"))
    (ho : K.lookup f = some o) (hf : o.data = .func fd) (hb : fd.body = .stmts body) (hs : fd.scope = sc) (hc : fd.closure = []) (hgb : fd.globals = mainGlobals ∧ fd.builtins = builtinsNs) (hcd : codeIn K fd.code fd.qualname = true)
    (hk : sc.kind = .function) (hg : sc.isGenerator = false) (hco : sc.isCoroutine = false) (hnd : names.Nodup) (hle : pars ≤ names.length)
    (hks : ∀ x ∈ names.take pars, sc.names.lookup x = some .local ∨ sc.names.lookup x = some .cell) (hba : ∀ (vals : List Value), vals.length = pars → bindArgs fd ⟨vals, []⟩ = pure ((names.take pars).zip vals)) :
    MethK (mkCtx prog w h mg mb fns) K x f ∧ FnOk (mkCtx prog w h mg mb fns) f sc names pars body := by
  have ec : (mkCtx prog w h mg mb fns).cls = C := cls_addr T KI e
  exact ⟨⟨by rw [ec]; exact h1, h2⟩, ⟨⟨o, fd, KI _ _ ho, hf, hb, hs, hc, hgb.1, hgb.2, codeRec_of KI hcd, hba⟩, hk, hg, hco, hnd, hle, hks⟩⟩

theorem len1 {vs : List Value} (h : vs.length = 1) : ∃ a, vs = [a] := List.length_eq_one_iff.mp h
theorem len2 {vs : List Value} (h : vs.length = 2) : ∃ a b, vs = [a, b] := by match vs, h with | [a, b], _ => exact ⟨a, b, rfl⟩
theorem len3 {vs : List Value} (h : vs.length = 3) : ∃ a b c, vs = [a, b, c] := by match vs, h with | [a, b, c], _ => exact ⟨a, b, c, rfl⟩
theorem len4 {vs : List Value} (h : vs.length = 4) : ∃ a b c d, vs = [a, b, c, d] := by
  obtain ⟨a, r, rfl⟩ := List.exists_cons_of_length_eq_add_one h
  obtain ⟨b, c, d, rfl⟩ := len3 (Nat.succ.inj h)
  exact ⟨a, b, c, d, rfl⟩

theorem ints_rep {X : Mine.Ctx} {c : Cfg} {h' : Heap} : ∀ {vs : List Value} {ns : List Int}, IntsAre vs ns → VReps X c h' vs (ns.map .int)
  | _, _, .nil => by simp [VReps]
  | _, _, .cons n t r => by simp only [List.map_cons, VReps]; exact ⟨_, _, rfl, rep_int, ints_rep r⟩

/-- a law's end: it answers True -/
theorem law_ends {X : Mine.Ctx} {n : Nat} {f : F} {fa a : Addr} {vs : List Value} {ns : List Int} {s : Shared} {cl : ClaimW} {cla : Str → Option Addr} {args : List WData} (hF : SoundF X n true fa f) (hn : n ≤ 20) (hbase : X.base = s.heap) (hl : s.heap.get? a = some (lstObj vs.toArray 0)) (hi : IntsAre vs ns) (hlen : ns.length ≤ 63)
    (hlaw : ∃ σ', f [.lst (ns.map .int)] [] = .ok (.bool true) σ') (hg : s.gens = #[]) (hr : ∀ c, cl.raises args c = false) (hp : cl.post args (.bool true) args = true) :
    codeAny (model X.prog X.w) callerA (.call (.ref fa) ⟨[.ref a], []⟩) (GoodWG cl cla mean args s) s := by
  obtain ⟨σ', hσ⟩ := hlaw
  let c : Cfg := ⟨[], fun b => b = a⟩
  have I : RInv X (frOf []) c [] s := ⟨⟨rfl, by simp [c], by simp [c], by simp, fun b hb => (by have hb' : b = a := hb; subst hb'; exact ⟨_, hl, frzOk_lst _ _⟩), fun b o e => by rw [← hbase]; exact e⟩, fun b hb => by simp [frOf] at hb, fun b hb => by simp [frOf] at hb⟩
  have r : VReps X c s.heap [.ref a] [.lst (ns.map .int)] := by
    simp only [VReps, VRep]
    exact ⟨_, _, rfl, ⟨a, vs.toArray, 0, rfl, rfl, hl, ints_rep hi, by simp only [List.length_map, LIM]; omega⟩, rfl⟩
  refine codeAny_mono (hF callerA [] c [] s [.ref a] [.lst (ns.map .int)] ⟨rfl, ?_, ?_⟩ ⟨rfl, by simp⟩ (fun _ => rfl) I r (by rw [hσ]; simp)) fun res s' q => ?_
  · show 1 + claimMargin + 20 * n < 900; unfold claimMargin; omega
  · show 4 + 100 * n < 9000; omega
  · rw [hσ] at q
    cases res with
    | error e => obtain ⟨k, _, _, _, q, _⟩ := q; cases q
    | ok fl =>
      cases fl with
      | ret v' =>
        obtain ⟨v, σ₁, c₁, q1, q2, q3, q4⟩ := q
        cases q1
        rw [vrep_bool q4]
        refine GoodW.toG ⟨.inl ⟨_, _, [], rfl, hr, .bool true, hp, fun _ => ⟨by simp, by simp⟩⟩, fun b o e => q2.rel.base b o (by rw [hbase]; exact e), q3.os, ?_⟩
        rw [q3.gens]; exact hg
      | next => exact q.elim
      | brk => exact q.elim
      | cont => exact q.elim
end
end Mine
end

section
namespace Mine

theorem fin_same (σ : St) (v : V) : fin σ v σ = .ok v σ := by
  unfold fin; split <;> simp
theorem fin_app {σ τ : St} {v : V} (h : v.top ≤ σ.length) : fin σ v (σ ++ τ) = .ok v σ := by
  unfold fin; rw [if_pos ⟨h, .inl (by simp)⟩]; simp
theorem fin_new {σ τ : St} {v : V} (h : σ.length < v.top) : fin σ v τ = .ok v τ := by
  unfold fin; rw [if_neg (fun q => absurd q.1 (Nat.not_le.mpr h))]

/-- a for over a list that does not change -/
noncomputable def forL (slot : Nat) (temps : List Nat) (body : S) : List V → S
  | [], ρ, σ => .next ρ σ
  | x :: xs, ρ, σ => (body (ρ.set slot (some x)) σ).then fun ρ σ => forL slot temps body xs (forget temps ρ) σ
theorem forGo_lst {slot : Nat} {temps : List Nat} {body : S} {vs : List V} : ∀ (n i : Nat) (ρ : Env) (σ : St), i ≤ vs.length → vs.length < i + n → forGo slot temps body (.lst vs) n i ρ σ = forL slot temps body (vs.drop i) ρ σ
  | 0, i, ρ, σ, h0, h => by omega
  | n + 1, i, ρ, σ, h0, h => by
    unfold forGo
    simp only [asIter]
    cases hx : vs[i]? with
    | none =>
      have : vs.length ≤ i := by simpa using hx
      rw [List.drop_eq_nil_of_le this]; rfl
    | some x =>
      obtain ⟨hlt, rfl⟩ := List.getElem?_eq_some_iff.mp hx
      rw [List.drop_eq_getElem_cons hlt]
      simp only [forL]
      congr 1
      funext ρ σ
      exact forGo_lst n (i + 1) _ _ (by omega) (by omega)
theorem forS_lst {slot : Nat} {temps : List Nat} {src : E} {body : S} {vs : List V} {ρ : Env} {σ σ' : St} (h : src ρ σ = .ok (.lst vs) σ') : forS slot temps src body ρ σ = forL slot temps body vs ρ σ' := by
  unfold forS
  rw [h]
  simp only [Out.ok_to, asIter]
  rw [forGo_lst _ _ _ _ (Nat.zero_le _) (by omega)]; simp

theorem forL_inv {slot : Nat} {temps : List Nat} {body : S} : ∀ (xs : List V) (J : Nat → Env → St → Prop) (ρ : Env) (σ : St), J 0 ρ σ → (∀ i x ρ σ, xs[i]? = some x → J i ρ σ → ∃ ρ' σ', body (ρ.set slot (some x)) σ = .next ρ' σ' ∧ J (i + 1) (forget temps ρ') σ') → ∃ ρ' σ', forL slot temps body xs ρ σ = .next ρ' σ' ∧ J xs.length ρ' σ'
  | [], J, ρ, σ, h, _ => ⟨ρ, σ, rfl, h⟩
  | x :: xs, J, ρ, σ, h, hs => by
    obtain ⟨ρ₁, σ₁, e, j⟩ := hs 0 x ρ σ rfl h
    obtain ⟨ρ₂, σ₂, e₂, j₂⟩ := forL_inv xs (fun i => J (i + 1)) (forget temps ρ₁) σ₁ j fun i y ρ σ hy hj => hs (i + 1) y ρ σ (by simpa using hy) hj
    exact ⟨ρ₂, σ₂, by simp only [forL]; rw [e]; exact e₂, by simpa using j₂⟩

/-- a comprehension whose parts leave the store as it is -/
theorem compGo_pure {ifs : T} {elt : E} {src : V} {ρ : Env} {σ : St} {vs : List V} {p : V → Bool} {f : V → V} (ha : asIter σ src = some vs) (hp : ∀ x ∈ vs, ifs (ρ ++ [some x]) σ = .ok (p x) σ) (hf : ∀ x ∈ vs, p x = true → elt (ρ ++ [some x]) σ = .ok (f x) σ) :
    ∀ (n i : Nat) (acc : List V), i ≤ vs.length → vs.length < i + n → compGo ifs elt src ρ n i acc σ = .ok (.lst (acc ++ ((vs.drop i).filter p).map f)) σ
  | 0, i, acc, h0, h => by omega
  | n + 1, i, acc, h0, h => by
    unfold compGo
    rw [ha]
    simp only
    cases hx : vs[i]? with
    | none =>
      have : vs.length ≤ i := by simpa using hx
      rw [List.drop_eq_nil_of_le this]; simp
    | some x =>
      obtain ⟨hlt, rfl⟩ := List.getElem?_eq_some_iff.mp hx
      have hm : vs[i] ∈ vs := List.getElem_mem hlt
      rw [List.drop_eq_getElem_cons hlt]
      simp only [hp _ hm, Out.ok_bind]
      cases hpx : p vs[i] with
      | false =>
        rw [if_neg Bool.false_ne_true, compGo_pure ha hp hf n (i + 1) acc (by omega) (by omega), List.filter_cons_of_neg (by rw [hpx]; exact Bool.false_ne_true)]
      | true =>
        rw [if_pos rfl, hf _ hm hpx]
        simp only [Out.ok_bind]
        rw [compGo_pure ha hp hf n (i + 1) _ (by omega) (by omega), List.filter_cons_of_pos hpx, List.map_cons, List.append_assoc]; rfl
theorem comp_pure {src : E} {ifs : T} {elt : E} {ρ : Env} {σ σ' : St} {v : V} {vs : List V} {p : V → Bool} {f : V → V} (hs : src ρ σ = .ok v σ') (ha : asIter σ' v = some vs) (hp : ∀ x ∈ vs, ifs (ρ ++ [some x]) σ' = .ok (p x) σ') (hf : ∀ x ∈ vs, p x = true → elt (ρ ++ [some x]) σ' = .ok (f x) σ') :
    comp src ifs elt ρ σ = .ok (.lst ((vs.filter p).map f)) σ' := by
  unfold comp
  rw [hs]
  simp only [Out.ok_bind, ha]
  rw [compGo_pure ha hp hf _ _ _ (Nat.zero_le _) (by omega)]; simp
theorem comp_map {src : E} {elt : E} {ρ : Env} {σ σ' : St} {v : V} {vs : List V} {f : V → V} (hs : src ρ σ = .ok v σ') (ha : asIter σ' v = some vs) (hf : ∀ x ∈ vs, elt (ρ ++ [some x]) σ' = .ok (f x) σ') :
    comp src tTrue elt ρ σ = .ok (.lst (vs.map f)) σ' := by
  rw [comp_pure (p := fun _ => true) (f := f) hs ha (fun _ _ => rfl) (fun x hx _ => hf x hx)]
  rw [List.filter_eq_self.mpr (by simp)]
theorem mapM_some {α β : Type} (f : α → Option β) (g : α → β) : ∀ xs : List α, (∀ x ∈ xs, f x = some (g x)) → xs.mapM f = some (xs.map g)
  | [], _ => rfl
  | x :: xs, h => by
    rw [List.mapM_cons, h x (by simp), mapM_some f g xs fun y hy => h y (by simp [hy])]
    rfl

@[simp] theorem seq_nil (ρ : Env) (σ : St) : seq [] ρ σ = .next ρ σ := rfl
@[simp] theorem seq_cons (s : S) (ss : List S) (ρ : Env) (σ : St) : seq (s :: ss) ρ σ = (s ρ σ).then (seq ss) := rfl
@[simp] theorem asg_eq (i : Nat) (e : E) (ρ : Env) (σ : St) : asg i e ρ σ = (e ρ σ).to ρ fun v σ => .next (ρ.set i (some v)) σ := rfl
@[simp] theorem exprS_eq (e : E) (ρ : Env) (σ : St) : exprS e ρ σ = (e ρ σ).to ρ fun _ σ => .next ρ σ := rfl
@[simp] theorem ifS_eq (t : T) (a b : S) (ρ : Env) (σ : St) : ifS t a b ρ σ = (t ρ σ).to ρ fun c σ => if c then a ρ σ else b ρ σ := rfl
@[simp] theorem retS_eq (e : E) (ρ : Env) (σ : St) : retS e ρ σ = (e ρ σ).to ρ fun v σ => .ret v σ := rfl
@[simp] theorem cst_eq (v : V) (ρ : Env) (σ : St) : cst v ρ σ = .ok v σ := rfl
@[simp] theorem un_eq (f : V → St → Out V) (a : E) (ρ : Env) (σ : St) : un f a ρ σ = (a ρ σ).bind f := rfl
@[simp] theorem bin_eq (f : V → V → St → Out V) (a b : E) (ρ : Env) (σ : St) : bin f a b ρ σ = (a ρ σ).bind fun x σ => (b ρ σ).bind fun y σ => f x y σ := rfl
@[simp] theorem tri_eq (f : V → V → V → St → Out V) (a b c : E) (ρ : Env) (σ : St) : tri f a b c ρ σ = (a ρ σ).bind fun x σ => (b ρ σ).bind fun y σ => (c ρ σ).bind fun z σ => f x y z σ := rfl
@[simp] theorem evs_nil (ρ : Env) (σ : St) : evs [] ρ σ = .ok [] σ := rfl
@[simp] theorem evs_cons (e : E) (es : List E) (ρ : Env) (σ : St) : evs (e :: es) ρ σ = (e ρ σ).bind fun v σ => (evs es ρ σ).bind fun vs σ => .ok (v :: vs) σ := rfl
@[simp] theorem app_eq (f : F) (es : List E) (ρ : Env) (σ : St) : app f es ρ σ = (evs es ρ σ).bind f := rfl
@[simp] theorem lstE_eq (es : List E) (ρ : Env) (σ : St) : lstE es ρ σ = (evs es ρ σ).bind fun vs σ => .ok (.lst vs) σ := rfl
@[simp] theorem newL_eq (es : List E) (ρ : Env) (σ : St) : newL es ρ σ = (evs es ρ σ).bind fun vs σ => .ok (.loc σ.length) (σ ++ [.list vs]) := rfl
@[simp] theorem tOf_eq (e : E) (ρ : Env) (σ : St) : tOf e ρ σ = (e ρ σ).bind fun v σ => lift (truth σ v) σ := rfl
@[simp] theorem tNot_eq (t : T) (ρ : Env) (σ : St) : tNot t ρ σ = (t ρ σ).bind fun b σ => .ok (!b) σ := rfl
@[simp] theorem tCmp_eq (op : PySem.CmpOp) (a b : E) (ρ : Env) (σ : St) : tCmp op a b ρ σ = (a ρ σ).bind fun x σ => (b ρ σ).bind fun y σ => lift (cmpV op x y σ) σ := rfl
@[simp] theorem tAnd_nil (ρ : Env) (σ : St) : tAnd [] ρ σ = .ok true σ := rfl
@[simp] theorem tAnd_cons (t : T) (ts : List T) (ρ : Env) (σ : St) : tAnd (t :: ts) ρ σ = (t ρ σ).bind fun b σ => if b then tAnd ts ρ σ else .ok false σ := rfl
@[simp] theorem tOr_nil (ρ : Env) (σ : St) : tOr [] ρ σ = .ok false σ := rfl
@[simp] theorem tOr_cons (t : T) (ts : List T) (ρ : Env) (σ : St) : tOr (t :: ts) ρ σ = (t ρ σ).bind fun b σ => if b then .ok true σ else tOr ts ρ σ := rfl
@[simp] theorem tChain_nil (x : V) (ρ : Env) (σ : St) : tChain x [] ρ σ = .ok true σ := rfl
@[simp] theorem tChain_cons (x : V) (op : PySem.CmpOp) (e : E) (r : List (PySem.CmpOp × E)) (ρ : Env) (σ : St) : tChain x ((op, e) :: r) ρ σ = (e ρ σ).bind fun y σ => (lift (cmpV op x y σ) σ).bind fun b σ => if b then tChain y r ρ σ else .ok false σ := rfl
@[simp] theorem tCmps_eq (a : E) (r : List (PySem.CmpOp × E)) (ρ : Env) (σ : St) : tCmps a r ρ σ = (a ρ σ).bind fun x σ => tChain x r ρ σ := rfl
@[simp] theorem ofT_eq (t : T) (ρ : Env) (σ : St) : ofT t ρ σ = (t ρ σ).bind fun b σ => .ok (.bool b) σ := rfl
@[simp] theorem raiseA_eq (k : Nat) (es : List E) (ρ : Env) (σ : St) : raiseA k es ρ σ = (evs es ρ σ).to ρ fun _ σ => .exc k ρ σ := rfl
@[simp] theorem var_some {ρ : Env} {i : Nat} {v : V} {σ : St} (h : ρ[i]? = some (some v)) : var i ρ σ = .ok v σ := by unfold var; rw [h]
@[simp] theorem forget_nil (ρ : Env) : forget [] ρ = ρ := rfl
@[simp] theorem binM_eq (chk : St → V → Bool) (f : V → V → St → Out V) (a b : E) (ρ : Env) (σ : St) : binM chk f a b ρ σ = (a ρ σ).bind fun x σ => if chk σ x then (b ρ σ).bind fun y σ => f x y σ else .bad := rfl

/-! stepping through a block -/
theorem seq_asg {i : Nat} {e : E} {ss : List S} {ρ : Env} {σ σ' : St} {v : V} {o : SOut} (h : e ρ σ = .ok v σ') (k : seq ss (ρ.set i (some v)) σ' = o) : seq (asg i e :: ss) ρ σ = o := by
  rw [seq_cons, asg_eq, h]; exact k
theorem seq_expr {e : E} {ss : List S} {ρ : Env} {σ σ' : St} {v : V} {o : SOut} (h : e ρ σ = .ok v σ') (k : seq ss ρ σ' = o) : seq (exprS e :: ss) ρ σ = o := by
  rw [seq_cons, exprS_eq, h]; exact k
theorem seq_skip {t : T} {a : S} {ss : List S} {ρ : Env} {σ σ' : St} {o : SOut} (h : t ρ σ = .ok false σ') (k : seq ss ρ σ' = o) : seq (ifS t a (seq []) :: ss) ρ σ = o := by
  rw [seq_cons, ifS_eq, h]; exact k
theorem seq_then {t : T} {a b : S} {ss : List S} {ρ : Env} {σ σ' : St} {o : SOut} (h : t ρ σ = .ok true σ') (k : (a ρ σ').then (seq ss) = o) : seq (ifS t a b :: ss) ρ σ = o := by
  rw [seq_cons, ifS_eq, h]; exact k
theorem seq_ret {e : E} {ss : List S} {ρ : Env} {σ σ' : St} {v : V} (h : e ρ σ = .ok v σ') : seq (retS e :: ss) ρ σ = .ret v σ' := by
  rw [seq_cons, retS_eq, h]; rfl
theorem seq_step {s : S} {ss : List S} {ρ ρ' : Env} {σ σ' : St} {o : SOut} (h : s ρ σ = .next ρ' σ') (k : seq ss ρ' σ' = o) : seq (s :: ss) ρ σ = o := by
  rw [seq_cons, h]; exact k
theorem seq_out {s : S} {ss : List S} {ρ : Env} {σ σ' : St} {v : V} (h : s ρ σ = .ret v σ') : seq (s :: ss) ρ σ = .ret v σ' := by
  rw [seq_cons, h]; rfl
theorem mkF_ret {pars slots : Nat} {body : S} {args : List V} {σ σ' : St} {v : V} (hl : args.length = pars) (h : body (args.map some ++ List.replicate (slots - pars) none) σ = .ret v σ') : mkF pars slots body args σ = fin σ v σ' := by
  unfold mkF; rw [if_pos hl, h]
@[simp] theorem appM_eq (f : F) (o : E) (es : List E) (ρ : Env) (σ : St) : appM f o es ρ σ = (o ρ σ).bind fun x σ => if isT σ x then (evs es ρ σ).bind fun vs σ => f (x :: vs) σ else .bad := rfl
@[simp] theorem bin0_eq (chk : St → V → Bool) (f : V → St → Out V) (a : E) (ρ : Env) (σ : St) : bin0 chk f a ρ σ = (a ρ σ).bind fun x σ => if chk σ x then f x σ else .bad := rfl
@[simp] theorem tupE_eq (es : List E) (ρ : Env) (σ : St) : tupE es ρ σ = (evs es ρ σ).bind fun vs σ => .ok (.tup vs) σ := rfl
@[simp] theorem andE_one (e : E) (ρ : Env) (σ : St) : andE [e] ρ σ = e ρ σ := rfl
@[simp] theorem andE_cons (e e' : E) (es : List E) (ρ : Env) (σ : St) : andE (e :: e' :: es) ρ σ = (e ρ σ).bind fun v σ => (lift (truth σ v) σ).bind fun b σ => if b then andE (e' :: es) ρ σ else .ok v σ := rfl
@[simp] theorem orE_one (e : E) (ρ : Env) (σ : St) : orE [e] ρ σ = e ρ σ := rfl
@[simp] theorem orE_cons (e e' : E) (es : List E) (ρ : Env) (σ : St) : orE (e :: e' :: es) ρ σ = (e ρ σ).bind fun v σ => (lift (truth σ v) σ).bind fun b σ => if b then .ok v σ else orE (e' :: es) ρ σ := rfl
end Mine
end

section
open PySem PySem.W PyProof.Rows
set_option maxRecDepth 100000 in
set_option maxHeartbeats 8000000 in
open_top Mine.hd for PySem.Challenge.rw_uf050001_01
end

section
set_option maxRecDepth 100000
set_option maxHeartbeats 8000000
namespace Mine
noncomputable def known : List Nat := [0, 1, 2, 3, 4]
noncomputable def C_is_place : S :=
 seq [ifS (tOr [tNot (tOf (un (isI .str) (var 0))), tNot (tCmps (cst (V.int 1)) [(.LtE, un pLen (var 0)), (.LtE, cst (V.int 12))])]) (seq [retS (cst (V.bool false))]) (seq []),
 retS (un pAll (comp (var 0) (tTrue) (ofT (tCmp .In (var 1) (cst (V.str abc))))))]
noncomputable def F_is_place : F := mkF 1 1 C_is_place
noncomputable def C_is_price : S :=
 seq [ifS (tOr [tNot (tOf (un (isI .int) (var 0))), tOf (un (isI .bool) (var 0))]) (seq [retS (cst (V.bool false))]) (seq []),
 retS (ofT (tCmps (cst (V.int 0)) [(.LtE, var 0), (.LtE, cst (V.int 1000000000000))]))]
noncomputable def F_is_price : F := mkF 1 1 C_is_price
noncomputable def C__law_cell_at : S :=
 seq [ifS (tCmp .Lt (var 1) (un pLen (var 0))) (seq [retS (bin pIdx (var 0) (var 1))]) (seq []),
 retS (cst (V.int 0))]
noncomputable def F__law_cell_at : F := mkF 2 2 C__law_cell_at
noncomputable def L__law_names_1 : S :=
 seq [asg 7 (bin pAdd (bin pDiv (var 0) (cst (V.int 3))) (bin pMulS (bin pMulS (var 6) (var 6)) (bin pMod (bin pDiv (var 0) (cst (V.int 3432))) (cst (V.int 2))))),
 asg 8 (binM isS pJoin (cst (V.str [])) (comp (un pRange1 (var 3)) (tTrue) (bin pIdx (var 2) (bin pMod (bin pAdd (var 7) (bin pMulS (cst (V.int 5)) (var 10))) (cst (V.int 26)))))),
 asg 9 (bin pIdx (var 2) (bin pMod (bin pAdd (var 0) (var 6)) (cst (V.int 26)))),
 exprS (binM isL pAppend (var 5) (bin pAdd (bin pAdd (bin pAdd (tri pSlice (var 8) (cst V.none) (var 4)) (var 9)) (tri pSlice (var 8) (var 4) (cst V.none))) (bin pMulS (cst (V.str [120])) (bin pDiv (var 6) (cst (V.int 26))))))]
noncomputable def C__law_names : S :=
 seq [asg 2 (cst (V.str abc)),
 asg 3 (bin pMod (bin pDiv (var 0) (cst (V.int 26))) (cst (V.int 11))),
 asg 4 (bin pMod (bin pDiv (var 0) (cst (V.int 286))) (bin pAdd (var 3) (cst (V.int 1)))),
 ifS (tCmp .Eq (bin pMod (bin pDiv (var 0) (cst (V.int 6864))) (cst (V.int 4))) (cst (V.int 1))) (seq [retS (comp (un pRange1 (var 1)) (tTrue) (bin pMulS (bin pIdx (var 2) (bin pMod (bin pAdd (var 0) (bin pDiv (var 10) (cst (V.int 12)))) (cst (V.int 26)))) (bin pAdd (cst (V.int 1)) (bin pMod (var 10) (cst (V.int 12))))))]) (seq []),
 asg 5 (newL []),
 forS 6 [6, 7, 8, 9] (un pRange1 (var 1)) L__law_names_1,
 retF (var 5)]
noncomputable def F__law_names : F := mkF 2 10 C__law_names
noncomputable def L__law_rows_1 : S :=
 seq [asg 6 (bin pAdd (app F__law_cell_at [var 0, bin pAdd (bin pAdd (var 1) (cst (V.int 1))) (bin pMod (var 5) (cst (V.int 20)))]) (bin pMulS (bin pMulS (cst (V.int 61)) (var 5)) (var 5))),
 asg 7 (bin pIdx (var 2) (bin pMod (var 6) (cst (V.int 9)))),
 asg 8 (bin pIdx (var 2) (bin pMod (bin pAdd (bin pAdd (bin pMod (var 6) (cst (V.int 9))) (cst (V.int 1))) (bin pMod (bin pDiv (var 6) (cst (V.int 9))) (cst (V.int 8)))) (cst (V.int 9)))),
 ifS (tCmp .NotIn (tupE [var 7, var 8]) (var 4)) (seq [exprS (tri (fun v o i σ => pPut o i v σ) (cst (V.bool true)) (var 4) (tupE [var 7, var 8])),
 exprS (binM isL pAppend (var 3) (tupE [var 7, var 8, bin pMod (bin pAdd (bin pDiv (var 6) (cst (V.int 72))) (bin pMulS (var 5) (cst (V.int 999999937)))) (cst (V.int 1000000000001))]))]) (seq [])]
noncomputable def C__law_rows : S :=
 seq [asg 3 (newL []),
 asg 4 (newD (.dictS [])),
 forS 5 [5, 6, 7, 8] (un pRange1 (bin pMod (app F__law_cell_at [var 0, var 1]) (cst (V.int 31)))) L__law_rows_1,
 retF (var 3)]
noncomputable def F__law_rows : F := mkF 3 9 C__law_rows
noncomputable def C_Tariff_price : S :=
 seq [retS (binM isD pGet1 (un (pAttr 1) (var 0)) (tupE [var 1, var 2]))]
noncomputable def F_Tariff_price : F := mkF 3 3 C_Tariff_price
noncomputable def C_Tariff_told : S :=
 seq [retS (un pListM (un (pAttr 0) (var 0)))]
noncomputable def F_Tariff_told : F := mkF 1 1 C_Tariff_told
noncomputable def L__law_good_1 : S :=
 seq [exprS (tri (fun v o i σ => pPut o i v σ) (bin pIdx (var 4) (cst (V.int 2))) (var 3) (tupE [bin pIdx (var 4) (cst (V.int 0)), bin pIdx (var 4) (cst (V.int 1))]))]
noncomputable def L__law_good_2 : S :=
 seq [asg 7 (appM F_Tariff_price (var 0) [var 5, var 6]),
 ifS (tAnd [tCmp .NotIn (tupE [var 5, var 6]) (var 3), tCmp .IsNot (var 7) (cst (V.none))]) (seq [retS (cst (V.bool false))]) (seq []),
 ifS (tCmp .In (tupE [var 5, var 6]) (var 3)) (seq [ifS (tOr [tNot (tOf (un (isI .int) (var 7))), tOf (un (isI .bool) (var 7)), tCmp .NotEq (var 7) (bin pIdx (var 3) (tupE [var 5, var 6]))]) (seq [retS (cst (V.bool false))]) (seq [])]) (seq [])]
noncomputable def L__law_good_3 : S :=
 seq [forS 6 [6, 7] (var 2) L__law_good_2]
noncomputable def L__law_good_4 : S :=
 seq [ifS (tOr [tNot (tOf (un (isI .tuple) (bin pIdx (var 7) (var 8)))), tCmp .NotEq (bin pIdx (var 7) (var 8)) (bin pIdx (var 1) (var 8))]) (seq [retS (cst (V.bool false))]) (seq [])]
noncomputable def C__law_good : S :=
 seq [asg 3 (newD (.dictS [])),
 forS 4 [4] (var 1) L__law_good_1,
 forS 5 [5, 6, 7] (var 2) L__law_good_3,
 asg 7 (appM F_Tariff_told (var 0) []),
 ifS (tOr [tNot (tOf (un (isI .list) (var 7))), tCmp .NotEq (un pLen (var 7)) (un pLen (var 1))]) (seq [retS (cst (V.bool false))]) (seq []),
 forS 8 [8] (un pRange1 (un pLen (var 1))) L__law_good_4,
 exprS (binM isL pAppend (var 7) (tupE [cst (V.str [120]), cst (V.str [121]), cst (V.int 1)])),
 retS (cst (V.bool true))]
noncomputable def F__law_good : F := mkF 3 9 C__law_good
noncomputable def C_Tariff_put : S :=
 seq [ifS (tOr [tNot (tOf (app F_is_place [var 1])), tNot (tOf (app F_is_place [var 2]))]) (seq [badS]) (seq []),
 ifS (tCmp .Eq (var 1) (var 2)) (seq [badS]) (seq []),
 ifS (tNot (tOf (app F_is_price [var 3]))) (seq [badS]) (seq []),
 ifS (tCmp .In (tupE [var 1, var 2]) (un (pAttr 1) (var 0))) (seq [badS]) (seq []),
 ifS (tCmp .GtE (un pLen (un (pAttr 0) (var 0))) (cst (V.int 160))) (seq [badS]) (seq []),
 exprS (tri (fun v o i σ => pPut o i v σ) (var 3) (un (pAttr 1) (var 0)) (tupE [var 1, var 2])),
 exprS (binM isL pAppend (un (pAttr 0) (var 0)) (tupE [var 1, var 2, var 3]))]
noncomputable def F_Tariff_put : F := mkF 4 4 C_Tariff_put
noncomputable def L_Tariff___init___1 : S :=
 seq [exprS (appM F_Tariff_put (var 0) [bin pIdx (var 2) (cst (V.int 0)), bin pIdx (var 2) (cst (V.int 1)), bin pIdx (var 2) (cst (V.int 2))])]
noncomputable def C_Tariff___init__ : S :=
 seq [exprS (bin (fun v o σ => pSetAttr 0 o v σ) (newL []) (var 0)),
 exprS (bin (fun v o σ => pSetAttr 1 o v σ) (newD (.dictS [])) (var 0)),
 forS 2 [2] (var 1) L_Tariff___init___1]
noncomputable def F_Tariff___init__ : F := mkF 2 3 C_Tariff___init__
noncomputable def C_law : S :=
 seq [asg 1 (app F__law_names [app F__law_cell_at [var 0, cst (V.int 0)], cst (V.int 9)]),
 asg 2 (app F__law_rows [var 0, cst (V.int 1), var 1]),
 asg 3 (app F__law_rows [var 0, cst (V.int 22), var 1]),
 asg 4 (lstE [un pListM (var 2), un pListM (var 3)]),
 asg 5 (app (newInst F_Tariff___init__) [bin pIdx (var 4) (cst (V.int 0))]),
 asg 6 (app (newInst F_Tariff___init__) [bin pIdx (var 4) (cst (V.int 1))]),
 asg 7 (lstE [appM F_Tariff_told (var 5) [], appM F_Tariff_told (var 6) []]),
 ifS (tOr [tNot (tOf (app F__law_good [var 5, var 2, var 1])), tNot (tOf (app F__law_good [var 6, var 3, var 1]))]) (seq [retS (cst (V.bool false))]) (seq []),
 ifS (tCmp .NotEq (var 7) (lstE [var 2, var 3])) (seq [retS (cst (V.bool false))]) (seq []),
 ifS (tOr [tCmp .NotEq (bin pIdx (var 4) (cst (V.int 0))) (var 2), tCmp .NotEq (bin pIdx (var 4) (cst (V.int 1))) (var 3)]) (seq [retS (cst (V.bool false))]) (seq []),
 exprS (bin0 isL pClear (bin pIdx (var 4) (cst (V.int 0)))),
 exprS (binM isL pAppend (bin pIdx (var 4) (cst (V.int 1))) (tupE [cst (V.str [120]), cst (V.str [121]), cst (V.int 1)])),
 retS (andE [app F__law_good [var 5, var 2, var 1], app F__law_good [var 6, var 3, var 1]])]
noncomputable def F_law : F := mkF 1 8 C_law
end Mine
end

section
set_option maxRecDepth 100000
set_option maxHeartbeats 8000000
namespace Mine
open PySem PyProof.Rows PySem.W
noncomputable def rec (i : Nat) : DefRec := (recsOf Mine.hd.view_39).getD i ⟨"", ⟨[], [], none, [], [], none, []⟩, [], ⟨.function, [], false, false, []⟩, ⟨0, 0, 0, 0⟩⟩
noncomputable def mrec (i : Nat) : DefRec := (mrecsOf Mine.hd.view_39).getD i ⟨"", ⟨[], [], none, [], [], none, []⟩, [], ⟨.function, [], false, false, []⟩, ⟨0, 0, 0, 0⟩⟩
noncomputable def N_is_place : List Str := ["thing"]
noncomputable def D_is_place : Dom := ⟨(rec 0).scope, N_is_place, 0, true⟩
noncomputable def N_is_price : List Str := ["thing"]
noncomputable def D_is_price : Dom := ⟨(rec 1).scope, N_is_price, 0, true⟩
noncomputable def N__law_cell_at : List Str := ["_law_script", "_law_k"]
noncomputable def D__law_cell_at : Dom := ⟨(rec 2).scope, N__law_cell_at, 0, true⟩
noncomputable def N__law_names : List Str := ["_law_cell", "_law_many", "_law_letters", "_law_size", "_law_place", "_law_names_here", "_law_k", "_law_turn", "_law_name", "_law_sign"]
noncomputable def D__law_names : Dom := ⟨(rec 3).scope, N__law_names, 0, true⟩
noncomputable def N__law_rows : List Str := ["_law_script", "_law_begin", "_law_names_here", "_law_rows_here", "_law_told", "_law_k", "_law_cell", "_law_here", "_law_there"]
noncomputable def D__law_rows : Dom := ⟨(rec 4).scope, N__law_rows, 1, true⟩
noncomputable def N_Tariff_price : List Str := ["self", "here", "there"]
noncomputable def D_Tariff_price : Dom := ⟨(mrec 2).scope, N_Tariff_price, 0, true⟩
noncomputable def N_Tariff_told : List Str := ["self"]
noncomputable def D_Tariff_told : Dom := ⟨(mrec 3).scope, N_Tariff_told, 0, true⟩
noncomputable def N__law_good : List Str := ["_law_tariff", "_law_rows_here", "_law_names_here", "_law_table", "_law_row", "_law_here", "_law_there", "_law_found", "_law_k"]
noncomputable def D__law_good : Dom := ⟨(rec 5).scope, N__law_good, 1, true⟩
noncomputable def N_Tariff_put : List Str := ["self", "here", "there", "price"]
noncomputable def D_Tariff_put : Dom := ⟨(mrec 1).scope, N_Tariff_put, 1, true⟩
noncomputable def N_Tariff___init__ : List Str := ["self", "rows", "row"]
noncomputable def D_Tariff___init__ : Dom := ⟨(mrec 0).scope, N_Tariff___init__, 2, true⟩
noncomputable def N_law : List Str := ["_law_script", "_law_names_here", "_law_ones", "_law_others", "_law_handed", "_law_first", "_law_second", "_law_told"]
noncomputable def D_law : Dom := ⟨(rec 6).scope, N_law, 4, true⟩
structure Law (X : Ctx) (K : Frag) : Prop where
  xo : XOk X
  n_all : X.mg "all" = none
  n_bool : X.mg "bool" = none
  n_int : X.mg "int" = none
  n_isinstance : X.mg "isinstance" = none
  n_len : X.mg "len" = none
  n_list : X.mg "list" = none
  n_range : X.mg "range" = none
  n_str : X.mg "str" = none
  n_tuple : X.mg "tuple" = none
  c_LETTERS : ∃ v, X.mg "LETTERS" = some v ∧ ∀ c h, VRep X c h v (V.str abc)
  c_LONGEST : ∃ v, X.mg "LONGEST" = some v ∧ ∀ c h, VRep X c h v (V.int 12)
  c_DEAREST : ∃ v, X.mg "DEAREST" = some v ∧ ∀ c h, VRep X c h v (V.int 1000000000000)
  c_MOST_ROWS : ∃ v, X.mg "MOST_ROWS" = some v ∧ ∀ c h, VRep X c h v (V.int 160)
  ck : ClsK X K
  f_is_place : X.mg "is_place" = some (.ref (X.fn 0)) ∧ FnOk X (X.fn 0) (rec 0).scope N_is_place 1 (rec 0).body
  f_is_price : X.mg "is_price" = some (.ref (X.fn 1)) ∧ FnOk X (X.fn 1) (rec 1).scope N_is_price 1 (rec 1).body
  f__law_cell_at : X.mg "_law_cell_at" = some (.ref (X.fn 2)) ∧ FnOk X (X.fn 2) (rec 2).scope N__law_cell_at 2 (rec 2).body
  f__law_names : X.mg "_law_names" = some (.ref (X.fn 3)) ∧ FnOk X (X.fn 3) (rec 3).scope N__law_names 2 (rec 3).body
  f__law_rows : X.mg "_law_rows" = some (.ref (X.fn 4)) ∧ FnOk X (X.fn 4) (rec 4).scope N__law_rows 3 (rec 4).body
  m_price : ∃ fa, MethK X K "price" fa ∧ FnOk X fa (mrec 2).scope N_Tariff_price 3 (mrec 2).body
  m_told : ∃ fa, MethK X K "told" fa ∧ FnOk X fa (mrec 3).scope N_Tariff_told 1 (mrec 3).body
  f__law_good : X.mg "_law_good" = some (.ref (X.fn 5)) ∧ FnOk X (X.fn 5) (rec 5).scope N__law_good 3 (rec 5).body
  m_put : ∃ fa, MethK X K "put" fa ∧ FnOk X fa (mrec 1).scope N_Tariff_put 4 (mrec 1).body
  m___init__ : ∃ fa, MethK X K "__init__" fa ∧ FnOk X fa (mrec 0).scope N_Tariff___init__ 2 (mrec 0).body
  f_law : X.mg "law" = some (.ref (X.fn 6)) ∧ FnOk X (X.fn 6) (rec 6).scope N_law 1 (rec 6).body
section
variable {X : Ctx} {K : Frag}
theorem B_is_place (h : Law X K) : SoundB X D_is_place (rec 0).body C_is_place :=
 (sB_cons (sS_if (sT_or (sT_not (gT_of (gE_isiT (T := "str") h.xo h.n_isinstance h.n_str p_isi_str gE_local))) (sT_or (sT_not (gT_chain2 c_le c_le sE_int (gE_bi1 h.xo h.n_len p_len (cal_b "len") gE_local) (gE_glob h.xo h.c_LONGEST.choose_spec))) sT_or_nil)) (sB_cons (sS_ret sE_bool)
 sB_nil) sB_nil)
 (sB_cons (sS_ret (gE_bi1H h.xo h.n_all p_all (cal_b "all") (gE_comp ["thing", "sign"] (sI_of gE_local) sTs_nil (gE_cmp c_in gE_local (gE_glob h.xo h.c_LETTERS.choose_spec)))))
 sB_nil))
theorem S_is_place (h : Law X K) : SoundF X 1 true (X.fn 0) F_is_place := soundF h.xo h.f_is_place.2 rfl (B_is_place h)
theorem B_is_price (h : Law X K) : SoundB X D_is_price (rec 1).body C_is_price :=
 (sB_cons (sS_if (sT_or (sT_not (gT_of (gE_isiT (T := "int") h.xo h.n_isinstance h.n_int p_isi_int gE_local))) (sT_or (gT_of (gE_isiT (T := "bool") h.xo h.n_isinstance h.n_bool p_isi_bool gE_local)) sT_or_nil)) (sB_cons (sS_ret sE_bool)
 sB_nil) sB_nil)
 (sB_cons (sS_ret (gE_chain2 c_le c_le sE_int gE_local (gE_glob h.xo h.c_DEAREST.choose_spec)))
 sB_nil))
theorem S_is_price (h : Law X K) : SoundF X 1 true (X.fn 1) F_is_price := soundF h.xo h.f_is_price.2 rfl (B_is_price h)
theorem B__law_cell_at (h : Law X K) : SoundB X D__law_cell_at (rec 2).body C__law_cell_at :=
 (sB_cons (sS_if (gT_cmp c_lt gE_local (gE_bi1 h.xo h.n_len p_len (cal_b "len") gE_local)) (sB_cons (sS_ret (gE_idx gE_local gE_local))
 sB_nil) sB_nil)
 (sB_cons (sS_ret sE_int)
 sB_nil))
theorem S__law_cell_at (h : Law X K) : SoundF X 1 true (X.fn 2) F__law_cell_at := soundF h.xo h.f__law_cell_at.2 rfl (B__law_cell_at h)
theorem B__law_names (h : Law X K) : SoundB X D__law_names (rec 3).body C__law_names :=
 (sB_cons (gS_asg gE_str)
 (sB_cons (gS_asg (sE_bin p_mod (sE_bin p_div gE_cell sE_int) sE_int))
 (sB_cons (gS_asg (sE_bin p_mod (sE_bin p_div gE_cell sE_int) (sE_bin p_add gE_local sE_int)))
 (sB_cons (sS_if (gT_cmp c_eq (sE_bin p_mod (sE_bin p_div gE_cell sE_int) sE_int) sE_int) (sB_cons (sS_ret (gE_comp ["_law_cell", "_law_many", "_law_letters", "_law_size", "_law_place", "_law_names_here", "", "_law_turn", "_law_name", "_law_sign", "_law_k"] (gI_range1 h.xo h.n_range gE_local) sTs_nil (sE_bin p_mul (gE_idx gE_cell (sE_bin p_mod (sE_bin p_add gE_cell (sE_bin p_div gE_local sE_int)) sE_int)) (sE_bin p_add sE_int (sE_bin p_mod gE_local sE_int)))))
 sB_nil) sB_nil)
 (sB_cons (gS_asg (gE_newL sA_nil))
 (sB_cons (gS_for (gI_range1 h.xo h.n_range gE_local) (sB_cons (gS_asg (sE_bin p_add (sE_bin p_div gE_cell sE_int) (sE_bin p_mul (sE_bin p_mul gE_local gE_local) (sE_bin p_mod (sE_bin p_div gE_cell sE_int) sE_int))))
 (sB_cons (gS_asg (gE_join gE_str (gE_comp ["_law_cell", "_law_many", "_law_letters", "_law_size", "_law_place", "_law_names_here", "_law_k", "_law_turn", "_law_name", "_law_sign", "_law_j"] (gI_range1 h.xo h.n_range gE_local) sTs_nil (gE_idx gE_cell (sE_bin p_mod (sE_bin p_add gE_cell (sE_bin p_mul sE_int gE_local)) sE_int)))))
 (sB_cons (gS_asg (gE_idx gE_cell (sE_bin p_mod (sE_bin p_add gE_cell gE_local) sE_int)))
 (sB_cons (gS_expr (gE_append gE_local (sE_bin p_add (sE_bin p_add (sE_bin p_add (sE_slice gE_local sP_none (sP_some gE_local)) gE_local) (sE_slice gE_local (sP_some gE_local) sP_none)) (sE_bin p_mul gE_str (sE_bin p_div gE_local sE_int)))))
 sB_nil)))))
 (sB_cons (sS_retF gE_local)
 sB_nil)))))))
theorem S__law_names (h : Law X K) : SoundF X 1 true (X.fn 3) F__law_names := soundF h.xo h.f__law_names.2 rfl (B__law_names h)
theorem B__law_rows (h : Law X K) : SoundB X D__law_rows (rec 4).body C__law_rows :=
 (sB_cons (gS_asg (gE_newL sA_nil))
 (sB_cons (gS_asg (sE_newDS h.xo))
 (sB_cons (gS_for (gI_range1 h.xo h.n_range (sE_bin p_mod (gE_call h.xo h.f__law_cell_at.1 h.f__law_cell_at.2.at (S__law_cell_at h) (gA_cons gE_local (gA_cons gE_local sA_nil))) sE_int)) (sB_cons (gS_asg (sE_bin p_add (gE_call h.xo h.f__law_cell_at.1 h.f__law_cell_at.2.at (S__law_cell_at h) (gA_cons gE_local (gA_cons (sE_bin p_add (sE_bin p_add gE_local sE_int) (sE_bin p_mod gE_local sE_int)) sA_nil))) (sE_bin p_mul (sE_bin p_mul sE_int gE_local) gE_local)))
 (sB_cons (gS_asg (gE_idx gE_local (sE_bin p_mod gE_local sE_int)))
 (sB_cons (gS_asg (gE_idx gE_local (sE_bin p_mod (sE_bin p_add (sE_bin p_add (sE_bin p_mod gE_local sE_int) sE_int) (sE_bin p_mod (sE_bin p_div gE_local sE_int) sE_int)) sE_int)))
 (sB_cons (sS_if (gT_cmp c_notin (gE_tup (gA_cons gE_local (gA_cons gE_local sA_nil))) gE_local) (sB_cons (gS_put sE_bool gE_local (gE_tup (gA_cons gE_local (gA_cons gE_local sA_nil))))
 (sB_cons (gS_expr (gE_append gE_local (gE_tup (gA_cons gE_local (gA_cons gE_local (gA_cons (sE_bin p_mod (sE_bin p_add (sE_bin p_div gE_local sE_int) (sE_bin p_mul gE_local sE_int)) sE_int) sA_nil))))))
 sB_nil)) sB_nil)
 sB_nil)))))
 (sB_cons (sS_retF gE_local)
 sB_nil))))
theorem S__law_rows (h : Law X K) : SoundF X 2 true (X.fn 4) F__law_rows := soundF h.xo h.f__law_rows.2 rfl (B__law_rows h)
theorem B_Tariff_price (h : Law X K) : SoundB X D_Tariff_price (mrec 2).body C_Tariff_price :=
 (sB_cons (sS_ret (gE_get1 (gE_attr h.ck gE_local) (gE_tup (gA_cons gE_local (gA_cons gE_local sA_nil)))))
 sB_nil)
theorem S_Tariff_price (h : Law X K) : SoundF X 1 true h.m_price.choose F_Tariff_price := soundF h.xo h.m_price.choose_spec.2 rfl (B_Tariff_price h)
theorem B_Tariff_told (h : Law X K) : SoundB X D_Tariff_told (mrec 3).body C_Tariff_told :=
 (sB_cons (sS_ret (gE_bi1 h.xo h.n_list p_listM (cal_t "list") (gE_attr h.ck gE_local)))
 sB_nil)
theorem S_Tariff_told (h : Law X K) : SoundF X 1 true h.m_told.choose F_Tariff_told := soundF h.xo h.m_told.choose_spec.2 rfl (B_Tariff_told h)
theorem B__law_good (h : Law X K) : SoundB X D__law_good (rec 5).body C__law_good :=
 (sB_cons (gS_asg (sE_newDS h.xo))
 (sB_cons (gS_for (sI_of gE_local) (sB_cons (gS_put (gE_idx gE_local sE_int) gE_local (gE_tup (gA_cons (gE_idx gE_local sE_int) (gA_cons (gE_idx gE_local sE_int) sA_nil))))
 sB_nil))
 (sB_cons (gS_for (sI_of gE_local) (sB_cons (gS_for (sI_of gE_local) (sB_cons (gS_asg (gE_methI h.ck h.m_price.choose_spec.1 h.m_price.choose_spec.2.at (S_Tariff_price h) gE_local (gA_cons gE_local (gA_cons gE_local sA_nil))))
 (sB_cons (sS_if (sT_and (gT_cmp c_notin (gE_tup (gA_cons gE_local (gA_cons gE_local sA_nil))) gE_local) (sT_and (gT_cmp c_isnot gE_local sE_none) sT_and_nil)) (sB_cons (sS_ret sE_bool)
 sB_nil) sB_nil)
 (sB_cons (sS_if (gT_cmp c_in (gE_tup (gA_cons gE_local (gA_cons gE_local sA_nil))) gE_local) (sB_cons (sS_if (sT_or (sT_not (gT_of (gE_isiT (T := "int") h.xo h.n_isinstance h.n_int p_isi_int gE_local))) (sT_or (gT_of (gE_isiT (T := "bool") h.xo h.n_isinstance h.n_bool p_isi_bool gE_local)) (sT_or (gT_cmp c_ne gE_local (gE_idx gE_local (gE_tup (gA_cons gE_local (gA_cons gE_local sA_nil))))) sT_or_nil))) (sB_cons (sS_ret sE_bool)
 sB_nil) sB_nil)
 sB_nil) sB_nil)
 sB_nil))))
 sB_nil))
 (sB_cons (gS_asg (gE_methI h.ck h.m_told.choose_spec.1 h.m_told.choose_spec.2.at (S_Tariff_told h) gE_local sA_nil))
 (sB_cons (sS_if (sT_or (sT_not (gT_of (gE_isiT (T := "list") h.xo h.n_isinstance h.n_list p_isi_list gE_local))) (sT_or (gT_cmp c_ne (gE_bi1 h.xo h.n_len p_len (cal_b "len") gE_local) (gE_bi1 h.xo h.n_len p_len (cal_b "len") gE_local)) sT_or_nil)) (sB_cons (sS_ret sE_bool)
 sB_nil) sB_nil)
 (sB_cons (gS_for (gI_range1 h.xo h.n_range (gE_bi1 h.xo h.n_len p_len (cal_b "len") gE_local)) (sB_cons (sS_if (sT_or (sT_not (gT_of (gE_isiT (T := "tuple") h.xo h.n_isinstance h.n_tuple p_isi_tuple (gE_idx gE_local gE_local)))) (sT_or (gT_cmp c_ne (gE_idx gE_local gE_local) (gE_idx gE_local gE_local)) sT_or_nil)) (sB_cons (sS_ret sE_bool)
 sB_nil) sB_nil)
 sB_nil))
 (sB_cons (gS_expr (gE_append gE_local (gE_tup (gA_cons gE_str (gA_cons gE_str (gA_cons sE_int sA_nil))))))
 (sB_cons (sS_ret sE_bool)
 sB_nil))))))))
theorem S__law_good (h : Law X K) : SoundF X 2 true (X.fn 5) F__law_good := soundF h.xo h.f__law_good.2 rfl (B__law_good h)
theorem B_Tariff_put (h : Law X K) : SoundB X D_Tariff_put (mrec 1).body C_Tariff_put :=
 (sB_cons (sS_if (sT_or (sT_not (gT_of (gE_call h.xo h.f_is_place.1 h.f_is_place.2.at (S_is_place h) (gA_cons gE_local sA_nil)))) (sT_or (sT_not (gT_of (gE_call h.xo h.f_is_place.1 h.f_is_place.2.at (S_is_place h) (gA_cons gE_local sA_nil)))) sT_or_nil)) (sB_cons sS_bad
 sB_nil) sB_nil)
 (sB_cons (sS_if (gT_cmp c_eq gE_local gE_local) (sB_cons sS_bad
 sB_nil) sB_nil)
 (sB_cons (sS_if (sT_not (gT_of (gE_call h.xo h.f_is_price.1 h.f_is_price.2.at (S_is_price h) (gA_cons gE_local sA_nil)))) (sB_cons sS_bad
 sB_nil) sB_nil)
 (sB_cons (sS_if (gT_cmp c_in (gE_tup (gA_cons gE_local (gA_cons gE_local sA_nil))) (gE_attr h.ck gE_local)) (sB_cons sS_bad
 sB_nil) sB_nil)
 (sB_cons (sS_if (gT_cmp c_ge (gE_bi1 h.xo h.n_len p_len (cal_b "len") (gE_attr h.ck gE_local)) (gE_glob h.xo h.c_MOST_ROWS.choose_spec)) (sB_cons sS_bad
 sB_nil) sB_nil)
 (sB_cons (gS_put gE_local (gE_attr h.ck gE_local) (gE_tup (gA_cons gE_local (gA_cons gE_local sA_nil))))
 (sB_cons (gS_expr (gE_append (gE_attr h.ck gE_local) (gE_tup (gA_cons gE_local (gA_cons gE_local (gA_cons gE_local sA_nil))))))
 sB_nil)))))))
theorem S_Tariff_put (h : Law X K) : SoundF X 2 true h.m_put.choose F_Tariff_put := soundF h.xo h.m_put.choose_spec.2 rfl (B_Tariff_put h)
theorem B_Tariff___init__ (h : Law X K) : SoundB X D_Tariff___init__ (mrec 0).body C_Tariff___init__ :=
 (sB_cons (gS_setAttr h.ck (gE_newL sA_nil) gE_local)
 (sB_cons (gS_setAttr h.ck (sE_newDS h.xo) gE_local)
 (sB_cons (gS_for (sI_of gE_local) (sB_cons (gS_expr (gE_methI h.ck h.m_put.choose_spec.1 h.m_put.choose_spec.2.at (S_Tariff_put h) gE_local (gA_cons (gE_idx gE_local sE_int) (gA_cons (gE_idx gE_local sE_int) (gA_cons (gE_idx gE_local sE_int) sA_nil)))))
 sB_nil))
 sB_nil)))
theorem S_Tariff___init__ (h : Law X K) : SoundF X 3 true h.m___init__.choose F_Tariff___init__ := soundF h.xo h.m___init__.choose_spec.2 rfl (B_Tariff___init__ h)
theorem S_Tariff (h : Law X K) : SoundF X 4 true X.cls (newInst F_Tariff___init__) := soundNew h.ck h.m___init__.choose_spec.1 (S_Tariff___init__ h)
theorem B_law (h : Law X K) : SoundB X D_law (rec 6).body C_law :=
 (sB_cons (gS_asg (gE_call h.xo h.f__law_names.1 h.f__law_names.2.at (S__law_names h) (gA_cons (gE_call h.xo h.f__law_cell_at.1 h.f__law_cell_at.2.at (S__law_cell_at h) (gA_cons gE_local (gA_cons sE_int sA_nil))) (gA_cons sE_int sA_nil))))
 (sB_cons (gS_asg (gE_call h.xo h.f__law_rows.1 h.f__law_rows.2.at (S__law_rows h) (gA_cons gE_local (gA_cons sE_int (gA_cons gE_local sA_nil)))))
 (sB_cons (gS_asg (gE_call h.xo h.f__law_rows.1 h.f__law_rows.2.at (S__law_rows h) (gA_cons gE_local (gA_cons sE_int (gA_cons gE_local sA_nil)))))
 (sB_cons (gS_asg (gE_lst (gA_cons (gE_bi1 h.xo h.n_list p_listM (cal_t "list") gE_local) (gA_cons (gE_bi1 h.xo h.n_list p_listM (cal_t "list") gE_local) sA_nil))))
 (sB_cons (gS_asg (gE_new h.xo h.ck (S_Tariff h) (gA_cons (gE_idx gE_local sE_int) sA_nil)))
 (sB_cons (gS_asg (gE_new h.xo h.ck (S_Tariff h) (gA_cons (gE_idx gE_local sE_int) sA_nil)))
 (sB_cons (gS_asg (gE_lst (gA_cons (gE_methI h.ck h.m_told.choose_spec.1 h.m_told.choose_spec.2.at (S_Tariff_told h) gE_local sA_nil) (gA_cons (gE_methI h.ck h.m_told.choose_spec.1 h.m_told.choose_spec.2.at (S_Tariff_told h) gE_local sA_nil) sA_nil))))
 (sB_cons (sS_if (sT_or (sT_not (gT_of (gE_call h.xo h.f__law_good.1 h.f__law_good.2.at (S__law_good h) (gA_cons gE_local (gA_cons gE_local (gA_cons gE_local sA_nil)))))) (sT_or (sT_not (gT_of (gE_call h.xo h.f__law_good.1 h.f__law_good.2.at (S__law_good h) (gA_cons gE_local (gA_cons gE_local (gA_cons gE_local sA_nil)))))) sT_or_nil)) (sB_cons (sS_ret sE_bool)
 sB_nil) sB_nil)
 (sB_cons (sS_if (gT_cmp c_ne gE_local (gE_lst (gA_cons gE_local (gA_cons gE_local sA_nil)))) (sB_cons (sS_ret sE_bool)
 sB_nil) sB_nil)
 (sB_cons (sS_if (sT_or (gT_cmp c_ne (gE_idx gE_local sE_int) gE_local) (sT_or (gT_cmp c_ne (gE_idx gE_local sE_int) gE_local) sT_or_nil)) (sB_cons (sS_ret sE_bool)
 sB_nil) sB_nil)
 (sB_cons (gS_expr (gE_clear (gE_idx gE_local sE_int)))
 (sB_cons (gS_expr (gE_append (gE_idx gE_local sE_int) (gE_tup (gA_cons gE_str (gA_cons gE_str (gA_cons sE_int sA_nil))))))
 (sB_cons (sS_ret (gE_and2 (gE_call h.xo h.f__law_good.1 h.f__law_good.2.at (S__law_good h) (gA_cons gE_local (gA_cons gE_local (gA_cons gE_local sA_nil)))) (gE_call h.xo h.f__law_good.1 h.f__law_good.2.at (S__law_good h) (gA_cons gE_local (gA_cons gE_local (gA_cons gE_local sA_nil))))))
 sB_nil)))))))))))))
theorem S_law (h : Law X K) : SoundF X 5 true (X.fn 6) F_law := soundF h.xo h.f_law.2 rfl (B_law h)
end
end Mine
end

section
set_option maxRecDepth 100000
set_option maxHeartbeats 8000000
namespace Mine

noncomputable def plS (s : List Nat) : Bool := decide (1 ≤ s.length) && decide (s.length ≤ 12) && s.all fun c => abc.contains c
/-- is it a place -/
noncomputable def plB : V → Bool
  | .str s => plS s
  | _ => false
/-- is it a price -/
noncomputable def prB : V → Bool
  | .int i => decide (0 ≤ i) && decide (i ≤ 1000000000000)
  | _ => false
/-- what a row holds -/
noncomputable def Thing (v : V) : Prop := v = .none ∨ (∃ b, v = .bool b) ∨ (∃ i, v = .int i) ∨ ∃ s, v = .str s

theorem fin_len {σ σ' : St} {v : V} (h : σ'.length = σ.length) : fin σ v σ' = .ok v σ' := by
  unfold fin
  rw [← h, List.take_length]
  split <;> rfl

theorem is_place_eq {v : V} (h : Thing v) (σ : St) : F_is_place [v] σ = .ok (.bool (plB v)) σ := by
  rcases h with rfl | ⟨b, rfl⟩ | ⟨i, rfl⟩ | ⟨s, rfl⟩
  · simp [F_is_place, mkF, C_is_place, var, isI, isInst, truth, fin_same, plB]
  · simp [F_is_place, mkF, C_is_place, var, isI, isInst, truth, fin_same, plB]
  · simp [F_is_place, mkF, C_is_place, var, isI, isInst, truth, fin_same, plB]
  · have hc : comp (var 0) tTrue (ofT (tCmp .In (var 1) (cst (V.str abc)))) [some (.str s)] σ = .ok (.lst ((s.map fun c => V.str [c]).map fun v => match v with | .str [c] => .bool (abc.contains c) | _ => .none)) σ := by
      refine comp_map (v := .str s) (by simp [var]) (by simp [asIter]) fun x hx => ?_
      obtain ⟨c, hc, rfl⟩ := List.mem_map.mp hx
      simp [var, cmpV, pIn]
    have ha : ((s.map fun c => V.str [c]).map fun v => match v with | .str [c] => V.bool (abc.contains c) | _ => .none) = s.map fun c => V.bool (abc.contains c) := by simp
    rw [ha] at hc
    have hm : (s.map fun c => V.bool (abc.contains c)).mapM asBool = some (s.map fun c => abc.contains c) := by
      rw [mapM_some asBool (fun v => match v with | .bool b => b | _ => false) _ (fun x hx => by obtain ⟨c, _, rfl⟩ := List.mem_map.mp hx; rfl)]
      simp
    unfold F_is_place mkF C_is_place
    simp only [List.length_singleton, if_true, List.map_cons, List.map_nil, Nat.sub_self, List.replicate_zero, List.append_nil, seq_cons, ifS_eq, tOr_cons, tNot_eq, tOf_eq, un_eq, var, isI, isInst, truth, retS_eq, seq_nil, tCmps_eq, tChain_cons, tChain_nil, cst_eq, Out.ok_bind, Out.ok_to, lift_some, pLen, cmpV, tOr_nil, List.getElem?_cons_zero]
    have hall : (seq [retS (un pAll (comp (var 0) tTrue (ofT (tCmp .In (var 1) (cst (V.str abc))))))]) [some (V.str s)] σ = .ret (.bool (s.all fun c => abc.contains c)) σ := by
      simp only [seq_cons, seq_nil, retS_eq, un_eq, hc, Out.ok_bind, pAll, hm, Out.ok_to, SOut.ret_then, List.all_map]
      rfl
    by_cases h1 : 1 ≤ s.length
    · by_cases h2 : s.length ≤ 12
      · have e1 : decide (1 ≤ (s.length : Int)) = true := by simp; omega
        have e2 : decide ((s.length : Int) ≤ 12) = true := by simp; omega
        rw [e1, e2]
        simp only [if_true, Bool.not_true, Bool.false_eq_true, if_false, Out.ok_bind, Out.ok_to, SOut.next_then]
        erw [hall]
        simp [fin_same, plB, plS, h1, h2]
      · have e1 : decide (1 ≤ (s.length : Int)) = true := by simp; omega
        have e2 : decide ((s.length : Int) ≤ 12) = false := by simp; omega
        rw [e1, e2]
        simp [fin_same, plB, plS, h2]
    · have e1 : decide (1 ≤ (s.length : Int)) = false := by simp; omega
      rw [e1]
      simp [fin_same, plB, plS, h1]

theorem is_price_eq {v : V} (h : Thing v) (σ : St) : F_is_price [v] σ = .ok (.bool (prB v)) σ := by
  rcases h with rfl | ⟨b, rfl⟩ | ⟨i, rfl⟩ | ⟨s, rfl⟩
  · simp [F_is_price, mkF, C_is_price, var, isI, isInst, truth, fin_same, prB]
  · simp [F_is_price, mkF, C_is_price, var, isI, isInst, truth, fin_same, prB]
  · by_cases h0 : 0 ≤ i <;> by_cases h1 : i ≤ 1000000000000 <;> simp [F_is_price, mkF, C_is_price, var, isI, isInst, truth, fin_same, prB, cmpV, h0, h1]
  · simp [F_is_price, mkF, C_is_price, var, isI, isInst, truth, fin_same, prB]

/-! the script -/
noncomputable def cell (ns : List Int) (k : Int) : Int := ns.getD k.toNat 0
theorem cell_at_eq (ns : List Int) {k : Int} (hk : 0 ≤ k) (σ : St) : F__law_cell_at [.lst (ns.map .int), .int k] σ = .ok (.int (cell ns k)) σ := by
  unfold F__law_cell_at mkF C__law_cell_at
  by_cases h : k < ns.length
  · have hx : pyIdx (ns.map V.int) k = some (.int (cell ns k)) := by
      unfold pyIdx cell
      rw [if_pos hk, List.getElem?_map]
      have : k.toNat < ns.length := by omega
      simp [List.getD, this]
    simp [var, pLen, cmpV, h, pIdx, idxL, hx, fin_same]
  · have : cell ns k = 0 := by
      unfold cell
      have : ns.length ≤ k.toNat := by omega
      simp [List.getD, this]
    simp [var, pLen, cmpV, h, fin_same, this]

/-! a tariff -/
abbrev Row := List Nat × List Nat × Int
noncomputable def rowV (r : Row) : V := .tup [.str r.1, .str r.2.1, .int r.2.2]
noncomputable def rowK (r : Row) : List (List Nat) × V := ([r.1, r.2.1], .int r.2.2)
structure TarAt (σ : St) (l d r w : Nat) (rows : List Row) : Prop where
  ins : σ[l]? = some (.inst d)
  att : σ[d]? = some (.attrs (some (.loc r)) (some (.loc w)))
  rws : σ[r]? = some (.list (rows.map rowV))
  wys : σ[w]? = some (.dictS (rows.map rowK))
theorem TarAt.isT {σ : St} {l d r w : Nat} {rows : List Row} (T : TarAt σ l d r w rows) : isT σ (.loc l) = true := by simp [Mine.isT, T.ins, T.att]
theorem TarAt.app {σ : St} {l d r w : Nat} {rows : List Row} (T : TarAt σ l d r w rows) (τ : St) : TarAt (σ ++ τ) l d r w rows := by
  have h : ∀ {i : Nat} {o : PObj}, σ[i]? = some o → (σ ++ τ)[i]? = some o := fun {i o} e => by
    rw [List.getElem?_append_left (List.getElem?_eq_some_iff.mp e).1]; exact e
  exact ⟨h T.ins, h T.att, h T.rws, h T.wys⟩
theorem TarAt.set {σ : St} {l d r w : Nat} {rows : List Row} (T : TarAt σ l d r w rows) {i : Nat} (o : PObj) (h : i ≠ l ∧ i ≠ d ∧ i ≠ r ∧ i ≠ w) : TarAt (σ.set i o) l d r w rows :=
  ⟨by rw [List.getElem?_set_ne h.1]; exact T.ins, by rw [List.getElem?_set_ne h.2.1]; exact T.att, by rw [List.getElem?_set_ne h.2.2.1]; exact T.rws, by rw [List.getElem?_set_ne h.2.2.2]; exact T.wys⟩
theorem attr0 {σ : St} {l d r w : Nat} {rows : List Row} (T : TarAt σ l d r w rows) : pAttr 0 (.loc l) σ = .ok (.loc r) σ := by simp [pAttr, T.ins, T.att]
theorem attr1 {σ : St} {l d r w : Nat} {rows : List Row} (T : TarAt σ l d r w rows) : pAttr 1 (.loc l) σ = .ok (.loc w) σ := by simp [pAttr, T.ins, T.att]

theorem strs2 (a b : List Nat) : asStrs (.tup [.str a, .str b]) = some [a, b] := by simp [asStrs]
noncomputable def keyOf (r : Row) : List (List Nat) := [r.1, r.2.1]
theorem lookup_none {k : List (List Nat)} : ∀ {rows : List Row}, (rows.map rowK).lookup k = none ↔ k ∉ rows.map keyOf
  | [] => by simp
  | r :: rows => by
    have e : (r :: rows).map rowK = (keyOf r, V.int r.2.2) :: rows.map rowK := rfl
    rw [e, List.lookup_cons]
    by_cases h : k = keyOf r
    · subst h; simp
    · have hb : (k == keyOf r) = false := beq_eq_false_iff_ne.mpr h
      rw [hb]
      simp only [List.map_cons, List.mem_cons, h, false_or]
      exact lookup_none
theorem lookup_isSome {k : List (List Nat)} {rows : List Row} : ((rows.map rowK).lookup k).isSome = decide (k ∈ rows.map keyOf) := by
  cases h : (rows.map rowK).lookup k with
  | none => rw [decide_eq_false (lookup_none.mp h)]; rfl
  | some v =>
    by_cases q : k ∈ rows.map keyOf
    · rw [decide_eq_true q]; rfl
    · rw [lookup_none.mpr q] at h; cases h
theorem putKV_new {α β : Type} [BEq α] [LawfulBEq α] {k : α} {v : β} : ∀ {es : List (α × β)}, k ∉ es.map (·.1) → putKV k v es = es ++ [(k, v)]
  | [], _ => rfl
  | (a, b) :: r, h => by
    simp only [List.map_cons, List.mem_cons, not_or] at h
    have : (a == k) = false := beq_eq_false_iff_ne.mpr (Ne.symm h.1)
    simp only [putKV, this, Bool.false_eq_true, if_false, putKV_new h.2, List.cons_append]
theorem rowK_keys (rows : List Row) : (rows.map rowK).map (·.1) = rows.map keyOf := by simp [rowK, keyOf, List.map_map, Function.comp_def]

noncomputable def putSt (σ : St) (r w : Nat) (rows : List Row) (row : Row) : St := (σ.set w (.dictS ((rows ++ [row]).map rowK))).set r (.list ((rows ++ [row]).map rowV))
theorem TarAt.ne {σ : St} {l d r w : Nat} {rows : List Row} (T : TarAt σ l d r w rows) : l ≠ d ∧ l ≠ r ∧ l ≠ w ∧ d ≠ r ∧ d ≠ w ∧ r ≠ w := by
  refine ⟨?_, ?_, ?_, ?_, ?_, ?_⟩ <;> rintro rfl
  · have := T.ins.symm.trans T.att; cases this
  · have := T.ins.symm.trans T.rws; cases this
  · have := T.ins.symm.trans T.wys; cases this
  · have := T.att.symm.trans T.rws; cases this
  · have := T.att.symm.trans T.wys; cases this
  · have := T.rws.symm.trans T.wys; cases this
theorem putSt_len (σ : St) (r w : Nat) (rows : List Row) (row : Row) : (putSt σ r w rows row).length = σ.length := by simp [putSt]

theorem eqV_str (a b : List Nat) (σ : St) : eqV (.str a) (.str b) σ = some (a == b) := by simp [eqV, deep, veq]

/-- good rows -/
noncomputable def RowOk (r : Row) : Prop := plS r.1 = true ∧ plS r.2.1 = true ∧ r.1 ≠ r.2.1 ∧ 0 ≤ r.2.2 ∧ r.2.2 ≤ 1000000000000
theorem mkF_next {pars slots : Nat} {body : S} {args : List V} {ρ' : Env} {σ σ' : St} (hl : args.length = pars) (h : body (args.map some ++ List.replicate (slots - pars) none) σ = .next ρ' σ') : mkF pars slots body args σ = fin σ .none σ' := by
  unfold mkF; rw [if_pos hl, h]
theorem put_good {σ : St} {l d r w : Nat} {rows : List Row} (T : TarAt σ l d r w rows) {row : Row} (ho : RowOk row) (hk : keyOf row ∉ rows.map keyOf) (hl : rows.length < 160) :
    F_Tariff_put [.loc l, .str row.1, .str row.2.1, .int row.2.2] σ = .ok .none (putSt σ r w rows row) := by
  obtain ⟨h, t, p⟩ := row
  obtain ⟨o1, o2, o3, o4, o5⟩ := ho
  simp only at o1 o2 o3 o4 o5 ⊢
  have p1 := is_place_eq (v := .str h) (.inr (.inr (.inr ⟨_, rfl⟩))) σ
  have p2 := is_place_eq (v := .str t) (.inr (.inr (.inr ⟨_, rfl⟩))) σ
  have p3 := is_price_eq (v := .int p) (.inr (.inr (.inl ⟨_, rfl⟩))) σ
  simp only [plB, o1, o2] at p1 p2
  simp only [prB, decide_eq_true o4, decide_eq_true o5, Bool.and_self] at p3
  have c2 : (h == t) = false := beq_eq_false_iff_ne.mpr o3
  have hin : cmpV .In (.tup [.str h, .str t]) (.loc w) σ = some false := by
    simp only [cmpV, pIn, T.wys, strs2, Option.map_some, lookup_isSome]
    have hk' : [h, t] ∉ rows.map keyOf := hk
    rw [decide_eq_false hk']
  have hlen : pLen (.loc r) σ = .ok (.int rows.length) σ := by simp only [pLen, T.rws, List.length_map]
  have hg : cmpV .GtE (.int rows.length) (.int 160) σ = some false := by
    have : ¬ (160 : Int) ≤ rows.length := by omega
    simp only [cmpV, decide_eq_false this]
  have hlim : rows.length < LIM := by simp only [LIM]; omega
  have hn : [h, t] ∉ (rows.map rowK).map (·.1) := by rw [rowK_keys]; exact hk
  generalize hσ : σ.set w (.dictS ((rows ++ [(h, t, p)]).map rowK)) = σ₁
  have hput : pPut (.loc w) (.tup [.str h, .str t]) (.int p) σ = .ok .none σ₁ := by
    simp only [pPut, T.wys, strs2, List.length_map, hlim, if_true, putKV_new hn, ← hσ, List.map_append]
    rfl
  obtain ⟨n1, n2, n3, n4, n5, n6⟩ := T.ne
  have e1 : σ₁[l]? = some (.inst d) := by rw [← hσ, List.getElem?_set_ne n3.symm]; exact T.ins
  have e2 : σ₁[d]? = some (.attrs (some (.loc r)) (some (.loc w))) := by rw [← hσ, List.getElem?_set_ne n5.symm]; exact T.att
  have e3 : σ₁[r]? = some (.list (rows.map rowV)) := by rw [← hσ, List.getElem?_set_ne n6.symm]; exact T.rws
  have a0 : pAttr 0 (.loc l) σ₁ = .ok (.loc r) σ₁ := by simp only [pAttr, e1, e2, if_true, lift_some]
  have hisL : isL σ₁ (.loc r) = true := by simp only [isL, asList, e3, Option.isSome_some]
  have hap : pAppend (.loc r) (.tup [.str h, .str t, .int p]) σ₁ = .ok .none (putSt σ r w rows (h, t, p)) := by
    unfold putSt
    rw [hσ]
    simp only [pAppend, e3, List.length_map, hlim, if_true, List.map_append]
    rfl
  refine (mkF_next (pars := 4) (slots := 4) (ρ' := [some (.loc l), some (.str h), some (.str t), some (.int p)]) (σ' := putSt σ r w rows (h, t, p)) rfl ?_).trans (fin_len (putSt_len ..))
  unfold C_Tariff_put
  simp only [List.map_cons, List.map_nil, List.cons_append, List.nil_append, Nat.sub_self, List.replicate_zero]
  refine seq_skip (σ' := σ) (by simp only [tOr_cons, tOr_nil, tNot_eq, tOf_eq, app_eq, evs_cons, evs_nil, var, List.getElem?_cons_zero, List.getElem?_cons_succ, Out.ok_bind, p1, p2, truth, lift_some, Bool.not_true, Bool.false_eq_true, if_false]) ?_
  refine seq_skip (σ' := σ) (by simp only [tCmp_eq, var, List.getElem?_cons_zero, List.getElem?_cons_succ, Out.ok_bind, cmpV, eqV_str, c2, lift_some]) ?_
  refine seq_skip (σ' := σ) (by simp only [tNot_eq, tOf_eq, app_eq, evs_cons, evs_nil, var, List.getElem?_cons_zero, List.getElem?_cons_succ, Out.ok_bind, p3, truth, lift_some, Bool.not_true]) ?_
  refine seq_skip (σ' := σ) (by simp only [tCmp_eq, tupE_eq, evs_cons, evs_nil, un_eq, var, List.getElem?_cons_zero, List.getElem?_cons_succ, Out.ok_bind, attr1 T, hin, lift_some]) ?_
  refine seq_skip (σ' := σ) (by simp only [tCmp_eq, un_eq, var, List.getElem?_cons_zero, Out.ok_bind, attr0 T, hlen, cst_eq, hg, lift_some]) ?_
  refine seq_expr (v := .none) (σ' := σ₁) (by simp only [tri_eq, tupE_eq, evs_cons, evs_nil, un_eq, var, List.getElem?_cons_zero, List.getElem?_cons_succ, Out.ok_bind, attr1 T, hput]) ?_
  refine seq_expr (v := .none) (σ' := putSt σ r w rows (h, t, p)) (by simp only [binM_eq, tupE_eq, evs_cons, evs_nil, un_eq, var, List.getElem?_cons_zero, List.getElem?_cons_succ, Out.ok_bind, a0, hisL, if_true, hap]) ?_
  rfl

theorem price_eq {σ : St} {l d r w : Nat} {rows : List Row} (T : TarAt σ l d r w rows) (h t : List Nat) : F_Tariff_price [.loc l, .str h, .str t] σ = .ok (((rows.map rowK).lookup [h, t]).getD .none) σ := by
  have hD : isD σ (.loc w) = true := by simp [isD, T.wys]
  have hg : pGet1 (.loc w) (.tup [.str h, .str t]) σ = .ok (((rows.map rowK).lookup [h, t]).getD .none) σ := by
    simp only [pGet1, pGet, T.wys, strs2, Option.map_some, lift_some]
  unfold F_Tariff_price mkF C_Tariff_price
  simp [var, attr1 T, hD, tupE, hg, fin_same]
theorem told_eq {σ : St} {l d r w : Nat} {rows : List Row} (T : TarAt σ l d r w rows) : F_Tariff_told [.loc l] σ = .ok (.loc σ.length) (σ ++ [.list (rows.map rowV)]) := by
  have hg : pListM (.loc r) σ = .ok (.loc σ.length) (σ ++ [.list (rows.map rowV)]) := by simp [pListM, asIter, T.rws, alloc]
  unfold F_Tariff_told mkF C_Tariff_told
  simp only [List.length_cons, List.length_nil, if_true, List.map_cons, List.map_nil, List.cons_append, List.nil_append, Nat.sub_self, List.replicate_zero, seq_cons, retS_eq, un_eq, var, List.getElem?_cons_zero, Out.ok_bind, attr0 T, hg, Out.ok_to, SOut.ret_then]
  exact fin_new (by simp)
end Mine
end

section
set_option maxRecDepth 100000
set_option maxHeartbeats 8000000
namespace Mine

/-! letters -/
noncomputable def ch (x : Int) : Nat := 97 + (x % 26).toNat
theorem abc_get : ∀ i, i < 26 → abc[i]? = some (97 + i) := by decide
theorem idx_ch (x : Int) : pyIdx abc (x % 26) = some (ch x) := by
  have h0 : 0 ≤ x % 26 := Int.emod_nonneg _ (by decide)
  have h1 : x % 26 < 26 := Int.emod_lt_of_pos _ (by decide)
  unfold pyIdx ch
  rw [if_pos h0]
  exact abc_get _ (by omega)
theorem pIdx_ch (x : Int) (σ : St) : pIdx (.str abc) (.int (x % 26)) σ = .ok (.str [ch x]) σ := by simp only [pIdx, idx_ch]
theorem ch_lt (x : Int) : 97 ≤ ch x ∧ ch x < 123 := by
  have h0 : 0 ≤ x % 26 := Int.emod_nonneg _ (by decide)
  have h1 : x % 26 < 26 := Int.emod_lt_of_pos _ (by decide)
  unfold ch; omega
theorem mem_abc : ∀ c, c < 123 → 97 ≤ c → abc.contains c = true := by decide
theorem ch_abc (x : Int) : abc.contains (ch x) = true := mem_abc _ (ch_lt x).2 (ch_lt x).1
theorem ch_inj {x y : Int} (h : ch x = ch y) : x % 26 = y % 26 := by
  have h0 : 0 ≤ x % 26 := Int.emod_nonneg _ (by decide)
  have h1 : 0 ≤ y % 26 := Int.emod_nonneg _ (by decide)
  unfold ch at h; omega

theorem short_small {a : Int} (h0 : 0 ≤ a) (h1 : a < 1000000) : short a = true := by simp [short]; omega
theorem glue_nil : ∀ ss : List (List Nat), glue [] ss = ss.flatten
  | [] => rfl
  | [x] => by simp [glue]
  | x :: y :: r => by
    have ih := glue_nil (y :: r)
    simp only [glue, List.append_nil, ih, List.flatten_cons]
theorem flatten_single {α : Type} : ∀ (xs : List α), (xs.map fun x => [x]).flatten = xs
  | [] => rfl
  | x :: xs => by simp [flatten_single xs]
theorem flatten_rep (n : Nat) (x : Nat) : (List.replicate n [x]).flatten = List.replicate n x := by
  induction n with
  | zero => rfl
  | succ n ih => simp [List.replicate_succ, ih]
theorem rangeL0 (n : Nat) : rangeL 0 n = (List.range n).map fun (k : Nat) => V.int (k : Int) := by
  unfold rangeL
  have : ((n : Int) - 0).toNat = n := by omega
  rw [this]
  refine List.map_congr_left fun k _ => by simp
theorem range1 (n : Nat) (h : n ≤ 1000) (σ : St) : pRange1 (.int (n : Int)) σ = .ok (.lst ((List.range n).map fun (k : Nat) => V.int (k : Int))) σ := by
  have : ((n : Int)).natAbs ≤ 1000 := by omega
  simp only [pRange1, this, if_true, rangeL0]

/-- ''.join of letters -/
theorem join_chs (xs : List Nat) (h : xs.length ≤ 1000) (σ : St) : pJoin (.str []) (.lst (xs.map fun c => V.str [c])) σ = .ok (.str xs) σ := by
  have hm : (xs.map fun c => V.str [c]).mapM asStr = some (xs.map fun c => [c]) := by
    rw [mapM_some asStr (fun v => match v with | .str s => s | _ => []) _ (fun x hx => by obtain ⟨c, _, rfl⟩ := List.mem_map.mp hx; rfl)]
    simp
  have hc : (xs.map fun c => [c]).length ≤ 1000 ∧ ((xs.map fun c => [c]).flatten).length ≤ 100000 ∧ ([] : List Nat).length ≤ 10 := ⟨by simpa using h, by rw [flatten_single]; omega, by simp⟩
  simp only [pJoin, hm]
  rw [if_pos hc, glue_nil, flatten_single]

/-! names -/
noncomputable def nmA (c : Int) (k : Nat) : List Nat := List.replicate (1 + k % 12) (ch (c + (k : Int) / 12))
noncomputable def szN (c : Int) : Nat := (c / 26 % 11).toNat
noncomputable def pcN (c : Int) : Nat := (c / 286 % ((c / 26 % 11) + 1)).toNat
noncomputable def bdN (c : Int) (k : Nat) : List Nat := (List.range (szN c)).map fun (j : Nat) => ch (c / 3 + (k : Int) * k * (c / 3432 % 2) + 5 * (j : Int))
noncomputable def nmB (c : Int) (k : Nat) : List Nat := (bdN c k).take (pcN c) ++ [ch (c + k)] ++ (bdN c k).drop (pcN c) ++ List.replicate (k / 26) 120
noncomputable def nameOf (c : Int) (k : Nat) : List Nat := if c / 6864 % 4 = 1 then nmA c k else nmB c k
noncomputable def namesOf (c : Int) (many : Nat) : List (List Nat) := (List.range many).map (nameOf c)
theorem szN_le (c : Int) : szN c ≤ 10 ∧ (szN c : Int) = c / 26 % 11 := by
  have h0 : 0 ≤ c / 26 % 11 := Int.emod_nonneg _ (by decide)
  have h1 : c / 26 % 11 < 11 := Int.emod_lt_of_pos _ (by decide)
  unfold szN; omega
theorem pcN_le (c : Int) : pcN c ≤ szN c ∧ (pcN c : Int) = c / 286 % ((c / 26 % 11) + 1) := by
  have h0 : 0 ≤ c / 26 % 11 := Int.emod_nonneg _ (by decide)
  have h1 : 0 ≤ c / 286 % ((c / 26 % 11) + 1) := Int.emod_nonneg _ (by omega)
  have h2 : c / 286 % ((c / 26 % 11) + 1) < (c / 26 % 11) + 1 := Int.emod_lt_of_pos _ (by omega)
  unfold pcN szN; omega
theorem bdN_len (c : Int) (k : Nat) : (bdN c k).length = szN c := by simp [bdN]
theorem nmB_len (c : Int) (k : Nat) : (nmB c k).length = szN c + 1 + k / 26 := by
  have := (pcN_le c).1
  simp only [nmB, List.length_append, List.length_take, List.length_drop, bdN_len, List.length_singleton, List.length_replicate]; omega
theorem nmB_at (c : Int) (k : Nat) : (nmB c k)[pcN c]? = some (ch (c + k)) := by
  have h := (pcN_le c).1
  have hl : ((bdN c k).take (pcN c)).length = pcN c := by rw [List.length_take, bdN_len]; omega
  unfold nmB
  rw [List.append_assoc, List.append_assoc, List.getElem?_append_right (by omega), hl]
  simp
theorem nameOf_pl (c : Int) {k : Nat} (hk : k < 52) : plS (nameOf c k) = true := by
  unfold nameOf plS
  split
  · have h1 : 1 ≤ (nmA c k).length := by simp [nmA]
    have h2 : (nmA c k).length ≤ 12 := by simp [nmA]; omega
    rw [decide_eq_true h1, decide_eq_true h2]
    simp only [Bool.true_and, List.all_eq_true, nmA]
    intro x hx
    rw [List.eq_of_mem_replicate hx]; exact ch_abc _
  · have h := (szN_le c).1
    have h1 : 1 ≤ (nmB c k).length := by rw [nmB_len]; omega
    have h2 : (nmB c k).length ≤ 12 := by rw [nmB_len]; omega
    rw [decide_eq_true h1, decide_eq_true h2]
    simp only [Bool.true_and, List.all_eq_true]
    have hb : ∀ x ∈ bdN c k, abc.contains x = true := fun x hx => by
      unfold bdN at hx
      obtain ⟨j, _, rfl⟩ := List.mem_map.mp hx; exact ch_abc _
    intro x hx
    simp only [nmB, List.mem_append, List.mem_singleton] at hx
    rcases hx with ((hx | rfl) | hx) | hx
    · exact hb x (List.mem_of_mem_take hx)
    · exact ch_abc _
    · exact hb x (List.mem_of_mem_drop hx)
    · rw [List.eq_of_mem_replicate hx]; decide
theorem nameOf_inj (c : Int) {k j : Nat} (hk : k < 52) (hj : j < 52) (h : nameOf c k = nameOf c j) : k = j := by
  unfold nameOf at h
  split at h
  · have e1 : 1 + k % 12 = 1 + j % 12 := by have := congrArg List.length h; simpa [nmA] using this
    have e2 : ch (c + (k : Int) / 12) = ch (c + (j : Int) / 12) := by
      have := congrArg (fun l => l.head?) h
      simpa [nmA, List.head?_replicate] using this
    have := ch_inj e2
    omega
  · have e1 := congrArg List.length h
    rw [nmB_len, nmB_len] at e1
    have e2 := congrArg (fun l => l[pcN c]?) h
    simp only [nmB_at, Option.some.injEq] at e2
    have := ch_inj e2
    omega
theorem namesOf_get (c : Int) {many k : Nat} (h : k < many) : (namesOf c many)[k]? = some (nameOf c k) := by simp [namesOf, h]

theorem pySlice_take {α : Type} (xs : List α) (n : Nat) : pySlice xs none (some (n : Int)) = xs.take n := by
  unfold pySlice clampI
  have : (0 : Int) ≤ n := by omega
  simp only [this, if_true, List.drop_zero]
  have e : ((n : Int)).toNat = n := by omega
  rw [e]
  rcases Nat.le_total n xs.length with q | q
  · rw [Nat.min_eq_left q]
  · rw [Nat.min_eq_right q, List.take_of_length_le q, List.take_length]
theorem pySlice_drop {α : Type} (xs : List α) (n : Nat) : pySlice xs (some (n : Int)) none = xs.drop n := by
  unfold pySlice clampI
  have : (0 : Int) ≤ n := by omega
  simp only [this, if_true, List.take_length]
  have e : ((n : Int)).toNat = n := by omega
  rw [e]
  rcases Nat.le_total n xs.length with q | q
  · rw [Nat.min_eq_left q]
  · rw [Nat.min_eq_right q, List.drop_eq_nil_of_le q, List.drop_length]

theorem eqV_int (a b : Int) (σ : St) : eqV (.int a) (.int b) σ = some (a == b) := by simp [eqV, deep, veq]

/-- fin, the last place being dead -/
theorem retF_eq {e : E} {ρ : Env} {σ τ : St} {vs : List V} (h : e ρ τ = .ok (.loc σ.length) τ) (hτ : τ = σ ++ [.list vs]) : retF e ρ τ = .ret (.lst vs) (σ ++ [.dead]) := by
  unfold retF
  rw [h]
  subst hτ
  simp

theorem om_a (k : Nat) : 0 ≤ 1 + (k : Int) % 12 ∧ 1 + (k : Int) % 12 ≤ 1000 ∧ (1 + (k : Int) % 12).toNat = 1 + k % 12 := by omega
theorem om_b {i : Nat} (h : i < 52) : ((i : Int) / 26).toNat = i / 26 ∧ (0 : Int) ≤ (i : Int) / 26 ∧ (i : Int) / 26 ≤ 1000 ∧ (i : Int) ≤ 52 ∧ (0 : Int) ≤ i := by omega
theorem om_c {b : List Nat} {p r x : Nat} (h : b.length ≤ 10) (hr : r ≤ 10) : (b.take p).length + ([x] : List Nat).length ≤ LIM ∧ (b.take p ++ [x]).length + (b.drop p).length ≤ LIM ∧ (b.take p ++ [x] ++ b.drop p).length + (List.replicate r 120).length ≤ LIM := by
  simp only [List.length_append, List.length_take, List.length_drop, List.length_singleton, List.length_replicate, LIM]; omega
theorem names_eq (c : Int) (many : Nat) (hm : many ≤ 52) (σ : St) : F__law_names [.int c, .int (many : Int)] σ = .ok (.lst ((namesOf c many).map .str)) σ := by
  obtain ⟨hs1, hs2⟩ := szN_le c
  obtain ⟨hp1, hp2⟩ := pcN_le c
  have hsz0 : 0 < c / 26 % 11 + 1 := by rw [← hs2]; exact Int.lt_add_one_of_le (Int.natCast_nonneg _)
  have htop : V.top (.lst ((namesOf c many).map .str)) ≤ σ.length := by rw [V.top_lst, V.topL_map (fun _ => V.top_str _)]; exact Nat.zero_le _
  by_cases hb : c / 6864 % 4 = 1
  · have hb' : (c / 6864 % 4 == 1) = true := beq_iff_eq.mpr hb
    refine (mkF_ret (pars := 2) (slots := 10) (v := .lst ((namesOf c many).map .str)) (σ' := σ) rfl ?_).trans (fin_same _ _)
    unfold C__law_names
    refine seq_asg (v := .str abc) (σ' := σ) rfl (seq_asg (v := .int (c / 26 % 11)) (σ' := σ) rfl (seq_asg (v := .int (c / 286 % (c / 26 % 11 + 1))) (σ' := σ) ?_ (seq_then (σ' := σ) ?_ ?_)))
    · simp only [bin_eq, pDiv, pMod, pAdd, var, cst_eq, Out.ok_bind, List.map_cons, List.map_nil, List.cons_append, List.nil_append, List.set_cons_succ, List.set_cons_zero, List.getElem?_cons_zero, List.getElem?_cons_succ, Int.reduceLT, and_self, if_true, hsz0, Nat.reduceSub, List.replicate]
    · simp only [tCmp_eq, bin_eq, pDiv, pMod, var, cst_eq, Out.ok_bind, List.map_cons, List.map_nil, List.cons_append, List.nil_append, List.set_cons_succ, List.set_cons_zero, List.getElem?_cons_zero, Int.reduceLT, and_self, if_true, cmpV, eqV_int, hb', lift_some]
    · have hnm : namesOf c many = (List.range many).map (nmA c) := List.map_congr_left fun k _ => if_pos hb
      have hc := comp_map (src := un pRange1 (var 1)) (elt := bin pMulS (bin pIdx (var 2) (bin pMod (bin pAdd (var 0) (bin pDiv (var 10) (cst (V.int 12)))) (cst (V.int 26)))) (bin pAdd (cst (V.int 1)) (bin pMod (var 10) (cst (V.int 12))))) (ρ := [some (V.int c), some (V.int (many : Int)), some (V.str abc), some (V.int (c / 26 % 11)), some (V.int (c / 286 % (c / 26 % 11 + 1))), none, none, none, none, none]) (σ := σ) (σ' := σ) (v := .lst ((List.range many).map fun (k : Nat) => V.int (k : Int))) (vs := (List.range many).map fun (k : Nat) => V.int (k : Int))
        (f := fun v => match v with | .int k => .str (nmA c k.toNat) | _ => .none) (by simp only [un_eq, var, List.getElem?_cons_zero, List.getElem?_cons_succ, Out.ok_bind, range1 many (Nat.le_trans hm (by decide))]) rfl (fun x hx => by
          obtain ⟨k, _, rfl⟩ := List.mem_map.mp hx
          have h0 : 0 ≤ 1 + (k : Int) % 12 ∧ 1 + (k : Int) % 12 ≤ 1000 ∧ ([ch (c + (k : Int) / 12)] : List Nat).length ≤ 1000 := ⟨(om_a k).1, (om_a k).2.1, Nat.le_of_ble_eq_true rfl⟩
          have e := (om_a k).2.2
          simp only [bin_eq, var, List.cons_append, List.nil_append, List.getElem?_cons_zero, List.getElem?_cons_succ, Out.ok_bind, cst_eq, pDiv, pMod, pAdd, Int.reduceLT, and_self, if_true, pIdx_ch, pMulS, h0, flatten_rep, e, Int.toNat_natCast, nmA])
      rw [List.map_map] at hc
      rw [hnm, List.map_map]
      exact congrArg (fun o => SOut.then o _) (seq_ret hc)
  · have hb' : (c / 6864 % 4 == 1) = false := beq_eq_false_iff_ne.mpr hb
    have hnm : namesOf c many = (List.range many).map (nmB c) := List.map_congr_left fun k _ => if_neg hb
    generalize hρ : ([some (V.int c), some (V.int (many : Int)), some (V.str abc), some (V.int (c / 26 % 11)), some (V.int (c / 286 % (c / 26 % 11 + 1))), some (V.loc σ.length), none, none, none, none] : Env) = ρ
    have hfor : forS 6 [6, 7, 8, 9] (un pRange1 (var 1)) L__law_names_1 ρ (σ ++ [.list []]) = .next ρ (σ ++ [.list ((namesOf c many).map .str)]) := by
      rw [forS_lst (vs := (List.range many).map fun (k : Nat) => V.int (k : Int)) (σ' := σ ++ [.list []]) (by subst hρ; simp only [un_eq, var, List.getElem?_cons_zero, List.getElem?_cons_succ, Out.ok_bind, range1 many (Nat.le_trans hm (by decide))])]
      have hJ := forL_inv (slot := 6) (temps := [6, 7, 8, 9]) (body := L__law_names_1) ((List.range many).map fun (k : Nat) => V.int (k : Int)) (fun i ρ' σ' => ρ' = ρ ∧ σ' = σ ++ [.list (((List.range i).map (nmB c)).map .str)]) ρ (σ ++ [.list []]) ⟨rfl, rfl⟩ (by
        rintro i x ρ' σ' hx ⟨rfl, rfl⟩
        rw [List.getElem?_map, Option.map_eq_some_iff] at hx
        obtain ⟨k, hk, rfl⟩ := hx
        obtain ⟨hlt, rfl⟩ := List.getElem?_eq_some_iff.mp hk
        rw [List.length_range] at hlt
        rw [List.getElem_range]
        have hi : i < 52 := Nat.lt_of_lt_of_le hlt hm
        obtain ⟨hx26, hk0, hk1, hi1, hi0⟩ := om_b hi
        generalize hl : ((List.range i).map (nmB c)).map V.str = l
        have hlen : l.length = i := by rw [← hl]; simp
        refine ⟨(((ρ'.set 6 (some (.int (i : Int)))).set 7 (some (.int (c / 3 + (i : Int) * i * (c / 3432 % 2))))).set 8 (some (.str (bdN c i)))).set 9 (some (.str [ch (c + i)])), σ ++ [.list (l ++ [.str (nmB c i)])], ?_, by subst hρ; rfl, by rw [List.range_succ, ← hl]; simp⟩
        subst hρ
        have hkk : (i : Int) * i < 1000000 := Int.lt_of_le_of_lt (Int.mul_le_mul hi1 hi1 hi0 (by decide)) (by decide)
        have s1 : (short (i : Int) || short (i : Int)) = true := by rw [short_small hi0 (Int.lt_of_le_of_lt hi1 (by decide))]; rfl
        have s2 : (short ((i : Int) * i) || short (c / 3432 % 2)) = true := by rw [short_small (Int.mul_nonneg hi0 hi0) hkk]; rfl
        unfold L__law_names_1
        refine seq_asg (v := .int (c / 3 + (i : Int) * i * (c / 3432 % 2))) (σ' := σ ++ [.list l]) ?_ (seq_asg (v := .str (bdN c i)) (σ' := σ ++ [.list l]) ?_ (seq_asg (v := .str [ch (c + i)]) (σ' := σ ++ [.list l]) ?_ (seq_expr (v := .none) (σ' := σ ++ [.list (l ++ [.str (nmB c i)])]) ?_ rfl)))
        · simp only [bin_eq, var, cst_eq, pDiv, pMod, pAdd, pMulS, Out.ok_bind, List.set_cons_succ, List.set_cons_zero, List.getElem?_cons_zero, List.getElem?_cons_succ, Int.reduceLT, and_self, if_true, s1, s2]
        · have hcomp := comp_map (src := un pRange1 (var 3)) (elt := bin pIdx (var 2) (bin pMod (bin pAdd (var 7) (bin pMulS (cst (V.int 5)) (var 10))) (cst (V.int 26)))) (ρ := [some (V.int c), some (V.int (many : Int)), some (V.str abc), some (V.int (c / 26 % 11)), some (V.int (c / 286 % (c / 26 % 11 + 1))), some (V.loc σ.length), some (V.int (i : Int)), some (V.int (c / 3 + (i : Int) * i * (c / 3432 % 2))), none, none]) (σ := σ ++ [.list l]) (σ' := σ ++ [.list l]) (v := .lst ((List.range (szN c)).map fun (k : Nat) => V.int (k : Int))) (vs := (List.range (szN c)).map fun (k : Nat) => V.int (k : Int))
            (f := fun v => match v with | .int j => .str [ch (c / 3 + (i : Int) * i * (c / 3432 % 2) + 5 * j)] | _ => .none) (by simp only [un_eq, var, List.getElem?_cons_zero, List.getElem?_cons_succ, Out.ok_bind, ← hs2, range1 (szN c) (Nat.le_trans hs1 (by decide))]) rfl (fun x hx => by
              obtain ⟨j, _, rfl⟩ := List.mem_map.mp hx
              have s5 : (short 5 || short (j : Int)) = true := rfl
              simp only [bin_eq, var, List.cons_append, List.nil_append, List.getElem?_cons_zero, List.getElem?_cons_succ, Out.ok_bind, cst_eq, pMulS, s5, if_true, pAdd, pMod, Int.reduceLT, pIdx_ch])
          have hj := join_chs (bdN c i) (by rw [bdN_len]; exact Nat.le_trans hs1 (by decide)) (σ ++ [.list l])
          rw [List.map_map] at hcomp
          unfold bdN at hj ⊢
          rw [List.map_map] at hj
          simp only [binM_eq, cst_eq, Out.ok_bind, isS, if_true]
          exact (congrArg (fun o => Out.bind o _) hcomp).trans hj
        · simp only [bin_eq, var, cst_eq, pMod, pAdd, Out.ok_bind, List.set_cons_succ, List.set_cons_zero, List.getElem?_cons_zero, List.getElem?_cons_succ, Int.reduceLT, if_true, pIdx_ch]
        · obtain ⟨lA, lB, lC⟩ := om_c (b := bdN c i) (p := pcN c) (r := i / 26) (x := ch (c + i)) (by rw [bdN_len]; exact hs1) (Nat.le_of_lt_succ (Nat.div_lt_of_lt_mul (Nat.lt_of_lt_of_le hi (by decide))))
          have hk2 : (0 : Int) ≤ (i : Int) / 26 ∧ (i : Int) / 26 ≤ 1000 ∧ ([120] : List Nat).length ≤ 1000 := ⟨hk0, hk1, by decide⟩
          have hisL : isL (σ ++ [.list l]) (.loc σ.length) = true := by simp [isL, asList]
          have lL : l.length < LIM := by rw [hlen]; exact Nat.lt_trans hi (by decide)
          have hap : ∀ x, pAppend (.loc σ.length) x (σ ++ [.list l]) = .ok .none (σ ++ [.list (l ++ [x])]) := fun x => by simp [pAppend, lL]
          simp only [binM_eq, bin_eq, tri_eq, var, cst_eq, Out.ok_bind, List.set_cons_succ, List.set_cons_zero, List.getElem?_cons_zero, List.getElem?_cons_succ, hisL, if_true, pSlice, optInt, ← hp2, pySlice_take, pySlice_drop, pAdd, lA, lB, pDiv, Int.reduceLT, and_self, pMulS, hk2, hx26, flatten_rep, lC, hap]
          rfl)
      obtain ⟨ρ', σ', h1, h2, h3⟩ := hJ
      subst h2
      rw [h1, h3, List.length_map, List.length_range, hnm]
    refine (mkF_ret (pars := 2) (slots := 10) (v := .lst ((namesOf c many).map .str)) (σ' := σ ++ [.dead]) rfl ?_).trans (fin_app htop)
    unfold C__law_names
    refine seq_asg (v := .str abc) (σ' := σ) rfl (seq_asg (v := .int (c / 26 % 11)) (σ' := σ) rfl (seq_asg (v := .int (c / 286 % (c / 26 % 11 + 1))) (σ' := σ) ?_ (seq_skip (σ' := σ) ?_ (seq_asg (v := .loc σ.length) (σ' := σ ++ [.list []]) rfl (seq_step (ρ' := ρ) (σ' := σ ++ [.list ((namesOf c many).map .str)]) ?_ (seq_out (retF_eq ?_ rfl)))))))
    · simp only [bin_eq, pDiv, pMod, pAdd, var, cst_eq, Out.ok_bind, List.map_cons, List.map_nil, List.cons_append, List.nil_append, List.set_cons_succ, List.set_cons_zero, List.getElem?_cons_zero, List.getElem?_cons_succ, Int.reduceLT, and_self, if_true, hsz0, Nat.reduceSub, List.replicate]
    · simp only [tCmp_eq, bin_eq, pDiv, pMod, var, cst_eq, Out.ok_bind, List.map_cons, List.map_nil, List.cons_append, List.nil_append, List.set_cons_succ, List.set_cons_zero, List.getElem?_cons_zero, Int.reduceLT, and_self, if_true, cmpV, eqV_int, hb', lift_some]
    · rw [← hfor, ← hρ]; rfl
    · subst hρ; rfl
end Mine
end

section
set_option maxRecDepth 100000
set_option maxHeartbeats 8000000
namespace Mine

/-! loops -/
theorem forL_const {slot : Nat} {temps : List Nat} {body : S} {ρ : Env} {σ : St} : ∀ (xs : List V), (∀ x ∈ xs, ∃ ρ', body (ρ.set slot (some x)) σ = .next ρ' σ ∧ forget temps ρ' = ρ) → forL slot temps body xs ρ σ = .next ρ σ
  | [], _ => rfl
  | x :: xs, h => by
    obtain ⟨ρ', e, f⟩ := h x (by simp)
    simp only [forL, e, SOut.next_then, f]
    exact forL_const xs fun y hy => h y (by simp [hy])
/-- a for over what stays as it is -/
theorem forGo_inv {slot : Nat} {temps : List Nat} {body : S} {v : V} {vs : List V} (J : Nat → Env → St → Prop) (hJ : ∀ i ρ σ, J i ρ σ → asIter σ v = some vs) (step : ∀ i x ρ σ, vs[i]? = some x → J i ρ σ → ∃ ρ' σ', body (ρ.set slot (some x)) σ = .next ρ' σ' ∧ J (i + 1) (forget temps ρ') σ') :
    ∀ (n i : Nat) (ρ : Env) (σ : St), J i ρ σ → i ≤ vs.length → vs.length < i + n → ∃ ρ' σ', forGo slot temps body v n i ρ σ = .next ρ' σ' ∧ J vs.length ρ' σ'
  | 0, i, ρ, σ, _, h0, h => by omega
  | n + 1, i, ρ, σ, hj, h0, h => by
    unfold forGo
    rw [hJ i ρ σ hj]
    simp only
    cases hx : vs[i]? with
    | none =>
      have : vs.length ≤ i := by simpa using hx
      have e : i = vs.length := Nat.le_antisymm h0 this
      exact ⟨ρ, σ, rfl, e ▸ hj⟩
    | some x =>
      obtain ⟨ρ', σ', hb, hj'⟩ := step i x ρ σ hx hj
      simp only [hb, SOut.next_then]
      exact forGo_inv J hJ step n (i + 1) _ _ hj' (List.getElem?_eq_some_iff.mp hx).1 (by omega)
theorem forS_inv {slot : Nat} {temps : List Nat} {src : E} {body : S} {v : V} {vs : List V} {ρ : Env} {σ σ₀ : St} (hs : src ρ σ = .ok v σ₀) (J : Nat → Env → St → Prop) (h0 : J 0 ρ σ₀) (hJ : ∀ i ρ σ, J i ρ σ → asIter σ v = some vs) (step : ∀ i x ρ σ, vs[i]? = some x → J i ρ σ → ∃ ρ' σ', body (ρ.set slot (some x)) σ = .next ρ' σ' ∧ J (i + 1) (forget temps ρ') σ') :
    ∃ ρ' σ', forS slot temps src body ρ σ = .next ρ' σ' ∧ J vs.length ρ' σ' := by
  unfold forS
  rw [hs]
  simp only [Out.ok_to, hJ 0 ρ σ₀ h0]
  exact forGo_inv J hJ step _ _ _ _ h0 (Nat.zero_le _) (by omega)

/-! a tariff made -/
theorem fin_big {σ σ' : St} {v : V} {o : PObj} (hm : o ∈ σ'.take σ.length) (ht : σ.length < o.top) (hne : σ'.take σ.length ≠ σ) : fin σ v σ' = .ok v σ' := by
  unfold fin
  rw [if_neg]
  rintro ⟨_, h | h⟩
  · exact hne h
  · exact absurd (h o hm) (by omega)
/-- the four places of a tariff -/
noncomputable def tar4 (n : Nat) (rows : List Row) : St := [.attrs (some (.loc (n + 2))) (some (.loc (n + 3))), .inst n, .list (rows.map rowV), .dictS (rows.map rowK)]
theorem app_get (σ τ : St) {n : Nat} (hn : σ.length = n) (i : Nat) : (σ ++ τ)[n + i]? = τ[i]? := by
  rw [List.getElem?_append_right (by rw [hn]; exact Nat.le_add_right _ _), hn, Nat.add_sub_cancel_left]
theorem app_set (σ τ : St) {n : Nat} (hn : σ.length = n) (i : Nat) (o : PObj) : (σ ++ τ).set (n + i) o = σ ++ τ.set i o := by
  rw [List.set_append_right _ _ (by rw [hn]; exact Nat.le_add_right _ _), hn, Nat.add_sub_cancel_left]
theorem tar4_at (σ : St) (rows : List Row) : TarAt (σ ++ tar4 σ.length rows) (σ.length + 1) σ.length (σ.length + 2) (σ.length + 3) rows := by
  have h : ∀ i, (σ ++ tar4 σ.length rows)[σ.length + i]? = (tar4 σ.length rows)[i]? := fun i => app_get σ _ rfl i
  refine ⟨by rw [h 1]; rfl, ?_, by rw [h 2]; rfl, by rw [h 3]; rfl⟩
  have := h 0
  simp only [Nat.add_zero] at this
  rw [this]; rfl

theorem new_good {σ : St} {src : V} {rows : List Row} (hs : ∀ τ, asIter (σ ++ τ) src = some (rows.map rowV)) (ho : ∀ r ∈ rows, RowOk r) (hnd : (rows.map keyOf).Nodup) (hl : rows.length ≤ 160) :
    newInst F_Tariff___init__ [src] σ = .ok (.loc (σ.length + 1)) (σ ++ tar4 σ.length rows) := by
  generalize hn : σ.length = n
  have hl1 : (σ ++ [PObj.attrs none none, PObj.inst n]).length = n + 2 := by simp [hn]
  have hg : ∀ (τ : St) (i : Nat), (σ ++ τ)[n + i]? = τ[i]? := fun τ i => app_get σ τ hn i
  have hst : ∀ (τ : St) (i : Nat) (o : PObj), (σ ++ τ).set (n + i) o = σ ++ τ.set i o := fun τ i o => app_set σ τ hn i o
  have g0 : ∀ τ : St, (σ ++ τ)[n]? = τ[0]? := fun τ => hg τ 0
  have s0 : ∀ (τ : St) (o : PObj), (σ ++ τ).set n o = σ ++ τ.set 0 o := fun τ o => hst τ 0 o
  have a1 : pSetAttr 0 (.loc (n + 1)) (.loc (n + 2)) (σ ++ [PObj.attrs none none, PObj.inst n] ++ [.list []]) = .ok .none (σ ++ [PObj.attrs (some (.loc (n + 2))) none, PObj.inst n, .list []]) := by
    rw [List.append_assoc]
    simp only [List.cons_append, List.nil_append, pSetAttr, hg, g0, List.getElem?_cons_succ, List.getElem?_cons_zero, if_true, s0, List.set_cons_zero]
  have a2 : pSetAttr 1 (.loc (n + 1)) (.loc (n + 3)) (σ ++ [PObj.attrs (some (.loc (n + 2))) none, PObj.inst n, .list []] ++ [.dictS []]) = .ok .none (σ ++ tar4 n []) := by
    rw [List.append_assoc]
    simp only [List.cons_append, List.nil_append, pSetAttr, hg, g0, List.getElem?_cons_succ, List.getElem?_cons_zero, s0, List.set_cons_zero]
    rfl
  have hl3 : (σ ++ [PObj.attrs (some (.loc (n + 2))) none, PObj.inst n, .list []]).length = n + 3 := by simp [hn]
  have hloop := forS_inv (slot := 2) (temps := [2]) (src := var 1) (body := L_Tariff___init___1) (v := src) (vs := rows.map rowV) (ρ := [some (.loc (n + 1)), some src, none]) (σ := σ ++ tar4 n []) (σ₀ := σ ++ tar4 n []) rfl
    (fun i ρ τ => ρ = [some (.loc (n + 1)), some src, none] ∧ τ = σ ++ tar4 n (rows.take i)) ⟨rfl, by simp⟩ (by rintro i ρ τ ⟨_, rfl⟩; exact hs _) (by
      rintro i x ρ τ hx ⟨rfl, rfl⟩
      rw [List.getElem?_map, Option.map_eq_some_iff] at hx
      obtain ⟨row, hr, rfl⟩ := hx
      obtain ⟨hlt, e⟩ := List.getElem?_eq_some_iff.mp hr
      have T : TarAt (σ ++ tar4 n (rows.take i)) (n + 1) n (n + 2) (n + 3) (rows.take i) := by have := tar4_at σ (rows.take i); rwa [hn] at this
      have htake : rows.take (i + 1) = rows.take i ++ [row] := by rw [List.take_succ, hr]; rfl
      have hk : keyOf row ∉ (rows.take i).map keyOf := by
        intro q
        have h2 : ((rows.take i ++ [row]).map keyOf).Nodup := by rw [← htake, List.map_take]; exact List.Nodup.sublist (List.take_sublist _ _) hnd
        rw [List.map_append] at h2
        exact (List.nodup_append.mp h2).2.2 _ q _ (by simp) rfl
      have hp := put_good T (ho row (List.mem_of_getElem? hr)) hk (by rw [List.length_take]; omega)
      have hput : putSt (σ ++ tar4 n (rows.take i)) (n + 2) (n + 3) (rows.take i) row = σ ++ tar4 n (rows.take (i + 1)) := by
        rw [htake]; unfold putSt; rw [hst, hst]; rfl
      have i0 : ∀ σ, pIdx (rowV row) (.int 0) σ = .ok (.str row.1) σ := fun _ => rfl
      have i1 : ∀ σ, pIdx (rowV row) (.int 1) σ = .ok (.str row.2.1) σ := fun _ => rfl
      have i2 : ∀ σ, pIdx (rowV row) (.int 2) σ = .ok (.int row.2.2) σ := fun _ => rfl
      refine ⟨[some (.loc (n + 1)), some src, some (rowV row)], σ ++ tar4 n (rows.take (i + 1)), ?_, rfl, rfl⟩
      unfold L_Tariff___init___1
      refine seq_expr (v := .none) (σ' := σ ++ tar4 n (rows.take (i + 1))) ?_ rfl
      simp only [List.set_cons_succ, List.set_cons_zero, appM_eq, var, List.getElem?_cons_zero, List.getElem?_cons_succ, Out.ok_bind, T.isT, if_true, evs_cons, evs_nil, bin_eq, cst_eq, i0, i1, i2, hp, hput])
  obtain ⟨ρ', τ, h1, h2, h3⟩ := hloop
  have htk : rows.take (rows.map rowV).length = rows := by rw [List.length_map, List.take_length]
  rw [htk] at h3
  have hne : (σ ++ tar4 n rows).take (σ ++ [PObj.attrs none none, PObj.inst n]).length ≠ σ ++ [PObj.attrs none none, PObj.inst n] := fun q => by
    have := congrArg (fun l => l[n]?) q
    simp only [g0] at this
    rw [List.getElem?_take_of_lt (by rw [hl1]; omega), g0] at this
    cases this
  have hmem : PObj.attrs (some (.loc (n + 2))) (some (.loc (n + 3))) ∈ (σ ++ tar4 n rows).take (σ ++ [PObj.attrs none none, PObj.inst n]).length := by
    refine List.mem_of_getElem? (i := n) ?_
    rw [List.getElem?_take_of_lt (by rw [hl1]; omega), g0]; rfl
  have hinit : F_Tariff___init__ [.loc (n + 1), src] (σ ++ [PObj.attrs none none, PObj.inst n]) = .ok .none (σ ++ tar4 n rows) := by
    refine (mkF_next (pars := 2) (slots := 3) (ρ' := ρ') (σ' := σ ++ tar4 n rows) rfl ?_).trans (fin_big hmem (by rw [hl1]; simp [PObj.top]) hne)
    unfold C_Tariff___init__
    refine seq_expr (v := .none) (σ' := σ ++ [PObj.attrs (some (.loc (n + 2))) none, PObj.inst n, .list []]) ?_ ?_
    · simp only [bin_eq, newL_eq, evs_nil, Out.ok_bind, hl1]; exact a1
    refine seq_expr (v := .none) (σ' := σ ++ tar4 n []) ?_ ?_
    · simp only [bin_eq, newD, alloc, Out.ok_bind, hl3]; exact a2
    exact seq_step (h1.trans (by rw [h3])) rfl
  unfold newInst
  rw [hn, hinit]
  rfl
end Mine
end

section
set_option maxRecDepth 100000
set_option maxHeartbeats 8000000
namespace Mine

theorem look_isSome {k : List (List Nat)} : ∀ {es : List (List (List Nat) × V)}, (es.lookup k).isSome = decide (k ∈ es.map (·.1))
  | [] => by simp
  | (a, b) :: es => by
    rw [List.lookup_cons]
    by_cases h : k = a
    · subst h; simp
    · have hb : (k == a) = false := beq_eq_false_iff_ne.mpr h
      rw [hb]
      simp only [look_isSome, List.map_cons, List.mem_cons, h, false_or]
theorem notIn_dict {σ : St} {l : Nat} {es : List (List (List Nat) × V)} (h : σ[l]? = some (.dictS es)) (a b : List Nat) : cmpV .NotIn (.tup [.str a, .str b]) (.loc l) σ = some (!decide ([a, b] ∈ es.map (·.1))) := by
  simp only [cmpV, pIn, h, strs2, Option.map_some, look_isSome]
theorem in_dict {σ : St} {l : Nat} {es : List (List (List Nat) × V)} (h : σ[l]? = some (.dictS es)) (a b : List Nat) : cmpV .In (.tup [.str a, .str b]) (.loc l) σ = some (decide ([a, b] ∈ es.map (·.1))) := by
  simp only [cmpV, pIn, h, strs2, Option.map_some, look_isSome]
theorem pIdx_names (c : Int) {many : Nat} {i : Int} (h0 : 0 ≤ i) (h1 : i < many) (σ : St) : pIdx (.lst ((namesOf c many).map .str)) (.int i) σ = .ok (.str (nameOf c i.toNat)) σ := by
  have : pyIdx ((namesOf c many).map V.str) i = some (.str (nameOf c i.toNat)) := by
    unfold pyIdx
    rw [if_pos h0, List.getElem?_map, namesOf_get c (by omega)]; rfl
  simp only [pIdx, idxL, this, lift_some]

noncomputable def RowsOk (rows : List Row) : Prop := (rows.map keyOf).Nodup ∧ ∀ r ∈ rows, RowOk r
noncomputable def trueK (r : Row) : List (List Nat) × V := (keyOf r, .bool true)

theorem om_d {k : Nat} (h : k < 31) : (0 : Int) ≤ 61 * (k : Int) ∧ 61 * (k : Int) < 1000000 ∧ (0 : Int) ≤ k ∧ (k : Int) < 1000000 := by omega
theorem om_e {b : Int} (h : 0 ≤ b) (k : Nat) : 0 ≤ b + 1 + (k : Int) % 20 := by omega
theorem om_f (x : Int) : (x % 9).toNat ≠ ((x % 9 + 1 + x / 9 % 8) % 9).toNat ∧ (x % 9).toNat < 52 ∧ ((x % 9 + 1 + x / 9 % 8) % 9).toNat < 52 := by omega
theorem om_g {n k : Nat} (h : n ≤ k) (hk : k < 31) : n < LIM ∧ n + 1 ≤ k + 1 := by simp only [LIM]; omega
theorem rows_eq (ns : List Int) (b : Int) (hb : 0 ≤ b) (c : Int) (σ : St) : ∃ rows : List Row, F__law_rows [.lst (ns.map .int), .int b, .lst ((namesOf c 9).map .str)] σ = .ok (.lst (rows.map rowV)) σ ∧ rows.length ≤ 30 ∧ RowsOk rows := by
  have c0 := fun σ => cell_at_eq ns hb σ
  have m0 : 0 ≤ cell ns b % 31 := Int.emod_nonneg _ (by decide)
  have m1 : cell ns b % 31 < 31 := Int.emod_lt_of_pos _ (by decide)
  obtain ⟨m, hm⟩ : ∃ m : Nat, cell ns b % 31 = m := ⟨_, (Int.toNat_of_nonneg m0).symm⟩
  have hm1 : m ≤ 30 := by omega
  generalize hρ : ([some (.lst (ns.map .int)), some (.int b), some (.lst ((namesOf c 9).map .str)), some (.loc σ.length), some (.loc (σ.length + 1)), none, none, none, none] : Env) = ρ
  have hloop : ∀ body : S, (∀ k : Nat, k < m → ∀ rows : List Row, rows.length ≤ k → RowsOk rows → ∃ a b d, ∃ rows' : List Row, rows'.length ≤ k + 1 ∧ RowsOk rows' ∧ body (ρ.set 5 (some (.int (k : Int)))) (σ ++ [.list (rows.map rowV), .dictS (rows.map trueK)]) = .next ((((ρ.set 5 (some (.int (k : Int)))).set 6 a).set 7 b).set 8 d) (σ ++ [.list (rows'.map rowV), .dictS (rows'.map trueK)])) →
      ∃ rows : List Row, rows.length ≤ 30 ∧ RowsOk rows ∧ forS 5 [5, 6, 7, 8] (un pRange1 (bin pMod (app F__law_cell_at [var 0, var 1]) (cst (V.int 31)))) body ρ (σ ++ [.list [], .dictS []]) = .next ρ (σ ++ [.list (rows.map rowV), .dictS (rows.map trueK)]) := by
    intro body hbody
    have hsrc : un pRange1 (bin pMod (app F__law_cell_at [var 0, var 1]) (cst (V.int 31))) ρ (σ ++ [.list [], .dictS []]) = .ok (.lst ((List.range m).map fun (k : Nat) => V.int (k : Int))) (σ ++ [.list [], .dictS []]) := by
      subst hρ
      simp only [un_eq, bin_eq, app_eq, evs_cons, evs_nil, var, List.getElem?_cons_zero, List.getElem?_cons_succ, Out.ok_bind, c0, cst_eq, pMod, Int.reduceLT, if_true, hm, range1 m (by omega)]
    rw [forS_lst hsrc]
    have hJ := forL_inv (slot := 5) (temps := [5, 6, 7, 8]) (body := body) ((List.range m).map fun (k : Nat) => V.int (k : Int)) (fun i ρ' σ' => ρ' = ρ ∧ ∃ rows : List Row, rows.length ≤ i ∧ RowsOk rows ∧ σ' = σ ++ [.list (rows.map rowV), .dictS (rows.map trueK)]) ρ (σ ++ [.list [], .dictS []]) ⟨rfl, [], by simp, ⟨by simp, by simp⟩, rfl⟩ (by
      rintro i x ρ' σ' hx ⟨rfl, rows, hl, ho, rfl⟩
      rw [List.getElem?_map, Option.map_eq_some_iff] at hx
      obtain ⟨k, hk, rfl⟩ := hx
      obtain ⟨hlt, rfl⟩ := List.getElem?_eq_some_iff.mp hk
      simp only [List.length_range] at hlt
      simp only [List.getElem_range]
      obtain ⟨a, b, d, rows', h1, h2, h3⟩ := hbody i hlt rows hl ho
      exact ⟨_, _, h3, by subst hρ; rfl, rows', h1, h2, rfl⟩)
    obtain ⟨ρ', σ', h1, h2, rows, h3, h4, h5⟩ := hJ
    subst h2
    exact ⟨rows, Nat.le_trans h3 (by simpa using hm1), h4, by rw [h1, h5]⟩
  unfold F__law_rows mkF C__law_rows
  simp only [List.length_cons, List.length_nil, Nat.reduceAdd, if_true, List.map_cons, List.map_nil, List.cons_append, List.nil_append, Nat.reduceSub, List.replicate, seq_cons, seq_nil, asg_eq, newL_eq, evs_nil, Out.ok_bind, Out.ok_to, SOut.next_then, List.set_cons_succ, List.set_cons_zero, newD, alloc, List.length_append, List.append_assoc]
  rw [hρ]
  obtain ⟨rows, h1, h2, h3⟩ := hloop L__law_rows_1 (fun k hk rows hl ho => by
    subst hρ
    have ck := fun σ => cell_at_eq ns (k := b + 1 + (k : Int) % 20) (om_e hb k) σ
    have hk31 : k < 31 := Nat.lt_of_lt_of_le hk (Nat.le_succ_of_le hm1)
    obtain ⟨q61, r61, q1, r1⟩ := om_d hk31
    have om1 := (om_g hl hk31).1
    have s1 : (short 61 || short (k : Int)) = true := rfl
    have s2 : (short (61 * (k : Int)) || short (k : Int)) = true := by rw [short_small (a := 61 * (k : Int)) q61 r61]; rfl
    have s3 : (short (k : Int) || short 999999937) = true := by rw [short_small (a := (k : Int)) q1 r1]; rfl
    generalize hx : cell ns (b + 1 + (k : Int) % 20) + 61 * (k : Int) * k = x
    have a0 : 0 ≤ x % 9 := Int.emod_nonneg _ (by decide)
    have a1 : x % 9 < 9 := Int.emod_lt_of_pos _ (by decide)
    have d0 : 0 ≤ (x % 9 + 1 + x / 9 % 8) % 9 := Int.emod_nonneg _ (by decide)
    have d1 : (x % 9 + 1 + x / 9 % 8) % 9 < 9 := Int.emod_lt_of_pos _ (by decide)
    have p0 : 0 ≤ (x / 72 + (k : Int) * 999999937) % 1000000000001 := Int.emod_nonneg _ (by decide)
    have p1 : (x / 72 + (k : Int) * 999999937) % 1000000000001 < 1000000000001 := Int.emod_lt_of_pos _ (by decide)
    have hi1 := fun σ => pIdx_names c (many := 9) a0 a1 σ
    have hi2 := fun σ => pIdx_names c (many := 9) d0 d1 σ
    generalize hh : nameOf c (x % 9).toNat = h at hi1
    generalize ht : nameOf c ((x % 9 + 1 + x / 9 % 8) % 9).toNat = t at hi2
    have hne : h ≠ t := by
      intro q
      rw [← hh, ← ht] at q
      exact (om_f x).1 (nameOf_inj c (om_f x).2.1 (om_f x).2.2 q)
    have e1 : (σ ++ [PObj.list (rows.map rowV), PObj.dictS (rows.map trueK)])[σ.length + 1]? = some (.dictS (rows.map trueK)) := by
      rw [List.getElem?_append_right (by omega)]; simp
    have hnin := notIn_dict e1 h t
    have hkeys : (rows.map trueK).map (·.1) = rows.map keyOf := by simp [trueK, List.map_map, Function.comp_def]
    rw [hkeys] at hnin
    generalize hτ : σ ++ [PObj.list (rows.map rowV), PObj.dictS (rows.map trueK)] = τ at e1 hnin
    have pre : ∀ o, seq [ifS (tCmp .NotIn (tupE [var 7, var 8]) (var 4)) (seq [exprS (tri (fun v o i σ => pPut o i v σ) (cst (V.bool true)) (var 4) (tupE [var 7, var 8])), exprS (binM isL pAppend (var 3) (tupE [var 7, var 8, bin pMod (bin pAdd (bin pDiv (var 6) (cst (V.int 72))) (bin pMulS (var 5) (cst (V.int 999999937)))) (cst (V.int 1000000000001))]))]) (seq [])]
        [some (.lst (ns.map .int)), some (.int b), some (.lst ((namesOf c 9).map .str)), some (.loc σ.length), some (.loc (σ.length + 1)), some (.int (k : Int)), some (.int x), some (.str h), some (.str t)] τ = o → L__law_rows_1 [some (.lst (ns.map .int)), some (.int b), some (.lst ((namesOf c 9).map .str)), some (.loc σ.length), some (.loc (σ.length + 1)), some (.int (k : Int)), none, none, none] τ = o := by
      intro o ho
      refine seq_asg (v := .int x) (σ' := τ) ?_ (seq_asg (v := .str h) (σ' := τ) ?_ (seq_asg (v := .str t) (σ' := τ) ?_ ho))
      · simp only [bin_eq, app_eq, evs_cons, evs_nil, var, List.getElem?_cons_zero, List.getElem?_cons_succ, Out.ok_bind, cst_eq, pAdd, pMod, Int.reduceLT, if_true, ck, pMulS, s1, s2, hx]
      · simp only [List.set_cons_succ, List.set_cons_zero, bin_eq, var, List.getElem?_cons_zero, List.getElem?_cons_succ, Out.ok_bind, cst_eq, pMod, Int.reduceLT, if_true, hi1]
      · simp only [List.set_cons_succ, List.set_cons_zero, bin_eq, var, List.getElem?_cons_zero, List.getElem?_cons_succ, Out.ok_bind, cst_eq, pAdd, pMod, pDiv, Int.reduceLT, and_self, if_true, hi2]
    by_cases hin : [h, t] ∈ rows.map keyOf
    · refine ⟨some (.int x), some (.str h), some (.str t), rows, Nat.le_succ_of_le hl, ho, ?_⟩
      refine (pre _ (seq_skip (σ' := τ) ?_ rfl)).trans (by subst hτ; rfl)
      simp only [tCmp_eq, tupE_eq, evs_cons, evs_nil, var, List.getElem?_cons_zero, List.getElem?_cons_succ, Out.ok_bind, hnin, decide_eq_true hin, Bool.not_true, lift_some]
    · refine ⟨some (.int x), some (.str h), some (.str t), rows ++ [(h, t, (x / 72 + (k : Int) * 999999937) % 1000000000001)], by rw [List.length_append]; exact (om_g hl hk31).2, ⟨?_, ?_⟩, ?_⟩
      · rw [List.map_append, List.nodup_append]
        refine ⟨ho.1, by simp, fun a ha b hb q => ?_⟩
        simp [keyOf] at hb
        subst q; subst hb; exact hin ha
      · intro r hr
        rcases List.mem_append.mp hr with hr | hr
        · exact ho.2 r hr
        · rw [List.mem_singleton.mp hr]
          exact ⟨by rw [← hh]; exact nameOf_pl c (om_f x).2.1, by rw [← ht]; exact nameOf_pl c (om_f x).2.2, hne, p0, Int.le_of_lt_add_one p1⟩
      · have hlk : (rows.map trueK).length < LIM := by rw [List.length_map]; exact om1
        have hlv : (rows.map rowV).length < LIM := by rw [List.length_map]; exact om1
        have hput : pPut (.loc (σ.length + 1)) (.tup [.str h, .str t]) (.bool true) τ = .ok .none (σ ++ [PObj.list (rows.map rowV), PObj.dictS (rows.map trueK ++ [([h, t], .bool true)])]) := by
          simp only [pPut, e1, strs2, hlk, if_true, putKV_new (show [h, t] ∉ (rows.map trueK).map (·.1) by rw [hkeys]; exact hin)]
          rw [← hτ, List.set_append_right _ _ (Nat.le_succ _)]
          simp
        have e2 : (σ ++ [PObj.list (rows.map rowV), PObj.dictS (rows.map trueK ++ [([h, t], .bool true)])])[σ.length]? = some (.list (rows.map rowV)) := by simp
        have hap : ∀ y, pAppend (.loc σ.length) y (σ ++ [PObj.list (rows.map rowV), PObj.dictS (rows.map trueK ++ [([h, t], .bool true)])]) = .ok .none (σ ++ [PObj.list (rows.map rowV ++ [y]), PObj.dictS (rows.map trueK ++ [([h, t], .bool true)])]) := fun y => by
          simp only [pAppend, e2, hlv, if_true]
          simp
        rw [List.map_append, List.map_append]
        refine pre _ (seq_then (σ' := τ) ?_ (congrArg (fun o => SOut.then o _) (seq_expr (v := .none) (σ' := σ ++ [PObj.list (rows.map rowV), PObj.dictS (rows.map trueK ++ [([h, t], .bool true)])]) ?_ (seq_expr (v := .none) (σ' := σ ++ [PObj.list (rows.map rowV ++ [rowV (h, t, (x / 72 + (k : Int) * 999999937) % 1000000000001)]), PObj.dictS (rows.map trueK ++ [([h, t], .bool true)])]) ?_ rfl))))
        · simp only [tCmp_eq, tupE_eq, evs_cons, evs_nil, var, List.getElem?_cons_zero, List.getElem?_cons_succ, Out.ok_bind, hnin, decide_eq_false hin, Bool.not_false, lift_some]
        · simp only [tri_eq, tupE_eq, evs_cons, evs_nil, cst_eq, var, List.getElem?_cons_zero, List.getElem?_cons_succ, Out.ok_bind, hput]
        · simp only [binM_eq, tupE_eq, evs_cons, evs_nil, bin_eq, cst_eq, var, List.getElem?_cons_zero, List.getElem?_cons_succ, Out.ok_bind, isL, asList, e2, Option.isSome_some, if_true, pDiv, pMod, pAdd, pMulS, s3, Int.reduceLT, and_self, hap]
          rfl)
  refine ⟨rows, ?_, h1, h2⟩
  erw [h3]
  simp only [SOut.next_then]
  have hret : retF (var 3) ρ (σ ++ [.list (rows.map rowV), .dictS (rows.map trueK)]) = .ret (.lst (rows.map rowV)) (σ ++ [.dead, .dictS (rows.map trueK)]) := by
    subst hρ
    unfold retF
    simp [var]
  simp only [seq_cons]
  rw [hret]
  simp only [SOut.ret_then]
  exact fin_app (by simp only [V.top_lst]; rw [V.topL_map (fun r => by simp [rowV])]; exact Nat.zero_le _)

theorem look_int {k : List (List Nat)} {v : V} : ∀ {rows : List Row}, (rows.map rowK).lookup k = some v → ∃ p, v = .int p
  | [], h => by simp at h
  | r :: rows, h => by
    have e : (r :: rows).map rowK = (keyOf r, V.int r.2.2) :: rows.map rowK := rfl
    rw [e, List.lookup_cons] at h
    split at h
    · cases h; exact ⟨_, rfl⟩
    · exact look_int h

theorem deep_row (σ : St) (n : Nat) (r : Row) : deep σ (n + 2) (rowV r) = some (rowV r) := by
  simp [rowV, deep]
theorem deep_rows (σ : St) (n : Nat) (rows : List Row) : (rows.map rowV).mapM (deep σ (n + 2)) = some (rows.map rowV) := by
  rw [mapM_some (deep σ (n + 2)) id _ (fun x hx => by obtain ⟨r, _, rfl⟩ := List.mem_map.mp hx; exact deep_row σ n r)]
  simp
theorem veq_row (r : Row) : veq (rowV r) (rowV r) = some true := by simp [rowV, veq, veqL]
theorem veqL_rows : ∀ rows : List Row, veqL (rows.map rowV) (rows.map rowV) = some true
  | [] => by simp [veqL]
  | r :: rows => by simp only [List.map_cons, veqL, veq_row]; exact veqL_rows rows
theorem eqV_row (r : Row) (σ : St) : eqV (rowV r) (rowV r) σ = some true := by
  unfold eqV; rw [deep_row σ 4 r]; exact veq_row r
theorem pIdx_row (rows : List Row) {k : Nat} (h : k < rows.length) (σ : St) : pIdx (.lst (rows.map rowV)) (.int (k : Int)) σ = .ok (rowV rows[k]) σ := by
  have : pyIdx (rows.map rowV) (k : Int) = some (rowV rows[k]) := by
    unfold pyIdx
    rw [if_pos (by omega), Int.toNat_natCast, List.getElem?_map, List.getElem?_eq_getElem h]; rfl
  simp only [pIdx, idxL, this, lift_some]

theorem good_eq {σ : St} {l d r w : Nat} {rows : List Row} (T : TarAt σ l d r w rows) (hr : RowsOk rows) (hl : rows.length ≤ 160) (names : List (List Nat)) : F__law_good [.loc l, .lst (rows.map rowV), .lst (names.map .str)] σ = .ok (.bool true) σ := by
  unfold F__law_good mkF C__law_good
  simp only [List.length_cons, List.length_nil, Nat.reduceAdd, if_true, List.map_cons, List.map_nil, List.cons_append, List.nil_append, Nat.reduceSub, List.replicate, seq_cons, asg_eq, newD, alloc, Out.ok_to, SOut.next_then, List.set_cons_succ, List.set_cons_zero]
  generalize hρ : ([some (.loc l), some (.lst (rows.map rowV)), some (.lst (names.map .str)), some (.loc σ.length), none, none, none, none, none] : Env) = ρ
  -- the table
  have h1 : forS 4 [4] (var 1) L__law_good_1 ρ (σ ++ [.dictS []]) = .next ρ (σ ++ [.dictS (rows.map rowK)]) := by
    rw [forS_lst (vs := rows.map rowV) (σ' := σ ++ [.dictS []]) (by subst hρ; simp [var])]
    have key : ∀ (rest done : List Row), done ++ rest = rows → forL 4 [4] L__law_good_1 (rest.map rowV) ρ (σ ++ [.dictS (done.map rowK)]) = .next ρ (σ ++ [.dictS (rows.map rowK)]) := by
      intro rest
      induction rest with
      | nil => intro done e; simp at e; subst e; simp [forL]
      | cons x rest ih =>
        intro done e
        obtain ⟨h, t, p⟩ := x
        have hn : [h, t] ∉ (done.map rowK).map (·.1) := by
          rw [rowK_keys]
          intro q
          have := hr.1
          rw [← e, List.map_append, List.map_cons] at this
          exact (List.nodup_append.mp this).2.2 _ q _ (List.mem_cons_self ..) rfl
        have hl' : (done.map rowK).length < LIM := by
          have := congrArg List.length e
          simp only [List.length_append, List.length_cons] at this
          simp only [List.length_map, LIM]; omega
        have hput : pPut (.loc σ.length) (.tup [.str h, .str t]) (.int p) (σ ++ [.dictS (done.map rowK)]) = .ok .none (σ ++ [.dictS ((done ++ [(h, t, p)]).map rowK)]) := by
          have e1 : (σ ++ [PObj.dictS (done.map rowK)])[σ.length]? = some (.dictS (done.map rowK)) := by simp
          simp only [pPut, e1, strs2, hl', if_true, putKV_new hn]
          simp [rowK]
        have i0 : ∀ σ, pIdx (rowV (h, t, p)) (.int 0) σ = .ok (.str h) σ := fun _ => rfl
        have i1 : ∀ σ, pIdx (rowV (h, t, p)) (.int 1) σ = .ok (.str t) σ := fun _ => rfl
        have i2 : ∀ σ, pIdx (rowV (h, t, p)) (.int 2) σ = .ok (.int p) σ := fun _ => rfl
        have hbody : L__law_good_1 (ρ.set 4 (some (rowV (h, t, p)))) (σ ++ [.dictS (done.map rowK)]) = .next (ρ.set 4 (some (rowV (h, t, p)))) (σ ++ [.dictS ((done ++ [(h, t, p)]).map rowK)]) := by
          subst hρ
          simp only [L__law_good_1, List.set_cons_succ, List.set_cons_zero, seq_cons, seq_nil, exprS_eq, tri_eq, bin_eq, var, List.getElem?_cons_zero, List.getElem?_cons_succ, Out.ok_bind, cst_eq, i0, i1, i2, tupE, evs_cons, evs_nil, hput, Out.ok_to, SOut.next_then]
        simp only [List.map_cons, forL, hbody, SOut.next_then]
        have hf : forget [4] (ρ.set 4 (some (rowV (h, t, p)))) = ρ := by subst hρ; rfl
        rw [hf]
        exact ih (done ++ [(h, t, p)]) (by simpa using e)
    exact key rows [] rfl
  rw [h1]
  simp only [SOut.next_then, seq_cons, asg_eq]
  have hD : (σ ++ [PObj.dictS (rows.map rowK)])[σ.length]? = some (.dictS (rows.map rowK)) := by simp
  have T1 := T.app [.dictS (rows.map rowK)]
  -- the prices
  have h2 : (∀ h ∈ names, ∀ t ∈ names, ∃ a, L__law_good_2 ((ρ.set 5 (some (.str h))).set 6 (some (.str t))) (σ ++ [.dictS (rows.map rowK)]) = .next (((ρ.set 5 (some (.str h))).set 6 (some (.str t))).set 7 a) (σ ++ [.dictS (rows.map rowK)])) →
      forS 5 [5, 6, 7] (var 2) L__law_good_3 ρ (σ ++ [.dictS (rows.map rowK)]) = .next ρ (σ ++ [.dictS (rows.map rowK)]) := by
    intro hin
    rw [forS_lst (vs := names.map .str) (σ' := σ ++ [.dictS (rows.map rowK)]) (by subst hρ; simp [var])]
    refine forL_const _ fun x hx => ?_
    obtain ⟨h, hh, rfl⟩ := List.mem_map.mp hx
    refine ⟨ρ.set 5 (some (.str h)), ?_, by subst hρ; rfl⟩
    simp only [L__law_good_3, seq_cons]
    rw [forS_lst (vs := names.map .str) (σ' := σ ++ [.dictS (rows.map rowK)]) (by subst hρ; simp [var])]
    rw [forL_const]
    · simp only [SOut.next_then, seq_nil]
    · intro y hy
      obtain ⟨t, ht, rfl⟩ := List.mem_map.mp hy
      obtain ⟨a, e⟩ := hin h hh t ht
      exact ⟨_, e, by subst hρ; rfl⟩
  rw [h2]
  rotate_left
  · intro h hh t ht
    have hpr := price_eq T1 h t
    have hin := in_dict hD h t
    have hnin := notIn_dict hD h t
    rw [rowK_keys] at hin hnin
    refine ⟨some (((rows.map rowK).lookup [h, t]).getD .none), ?_⟩
    subst hρ
    unfold L__law_good_2
    cases hk : (rows.map rowK).lookup [h, t] with
    | none =>
      have hm := lookup_none.mp hk
      rw [hk] at hpr
      have hisn : ∀ σ, cmpV .IsNot .none .none σ = some false := fun _ => rfl
      simp only [Option.getD_none] at hpr ⊢
      simp only [List.set_cons_succ, List.set_cons_zero, seq_cons, seq_nil, asg_eq, appM, var, List.getElem?_cons_zero, List.getElem?_cons_succ, Out.ok_bind, T1.isT, if_true, evs_cons, evs_nil, hpr, Out.ok_to, SOut.next_then, ifS_eq, tAnd_cons, tAnd_nil, tCmp_eq, tupE, hin, hnin, decide_eq_false hm, Bool.not_false, lift_some, cst_eq, hisn, Bool.false_eq_true, if_false]
    | some v =>
      obtain ⟨p, rfl⟩ := look_int hk
      have hm : [h, t] ∈ rows.map keyOf := by
        by_cases q : [h, t] ∈ rows.map keyOf
        · exact q
        · rw [lookup_none.mpr q] at hk; cases hk
      rw [hk] at hpr
      simp only [Option.getD_some] at hpr ⊢
      have hix : pIdx (.loc σ.length) (.tup [.str h, .str t]) (σ ++ [.dictS (rows.map rowK)]) = .ok (.int p) (σ ++ [.dictS (rows.map rowK)]) := by
        simp only [pIdx, hD, strs2, Option.bind_some, hk, lift_some]
      have hne : ∀ σ, cmpV .NotEq (.int p) (.int p) σ = some false := fun σ => by simp [cmpV, eqV_int]
      simp only [List.set_cons_succ, List.set_cons_zero, seq_cons, seq_nil, asg_eq, appM, var, List.getElem?_cons_zero, List.getElem?_cons_succ, Out.ok_bind, T1.isT, if_true, evs_cons, evs_nil, hpr, Out.ok_to, SOut.next_then, ifS_eq, tAnd_cons, tAnd_nil, tCmp_eq, tupE, hin, hnin, decide_eq_true hm, Bool.not_true, lift_some, cst_eq, Bool.false_eq_true, if_false, tOr_cons, tOr_nil, tNot_eq, tOf_eq, un_eq, isI, isInst, truth, bin_eq, hix, hne]
  simp only [SOut.next_then]
  -- the list
  have htold := told_eq T1
  have hlen : (σ ++ [PObj.dictS (rows.map rowK)]).length = σ.length + 1 := by simp
  rw [hlen] at htold
  have hσ2 : σ ++ [PObj.dictS (rows.map rowK)] ++ [PObj.list (rows.map rowV)] = σ ++ [.dictS (rows.map rowK), .list (rows.map rowV)] := by simp
  rw [hσ2] at htold
  have hL : (σ ++ [PObj.dictS (rows.map rowK), PObj.list (rows.map rowV)])[σ.length + 1]? = some (.list (rows.map rowV)) := by
    rw [List.getElem?_append_right (by omega)]; simp
  have hplen : ∀ n : Nat, cmpV .NotEq (.int (n : Int)) (.int (n : Int)) (σ ++ [PObj.dictS (rows.map rowK), PObj.list (rows.map rowV)]) = some false := fun n => by simp [cmpV, eqV_int]
  have hpl : pLen (.loc (σ.length + 1)) (σ ++ [PObj.dictS (rows.map rowK), PObj.list (rows.map rowV)]) = .ok (.int (rows.length : Int)) (σ ++ [PObj.dictS (rows.map rowK), PObj.list (rows.map rowV)]) := by simp only [pLen, hL, List.length_map]
  have hpl2 : ∀ σ : St, pLen (.lst (rows.map rowV)) σ = .ok (.int (rows.length : Int)) σ := fun σ => by simp only [pLen, List.length_map]
  have h3 : forS 8 [8] (un pRange1 (un pLen (var 1))) L__law_good_4 (ρ.set 7 (some (.loc (σ.length + 1)))) (σ ++ [PObj.dictS (rows.map rowK), PObj.list (rows.map rowV)]) = .next (ρ.set 7 (some (.loc (σ.length + 1)))) (σ ++ [PObj.dictS (rows.map rowK), PObj.list (rows.map rowV)]) := by
    rw [forS_lst (vs := (List.range rows.length).map fun (k : Nat) => V.int (k : Int)) (σ' := σ ++ [PObj.dictS (rows.map rowK), PObj.list (rows.map rowV)]) (by
      subst hρ
      simp only [List.set_cons_succ, List.set_cons_zero, un_eq, var, List.getElem?_cons_zero, List.getElem?_cons_succ, Out.ok_bind, pLen, List.length_map, range1 rows.length (by omega)])]
    refine forL_const _ fun x hx => ?_
    obtain ⟨k, hk, rfl⟩ := List.mem_map.mp hx
    have hk' : k < rows.length := List.mem_range.mp hk
    refine ⟨(ρ.set 7 (some (.loc (σ.length + 1)))).set 8 (some (.int (k : Int))), ?_, by subst hρ; rfl⟩
    have e1 := pIdx_row rows hk' (σ ++ [PObj.dictS (rows.map rowK), PObj.list (rows.map rowV)])
    have e2 : pIdx (.loc (σ.length + 1)) (.int (k : Int)) (σ ++ [PObj.dictS (rows.map rowK), PObj.list (rows.map rowV)]) = .ok (rowV rows[k]) (σ ++ [PObj.dictS (rows.map rowK), PObj.list (rows.map rowV)]) := by
      simp only [pIdx, hL]; exact e1
    have e3 : cmpV .NotEq (rowV rows[k]) (rowV rows[k]) (σ ++ [PObj.dictS (rows.map rowK), PObj.list (rows.map rowV)]) = some false := by simp only [cmpV, eqV_row, Option.map_some, Bool.not_true]
    have e4 : ∀ σ, isI .tuple (rowV rows[k]) σ = .ok (.bool true) σ := fun _ => rfl
    subst hρ
    simp only [L__law_good_4, List.set_cons_succ, List.set_cons_zero, seq_cons, seq_nil, ifS_eq, tOr_cons, tOr_nil, tNot_eq, tOf_eq, un_eq, bin_eq, var, List.getElem?_cons_zero, List.getElem?_cons_succ, Out.ok_bind, e1, e2, e3, e4, truth, lift_some, Bool.not_true, Bool.false_eq_true, if_false, tCmp_eq, Out.ok_to, SOut.next_then]
  have hisl : ∀ σ' : St, σ'[σ.length + 1]? = some (.list (rows.map rowV)) → isI .list (.loc (σ.length + 1)) σ' = .ok (.bool true) σ' := fun σ' e => by simp [isI, isInst, e]
  have hT7 : appM F_Tariff_told (var 0) [] ρ (σ ++ [.dictS (rows.map rowK)]) = .ok (.loc (σ.length + 1)) (σ ++ [.dictS (rows.map rowK), .list (rows.map rowV)]) := by
    subst hρ
    simp only [appM, var, List.getElem?_cons_zero, Out.ok_bind, T1.isT, if_true, evs_nil, htold]
  simp only [seq_cons, asg_eq, hT7, Out.ok_to, SOut.next_then]
  have hif : (ifS (tOr [tNot (tOf (un (isI .list) (var 7))), tCmp .NotEq (un pLen (var 7)) (un pLen (var 1))]) (seq [retS (cst (V.bool false))]) (seq [])) (ρ.set 7 (some (.loc (σ.length + 1)))) (σ ++ [.dictS (rows.map rowK), .list (rows.map rowV)]) = .next (ρ.set 7 (some (.loc (σ.length + 1)))) (σ ++ [.dictS (rows.map rowK), .list (rows.map rowV)]) := by
    subst hρ
    simp only [List.set_cons_succ, List.set_cons_zero, ifS_eq, tOr_cons, tOr_nil, tNot_eq, tOf_eq, un_eq, var, List.getElem?_cons_zero, List.getElem?_cons_succ, Out.ok_bind, hisl _ hL, truth, lift_some, Bool.not_true, Bool.false_eq_true, if_false, tCmp_eq, hpl, hpl2, hplen, Out.ok_to, seq_nil]
  rw [hif]
  simp only [SOut.next_then, seq_cons]
  rw [h3]
  simp only [SOut.next_then, seq_cons]
  have hlast : (exprS (binM isL pAppend (var 7) (tupE [cst (V.str [120]), cst (V.str [121]), cst (V.int 1)]))) (ρ.set 7 (some (.loc (σ.length + 1)))) (σ ++ [.dictS (rows.map rowK), .list (rows.map rowV)]) = .next (ρ.set 7 (some (.loc (σ.length + 1)))) (σ ++ [.dictS (rows.map rowK), .list (rows.map rowV ++ [.tup [.str [120], .str [121], .int 1]])]) := by
    have hisL : isL (σ ++ [.dictS (rows.map rowK), .list (rows.map rowV)]) (.loc (σ.length + 1)) = true := by simp only [isL, asList, hL, Option.isSome_some]
    have hap : ∀ y, pAppend (.loc (σ.length + 1)) y (σ ++ [.dictS (rows.map rowK), .list (rows.map rowV)]) = .ok .none (σ ++ [.dictS (rows.map rowK), .list (rows.map rowV ++ [y])]) := fun y => by
      have hl' : (rows.map rowV).length < LIM := by simp [LIM]; omega
      simp only [pAppend, hL, hl', if_true]
      rw [List.set_append_right _ _ (by omega)]
      simp
    subst hρ
    simp only [List.set_cons_succ, List.set_cons_zero, exprS_eq, binM_eq, var, List.getElem?_cons_zero, List.getElem?_cons_succ, Out.ok_bind, hisL, if_true, tupE, evs_cons, evs_nil, cst_eq, hap, Out.ok_to]
  rw [hlast]
  simp only [SOut.next_then, seq_cons, retS_eq, cst_eq, Out.ok_to, SOut.ret_then]
  exact fin_app (by simp)

theorem eqV_lists {σ : St} {a b : V} {xs : List (List Row)} (ha : deep σ 6 a = some (.lst (xs.map fun r => .lst (r.map rowV)))) (hb : deep σ 6 b = some (.lst (xs.map fun r => .lst (r.map rowV)))) : eqV a b σ = some true := by
  unfold eqV
  rw [ha, hb]
  simp only [veq]
  clear ha hb
  induction xs with
  | nil => simp [veqL]
  | cons x xs ih => simp only [List.map_cons, veqL, veq, veqL_rows]; exact ih

theorem law_true (ns : List Int) (hns : ns.length ≤ 63) : ∃ σ', F_law [.lst (ns.map .int)] [] = .ok (.bool true) σ' := by
  have c0 := fun σ => cell_at_eq ns (k := 0) (by decide) σ
  generalize hc : cell ns 0 = c at c0
  have hnm := fun σ => names_eq c 9 (by decide) σ
  obtain ⟨R1, r1, l1, o1⟩ := rows_eq ns 1 (by decide) c []
  obtain ⟨R2, r2, l2, o2⟩ := rows_eq ns 22 (by decide) c []
  have lm1 : ∀ σ : St, pListM (.lst (R1.map rowV)) σ = .ok (.loc σ.length) (σ ++ [.list (R1.map rowV)]) := fun _ => rfl
  have lm2 : ∀ σ : St, pListM (.lst (R2.map rowV)) σ = .ok (.loc σ.length) (σ ++ [.list (R2.map rowV)]) := fun _ => rfl
  let σ0 : St := [.list (R1.map rowV), .list (R2.map rowV)]
  have n1 : newInst F_Tariff___init__ [.loc 0] σ0 = .ok (.loc 3) (σ0 ++ tar4 2 R1) := new_good (fun τ => rfl) o1.2 o1.1 (by omega)
  let σ1 : St := σ0 ++ tar4 2 R1
  have n2 : newInst F_Tariff___init__ [.loc 1] σ1 = .ok (.loc 7) (σ1 ++ tar4 6 R2) := new_good (fun τ => rfl) o2.2 o2.1 (by omega)
  let σ2 : St := σ1 ++ tar4 6 R2
  have T1 : TarAt σ2 3 2 4 5 R1 := ⟨rfl, rfl, rfl, rfl⟩
  have T2 : TarAt σ2 7 6 8 9 R2 := ⟨rfl, rfl, rfl, rfl⟩
  have t1 := told_eq T1
  have T2' := T2.app [.list (R1.map rowV)]
  have t2 := told_eq T2'
  let σ3 : St := σ2 ++ [.list (R1.map rowV)] ++ [.list (R2.map rowV)]
  have U1 : TarAt σ3 3 2 4 5 R1 := (T1.app _).app _
  have U2 : TarAt σ3 7 6 8 9 R2 := (T2.app _).app _
  have g1 := good_eq U1 o1 (by omega) (namesOf c 9)
  have g2 := good_eq U2 o2 (by omega) (namesOf c 9)
  let σ4 : St := (σ3.set 0 (.list [])).set 1 (.list (R2.map rowV ++ [.tup [.str [120], .str [121], .int 1]]))
  have W1 : TarAt σ4 3 2 4 5 R1 := (U1.set _ (by decide)).set _ (by decide)
  have W2 : TarAt σ4 7 6 8 9 R2 := (U2.set _ (by decide)).set _ (by decide)
  have g3 := good_eq W1 o1 (by omega) (namesOf c 9)
  have g4 := good_eq W2 o2 (by omega) (namesOf c 9)
  have d0 : pIdx (.lst [.loc 0, .loc 1]) (.int 0) = fun σ => .ok (.loc 0) σ := rfl
  have d1 : pIdx (.lst [.loc 0, .loc 1]) (.int 1) = fun σ => .ok (.loc 1) σ := rfl
  have e1 : cmpV .NotEq (.lst [.loc 10, .loc 11]) (.lst [.lst (R1.map rowV), .lst (R2.map rowV)]) σ3 = some false := by
    have := eqV_lists (σ := σ3) (a := .lst [.loc 10, .loc 11]) (b := .lst [.lst (R1.map rowV), .lst (R2.map rowV)]) (xs := [R1, R2]) ?_ ?_
    · simp only [cmpV, this, Option.map_some, Bool.not_true]
    · have h10 : σ3[10]? = some (.list (R1.map rowV)) := rfl
      have h11 : σ3[11]? = some (.list (R2.map rowV)) := rfl
      simp [deep, h10, h11, deep_rows σ3 2]
    · simp [deep, deep_rows σ3 2]
  have e2 : cmpV .NotEq (.loc 0) (.lst (R1.map rowV)) σ3 = some false := by
    have h0 : σ3[0]? = some (.list (R1.map rowV)) := rfl
    simp [cmpV, eqV, deep, h0, deep_rows σ3 3, veq, veqL_rows]
  have e3 : cmpV .NotEq (.loc 1) (.lst (R2.map rowV)) σ3 = some false := by
    have h0 : σ3[1]? = some (.list (R2.map rowV)) := rfl
    simp [cmpV, eqV, deep, h0, deep_rows σ3 3, veq, veqL_rows]
  have cl : isL σ3 (.loc 0) = true ∧ pClear (.loc 0) σ3 = .ok .none (σ3.set 0 (.list [])) := ⟨rfl, rfl⟩
  have ap : isL (σ3.set 0 (.list [])) (.loc 1) = true ∧ ∀ y, pAppend (.loc 1) y (σ3.set 0 (.list [])) = .ok .none ((σ3.set 0 (.list [])).set 1 (.list (R2.map rowV ++ [y]))) := by
    refine ⟨rfl, fun y => ?_⟩
    have h1 : (σ3.set 0 (.list []))[1]? = some (.list (R2.map rowV)) := rfl
    have hl' : (R2.map rowV).length < LIM := by simp [LIM]; omega
    simp only [pAppend, h1, hl', if_true]
  have e9 : (9 : Int) = ((9 : Nat) : Int) := rfl
  have hs10 : σ2.length = 10 := rfl
  have hs11 : (σ2 ++ [PObj.list (R1.map rowV)]).length = 11 := rfl
  rw [hs10] at t1
  rw [hs11] at t2
  refine ⟨[], ?_⟩
  unfold F_law
  refine (mkF_ret (pars := 1) (v := .bool true) (σ' := σ4) rfl ?_).trans (fin_app (σ := []) (τ := σ4) (by simp))
  unfold C_law
  simp only [List.map_cons, List.map_nil, List.cons_append, List.nil_append, Nat.reduceSub, List.replicate]
  refine seq_asg (v := .lst ((namesOf c 9).map .str)) (σ' := []) (by simp only [app_eq, evs_cons, evs_nil, var, List.getElem?_cons_zero, Out.ok_bind, cst_eq, c0, e9]; exact hnm []) ?_
  simp only [List.set_cons_succ, List.set_cons_zero]
  refine seq_asg (v := .lst (R1.map rowV)) (σ' := []) (by simp only [app_eq, evs_cons, evs_nil, var, List.getElem?_cons_zero, List.getElem?_cons_succ, Out.ok_bind, cst_eq, r1]) ?_
  simp only [List.set_cons_succ, List.set_cons_zero]
  refine seq_asg (v := .lst (R2.map rowV)) (σ' := []) (by simp only [app_eq, evs_cons, evs_nil, var, List.getElem?_cons_zero, List.getElem?_cons_succ, Out.ok_bind, cst_eq, r2]) ?_
  simp only [List.set_cons_succ, List.set_cons_zero]
  refine seq_asg (v := .lst [.loc 0, .loc 1]) (σ' := σ0) (by simp only [lstE_eq, evs_cons, evs_nil, un_eq, var, List.getElem?_cons_zero, List.getElem?_cons_succ, Out.ok_bind, lm1, lm2]; rfl) ?_
  simp only [List.set_cons_succ, List.set_cons_zero]
  refine seq_asg (v := .loc 3) (σ' := σ1) (by simp only [app_eq, evs_cons, evs_nil, bin_eq, var, List.getElem?_cons_zero, List.getElem?_cons_succ, Out.ok_bind, cst_eq, d0, n1]; rfl) ?_
  simp only [List.set_cons_succ, List.set_cons_zero]
  refine seq_asg (v := .loc 7) (σ' := σ2) (by simp only [app_eq, evs_cons, evs_nil, bin_eq, var, List.getElem?_cons_zero, List.getElem?_cons_succ, Out.ok_bind, cst_eq, d1, n2]; rfl) ?_
  simp only [List.set_cons_succ, List.set_cons_zero]
  refine seq_asg (v := .lst [.loc 10, .loc 11]) (σ' := σ3) (by simp only [lstE_eq, evs_cons, evs_nil, appM_eq, var, List.getElem?_cons_zero, List.getElem?_cons_succ, Out.ok_bind, T1.isT, if_true, t1, T2'.isT, t2]; rfl) ?_
  simp only [List.set_cons_succ, List.set_cons_zero]
  refine seq_skip (σ' := σ3) (by simp only [tOr_cons, tOr_nil, tNot_eq, tOf_eq, app_eq, evs_cons, evs_nil, var, List.getElem?_cons_zero, List.getElem?_cons_succ, Out.ok_bind, g1, g2, truth, lift_some, Bool.not_true, Bool.false_eq_true, if_false]) ?_
  refine seq_skip (σ' := σ3) (by simp only [tCmp_eq, lstE_eq, evs_cons, evs_nil, var, List.getElem?_cons_zero, List.getElem?_cons_succ, Out.ok_bind, e1, lift_some]) ?_
  refine seq_skip (σ' := σ3) (by simp only [tOr_cons, tOr_nil, tCmp_eq, bin_eq, cst_eq, var, List.getElem?_cons_zero, List.getElem?_cons_succ, Out.ok_bind, d0, d1, e2, e3, lift_some, Bool.false_eq_true, if_false]) ?_
  refine seq_expr (σ' := σ3.set 0 (.list [])) (v := .none) (by simp only [bin0_eq, bin_eq, cst_eq, var, List.getElem?_cons_zero, List.getElem?_cons_succ, Out.ok_bind, d0, cl.1, cl.2, if_true]) ?_
  refine seq_expr (σ' := σ4) (v := .none) (by simp only [binM_eq, bin_eq, tupE_eq, evs_cons, evs_nil, cst_eq, var, List.getElem?_cons_zero, List.getElem?_cons_succ, Out.ok_bind, d1, ap.1, ap.2, if_true]; rfl) ?_
  refine seq_ret ?_
  simp only [andE_cons, andE_one, app_eq, evs_cons, evs_nil, var, List.getElem?_cons_zero, List.getElem?_cons_succ, Out.ok_bind, g3, g4, truth, lift_some, if_true]
end Mine
end

section
set_option maxRecDepth 100000
set_option maxHeartbeats 8000000
namespace Mine
open PySem PyProof.Rows PySem.W
noncomputable def fns : List Str := ["is_place", "is_price", "_law_cell_at", "_law_names", "_law_rows", "_law_good", "law"]
theorem R_is_place : rec 0 ∈ recsOf Mine.hd.view_39 := List.mem_of_getElem? (i := 0) (by with_unfolding_all rfl)
theorem R_is_price : rec 1 ∈ recsOf Mine.hd.view_39 := List.mem_of_getElem? (i := 1) (by with_unfolding_all rfl)
theorem R__law_cell_at : rec 2 ∈ recsOf Mine.hd.view_39 := List.mem_of_getElem? (i := 2) (by with_unfolding_all rfl)
theorem R__law_names : rec 3 ∈ recsOf Mine.hd.view_39 := List.mem_of_getElem? (i := 3) (by with_unfolding_all rfl)
theorem R__law_rows : rec 4 ∈ recsOf Mine.hd.view_39 := List.mem_of_getElem? (i := 4) (by with_unfolding_all rfl)
theorem R__law_good : rec 5 ∈ recsOf Mine.hd.view_39 := List.mem_of_getElem? (i := 5) (by with_unfolding_all rfl)
theorem R_law : rec 6 ∈ recsOf Mine.hd.view_39 := List.mem_of_getElem? (i := 6) (by with_unfolding_all rfl)
section
variable {w : World} {loose : List Str} {mean : ExcName → Option Value} {mg mb : Str → Option Value} {h : Heap} {prog : Program}
theorem law_of (T : Top Mine.hd.view_39 loose mean mg mb h) (KI : (Mine.hd.heap_39 w.params).In h) : Law (mkCtx prog w h mg mb fns) (Mine.hd.heap_39 w.params) where
  xo := xok_of T
  n_all := none_of T KI (by with_unfolding_all rfl)
  n_bool := none_of T KI (by with_unfolding_all rfl)
  n_int := none_of T KI (by with_unfolding_all rfl)
  n_isinstance := none_of T KI (by with_unfolding_all rfl)
  n_len := none_of T KI (by with_unfolding_all rfl)
  n_list := none_of T KI (by with_unfolding_all rfl)
  n_range := none_of T KI (by with_unfolding_all rfl)
  n_str := none_of T KI (by with_unfolding_all rfl)
  n_tuple := none_of T KI (by with_unfolding_all rfl)
  c_LETTERS := str_const T (by with_unfolding_all rfl) (by decide)
  c_LONGEST := int_const T (by with_unfolding_all rfl)
  c_DEAREST := int_const T (by with_unfolding_all rfl)
  c_MOST_ROWS := int_const T (by with_unfolding_all rfl)
  ck := clsK_of T KI (by with_unfolding_all rfl) (by kernel_rfl)
  m___init__ := ⟨_, meth_of T KI (by with_unfolding_all rfl) (by with_unfolding_all rfl) (by with_unfolding_all rfl) (by with_unfolding_all rfl) (by with_unfolding_all rfl) (by with_unfolding_all rfl) (by with_unfolding_all rfl) (by with_unfolding_all rfl) ⟨by with_unfolding_all rfl, by with_unfolding_all rfl⟩ (by kernel_rfl) (by with_unfolding_all rfl) (by with_unfolding_all rfl) (by with_unfolding_all rfl) (by decide +kernel) (by decide) (by with_unfolding_all decide) (fun vals hv => by obtain ⟨v0, v1, rfl⟩ := len2 hv; with_unfolding_all rfl)⟩
  m_put := ⟨_, meth_of T KI (by with_unfolding_all rfl) (by with_unfolding_all rfl) (by with_unfolding_all rfl) (by with_unfolding_all rfl) (by with_unfolding_all rfl) (by with_unfolding_all rfl) (by with_unfolding_all rfl) (by with_unfolding_all rfl) ⟨by with_unfolding_all rfl, by with_unfolding_all rfl⟩ (by kernel_rfl) (by with_unfolding_all rfl) (by with_unfolding_all rfl) (by with_unfolding_all rfl) (by decide +kernel) (by decide) (by with_unfolding_all decide) (fun vals hv => by obtain ⟨v0, v1, v2, v3, rfl⟩ := len4 hv; with_unfolding_all rfl)⟩
  m_price := ⟨_, meth_of T KI (by with_unfolding_all rfl) (by with_unfolding_all rfl) (by with_unfolding_all rfl) (by with_unfolding_all rfl) (by with_unfolding_all rfl) (by with_unfolding_all rfl) (by with_unfolding_all rfl) (by with_unfolding_all rfl) ⟨by with_unfolding_all rfl, by with_unfolding_all rfl⟩ (by kernel_rfl) (by with_unfolding_all rfl) (by with_unfolding_all rfl) (by with_unfolding_all rfl) (by decide +kernel) (by decide) (by with_unfolding_all decide) (fun vals hv => by obtain ⟨v0, v1, v2, rfl⟩ := len3 hv; with_unfolding_all rfl)⟩
  m_told := ⟨_, meth_of T KI (by with_unfolding_all rfl) (by with_unfolding_all rfl) (by with_unfolding_all rfl) (by with_unfolding_all rfl) (by with_unfolding_all rfl) (by with_unfolding_all rfl) (by with_unfolding_all rfl) (by with_unfolding_all rfl) ⟨by with_unfolding_all rfl, by with_unfolding_all rfl⟩ (by kernel_rfl) (by with_unfolding_all rfl) (by with_unfolding_all rfl) (by with_unfolding_all rfl) (by decide +kernel) (by decide) (by with_unfolding_all decide) (fun vals hv => by obtain ⟨v0, rfl⟩ := len1 hv; with_unfolding_all rfl)⟩
  f_is_place := fn_of (i := 0) T R_is_place (by with_unfolding_all rfl) (by with_unfolding_all rfl) (by with_unfolding_all rfl) (by with_unfolding_all rfl) (by decide +kernel) (by decide) (by with_unfolding_all decide) (fun pm code doc vals hv => by obtain ⟨v0, rfl⟩ := len1 hv; with_unfolding_all rfl)
  f_is_price := fn_of (i := 1) T R_is_price (by with_unfolding_all rfl) (by with_unfolding_all rfl) (by with_unfolding_all rfl) (by with_unfolding_all rfl) (by decide +kernel) (by decide) (by with_unfolding_all decide) (fun pm code doc vals hv => by obtain ⟨v0, rfl⟩ := len1 hv; with_unfolding_all rfl)
  f__law_cell_at := fn_of (i := 2) T R__law_cell_at (by with_unfolding_all rfl) (by with_unfolding_all rfl) (by with_unfolding_all rfl) (by with_unfolding_all rfl) (by decide +kernel) (by decide) (by with_unfolding_all decide) (fun pm code doc vals hv => by obtain ⟨v0, v1, rfl⟩ := len2 hv; with_unfolding_all rfl)
  f__law_names := fn_of (i := 3) T R__law_names (by with_unfolding_all rfl) (by with_unfolding_all rfl) (by with_unfolding_all rfl) (by with_unfolding_all rfl) (by decide +kernel) (by decide) (by with_unfolding_all decide) (fun pm code doc vals hv => by obtain ⟨v0, v1, rfl⟩ := len2 hv; with_unfolding_all rfl)
  f__law_rows := fn_of (i := 4) T R__law_rows (by with_unfolding_all rfl) (by with_unfolding_all rfl) (by with_unfolding_all rfl) (by with_unfolding_all rfl) (by decide +kernel) (by decide) (by with_unfolding_all decide) (fun pm code doc vals hv => by obtain ⟨v0, v1, v2, rfl⟩ := len3 hv; with_unfolding_all rfl)
  f__law_good := fn_of (i := 5) T R__law_good (by with_unfolding_all rfl) (by with_unfolding_all rfl) (by with_unfolding_all rfl) (by with_unfolding_all rfl) (by decide +kernel) (by decide) (by with_unfolding_all decide) (fun pm code doc vals hv => by obtain ⟨v0, v1, v2, rfl⟩ := len3 hv; with_unfolding_all rfl)
  f_law := fn_of (i := 6) T R_law (by with_unfolding_all rfl) (by with_unfolding_all rfl) (by with_unfolding_all rfl) (by with_unfolding_all rfl) (by decide +kernel) (by decide) (by with_unfolding_all decide) (fun pm code doc vals hv => by obtain ⟨v0, rfl⟩ := len1 hv; with_unfolding_all rfl)
end
theorem holds (law_true : ∀ ns : List Int, ns.length ≤ 63 → ∃ σ', F_law [.lst (ns.map .int)] [] = .ok (.bool true) σ') : PySem.Challenge.rw_uf050001_01.Holds := by
  refine Mine.hd (by
    k_fill
    intro w s₀ s₁ mg mb G Y fa o pm cd doc dV kV ho hd hcd hD hmg hg args vals as hpre hlay hrd hwl hlo
    have KX := kIn_of Y
    refine Ground.open G ?_
    intro T B D TE TW
    wrow_args hpre hlay hrd hwl hlo
    refine enter_call ?_
    rename_i ns _ _ _ _ _ _ _ a vs _ hL₂ _ W _ hI _ hc _
    have L := law_of (prog := PySem.Challenge.rw_uf050001_01.row.prog) T KX
    have hl : ns.length ≤ 63 := by simp at hc; omega
    have hfa : (mkCtx PySem.Challenge.rw_uf050001_01.row.prog w s₁.heap mg mb fns).fn 6 = fa := by
      show addrOf (mg _) = fa
      have e : mg "law" = some (.ref fa) := hmg
      rw [show fns.getD 6 "" = "law" from rfl, e]; rfl
    have S := S_law L
    rw [hfa] at S
    cases W with
    | @list _ vs₀ _ hget _ =>
      have hv : vs₀ = vs := by
        obtain ⟨o₂, ho₂, _, n₂, hd₂⟩ := hL₂
        rw [hget] at ho₂; cases ho₂; cases hd₂; rfl
      subst hv
      refine law_ends (X := mkCtx PySem.Challenge.rw_uf050001_01.row.prog w s₁.heap mg mb fns) S (by decide) rfl hget hI hl (law_true ns hl) hg ?_ ?_
      · intro c; with_unfolding_all rfl
      · with_unfolding_all rfl)
end Mine
end

set_option maxRecDepth 100000 in
set_option maxHeartbeats 8000000 in
theorem PySem.Challenge.cw_uf050001_01_holds : PySem.Challenge.rw_uf050001_01.Holds :=
  Mine.holds Mine.law_true
