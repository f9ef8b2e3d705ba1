import PyProof.Rows.All
import Wide.All
import OpenK.AllK
import Wide.FinOn
import PySem.Challenge.RW_pd_atlas_1_06
set_option Elab.async false
set_option linter.unusedSimpArgs false
set_option linter.unusedVariables false
set_option maxHeartbeats 4000000
set_option genSizeOf false
section
/-! A small language, its weakest preconditions: plain Lean, no program in sight. -/
namespace MP
open PySem (PyData)

inductive V where
  | none | bool (b : Bool) | int (i : Int) | ref (a : Nat) | scr | ty (t : String)
  deriving DecidableEq, Inhabited

inductive O where
  | list (xs : List V) | tup (xs : List V) | dict (kvs : List ((Int × Int) × Nat × Int))
  deriving DecidableEq, Inhabited

noncomputable abbrev H := Nat → Option O
noncomputable def H.set (h : H) (a : Nat) (o : O) : H := fun b => if b = a then some o else h b
noncomputable abbrev Env := String → Option V
noncomputable def upd (σ : Env) (x : String) (v : V) : Env := fun y => if y = x then some v else σ y

/-- no list is longer -/
noncomputable abbrev lim : Nat := 1000000

mutual
inductive Rd (h : H) : V → PyData → Prop
  | none : Rd h .none .none
  | bool (b : Bool) : Rd h (.bool b) (.bool b)
  | int (i : Int) : Rd h (.int i) (.int i)
  | list {a : Nat} {xs : List V} {ds : List PyData} : h a = some (.list xs) → RdAll h xs ds → Rd h (.ref a) (.list ds)
  | tup {a : Nat} {xs : List V} {ds : List PyData} : h a = some (.tup xs) → RdAll h xs ds → Rd h (.ref a) (.tuple ds)
inductive RdAll (h : H) : List V → List PyData → Prop
  | nil : RdAll h [] []
  | cons {v : V} {d : PyData} {vs : List V} {ds : List PyData} : Rd h v d → RdAll h vs ds → RdAll h (v :: vs) (d :: ds)
end

inductive Op where | add | sub | mul | div | mod
inductive Cm where | lt | le | gt | ge | eq | ne | is | isnt
inductive Bf where | len | list | min | max | sum | type
inductive Mt where | append | reverse

/-- names bound by a for or a comprehension -/
inductive Tg where
  | name (x : String)

mutual
inductive PE where
  | none | bool (b : Bool) | int (i : Int)
  | ty (t : String)
  | var (x : String)
  | glob (x : String)
  | bin (op : Op) (a b : PE)
  | neg (a : PE)
  | not (a : PE)
  | cmp (op : Cm) (a b : PE)
  | band (es : PEs) | bor (es : PEs)
  | sub (a i : PE)
  | take (a e : PE) | drop (a e : PE)
  | dict0
  | getd (a k d : PE)
  | list (es : PEs) | tup (es : PEs)
  | call (f : String) (es : PEs)
  | bfn (f : Bf) (es : PEs)
  | meth (a : PE) (m : Mt) (es : PEs)
  | comp (elt : PE) (t : Tg) (src : Src) (ifs : PEs)
inductive PEs where
  | nil | cons (e : PE) (r : PEs)
inductive Src where
  | up (a : PE) | fromTo (a b : PE) | seq (e : PE)
end

/-- what a store goes to -/
inductive Lv where
  | tg (t : Tg) | sub (a i : PE)

mutual
inductive PS where
  | assign (l : Lv) (e : PE)
  | unp (ls : List Lv) (e : PE)
  | expr (e : PE)
  | ite (c : PE) (a b : PSs)
  | whl (c : PE) (b : PSs)
  | fr (t : Tg) (src : Src) (b : PSs)
  | ret (e : PE)
  | stop
inductive PSs where
  | nil | cons (s : PS) (r : PSs)
end

structure Par where
  ns : List Int
  gc : String → Option V
  Γ : String → List V → H → (V → H → Prop) → Prop

noncomputable def intsOf : List V → Option (List Int)
  | [] => some []
  | .int i :: r => (intsOf r).map (i :: ·)
  | _ :: _ => Option.none
noncomputable def minL : List Int → Int
  | [] => 0
  | x :: r => r.foldl min x
noncomputable def upTo (a b : Int) : List Int := (List.range (b - a).toNat).map fun i => a + (i : Nat)
noncomputable def inLim (i : Int) : Prop := -500000 ≤ i ∧ i ≤ 500000
noncomputable def getIdx (xs : List V) (k : Int) : Option V := if 0 ≤ k then xs[k.toNat]? else Option.none

noncomputable def alloc (o : O) (h : H) (Q : V → H → Prop) : Prop := ∀ a, h a = Option.none → Q (.ref a) (h.set a o)

noncomputable def binop : Op → V → V → H → (V → H → Prop) → Prop
  | .add, .int i, .int j, h, Q => Q (.int (i + j)) h
  | .sub, .int i, .int j, h, Q => Q (.int (i - j)) h
  | .mul, .int i, .int j, h, Q => inLim i ∧ inLim j ∧ Q (.int (i * j)) h
  | .div, .int i, .int j, h, Q => 0 < j ∧ j ≤ lim ∧ Q (.int (i / j)) h
  | .mod, .int i, .int j, h, Q => 0 < j ∧ Q (.int (i % j)) h
  | .mul, .ref a, .int k, h, Q => (match h a with
    | some (.list xs) => 0 ≤ k ∧ k ≤ lim ∧ xs.length * k.toNat ≤ lim ∧ alloc (.list (List.replicate k.toNat xs).flatten) h Q
    | _ => False)
  | .add, .ref a, .ref b, h, Q => (match h a with
    | some (.list xs) => (match h b with
      | some (.list ys) => xs.length + ys.length ≤ lim ∧ alloc (.list (xs ++ ys)) h Q
      | _ => False)
    | _ => False)
  | _, _, _, _, _ => False

noncomputable def eqW (a b : V) (h : H) (Q : Bool → Prop) : Prop :=
  match a, b with
  | .int i, .int j => Q (decide (i = j))
  | _, _ => ∃ da db, Rd h a da ∧ Rd h b db ∧ da.depth ≤ 8 ∧ db.depth ≤ 8 ∧ Q (PyData.eqv da db)

noncomputable def isW (a b : V) (Q : Bool → Prop) : Prop :=
  match b with
  | .none => Q (decide (a = .none))
  | .bool c => Q (decide (a = .bool c))
  | .ty t => (match a with
    | .ty u => Q (decide (u = t))
    | _ => False)
  | _ => False

/-- the order of pairs -/
noncomputable def plt (a b : Int × Int) : Bool := decide (a.1 < b.1) || (decide (a.1 = b.1) && decide (a.2 < b.2))
noncomputable def pairV (h : H) (v : V) : Option (Int × Int) := match v with
  | .ref b => (match h b with
    | some (.tup [.int i, .int j]) => some (i, j)
    | _ => Option.none)
  | _ => Option.none
noncomputable def cmpop : Cm → V → V → H → (V → H → Prop) → Prop
  | .lt, .int i, .int j, h, Q => Q (.bool (decide (i < j))) h
  | .lt, .ref a, .ref b, h, Q => (match pairV h (.ref a) with
    | some p => (match pairV h (.ref b) with
      | some q => Q (.bool (plt p q)) h
      | Option.none => False)
    | Option.none => False)
  | .le, .int i, .int j, h, Q => Q (.bool (decide (i ≤ j))) h
  | .gt, .int i, .int j, h, Q => Q (.bool (decide (j < i))) h
  | .ge, .int i, .int j, h, Q => Q (.bool (decide (j ≤ i))) h
  | .eq, a, b, h, Q => eqW a b h fun r => Q (.bool r) h
  | .ne, a, b, h, Q => eqW a b h fun r => Q (.bool (!r)) h
  | .is, a, b, h, Q => isW a b fun r => Q (.bool r) h
  | .isnt, a, b, h, Q => isW a b fun r => Q (.bool (!r)) h
  | _, _, _, _, _ => False

noncomputable def negW (va : V) (h : H) (Q : V → H → Prop) : Prop :=
  match va with
  | .int i => Q (.int (-i)) h
  | _ => False

noncomputable def truth : V → (Bool → Prop) → Prop
  | .bool b, Q => Q b
  | _, _ => False

/-- the name of a value's type -/
noncomputable def typeN (v : V) (h : H) : Option String := match v with
  | .none => some "NoneType"
  | .bool _ => some "bool"
  | .int _ => some "int"
  | .ref a => (match h a with
    | some (.list _) => some "list"
    | some (.tup _) => some "tuple"
    | some (.dict _) => Option.none
    | Option.none => Option.none)
  | _ => Option.none

noncomputable def bfnW (G : Par) : Bf → List V → H → (V → H → Prop) → Prop
  | .len, [.scr], h, Q => Q (.int G.ns.length) h
  | .len, [.ref a], h, Q => (match h a with
    | some (.list xs) => Q (.int xs.length) h
    | some (.tup xs) => Q (.int xs.length) h
    | _ => False)
  | .list, [.ref a], h, Q => (match h a with
    | some (.list xs) => alloc (.list xs) h Q
    | _ => False)
  | .min, [.ref a], h, Q => (match h a with
    | some (.list xs) => (match intsOf xs with
      | some (i :: is) => Q (.int (minL (i :: is))) h
      | _ => False)
    | _ => False)
  | .min, [.int i, .int j], h, Q => Q (.int (min i j)) h
  | .min, [.int i, .int j, .int k], h, Q => Q (.int (min (min i j) k)) h
  | .max, [.int i, .int j], h, Q => Q (.int (max i j)) h
  | .sum, [.ref a], h, Q => (match h a with
    | some (.list xs) => (match intsOf xs with
      | some is => Q (.int is.sum) h
      | _ => False)
    | _ => False)
  | .type, [v], h, Q => (match typeN v h with
    | some t => Q (.ty t) h
    | Option.none => False)
  | _, _, _, _ => False

noncomputable def subW (G : Par) (a i : V) (h : H) (Q : V → H → Prop) : Prop :=
  match a, i with
  | .scr, .int k => (match getIdx (G.ns.map .int) k with
    | some v => Q v h
    | Option.none => False)
  | .ref r, .int k => (match h r with
    | some (.list xs) => (match getIdx xs k with
      | some v => Q v h
      | Option.none => False)
    | some (.tup xs) => (match getIdx xs k with
      | some v => Q v h
      | Option.none => False)
    | _ => False)
  | _, _ => False

/-- the list that a value is -/
noncomputable def ofL (va : V) (h : H) (K : List V → Prop) : Prop :=
  match va with
  | .ref r => (match h r with
    | some (.list xs) => K xs
    | _ => False)
  | _ => False
noncomputable def natI (v : V) (K : Nat → Prop) : Prop :=
  match v with
  | .int k => 0 ≤ k ∧ K k.toNat
  | _ => False

/-- what a dict holds for a pair -/
noncomputable def lookK (kvs : List ((Int × Int) × Nat × Int)) (p : Int × Int) : Option Int := (kvs.find? fun e => decide (e.1 = p)).map (·.2.2)
noncomputable def putK (kvs : List ((Int × Int) × Nat × Int)) (p : Int × Int) (t : Nat) (x : Int) : List ((Int × Int) × Nat × Int) :=
  if (kvs.find? fun e => decide (e.1 = p)).isSome then kvs.map fun e => if e.1 = p then (e.1, e.2.1, x) else e else kvs ++ [(p, t, x)]
/-- the keys still stand -/
noncomputable def keysOk (h : H) (kvs : List ((Int × Int) × Nat × Int)) : Prop := ∀ e ∈ kvs, h e.2.1 = some (.tup [.int e.1.1, .int e.1.2])
noncomputable def isD (va : V) (h : H) : Prop :=
  match va with
  | .ref r => (match h r with
    | some (.dict _) => r ≠ 1
    | _ => False)
  | _ => False
noncomputable def getdW (va vk vd : V) (h : H) (Q : V → H → Prop) : Prop :=
  match va with
  | .ref r => (match h r with
    | some (.dict kvs) => (match pairV h vk with
      | some p => keysOk h kvs ∧ (match lookK kvs p with
        | some x => Q (.int x) h
        | Option.none => Q vd h)
      | Option.none => False)
    | _ => False)
  | _ => False
noncomputable def setSub (a i v : V) (h : H) (Q : H → Prop) : Prop :=
  match a, i with
  | .ref r, .ref t => (match h r with
    | some (.dict kvs) => (match pairV h (.ref t) with
      | some p => (match v with
        | .int x => keysOk h kvs ∧ kvs.length < lim ∧ Q (h.set r (.dict (putK kvs p t x)))
        | _ => False)
      | Option.none => False)
    | _ => False)
  | .ref r, .int k => (match h r with
    | some (.list xs) => 0 ≤ k ∧ k < xs.length ∧ Q (h.set r (.list (xs.set k.toNat v)))
    | _ => False)
  | _, _ => False

noncomputable def methW : Mt → V → List V → H → (V → H → Prop) → Prop
  | .append, .ref a, [v], h, Q => (match h a with
    | some (.list xs) => xs.length < lim ∧ Q .none (h.set a (.list (xs ++ [v])))
    | _ => False)
  | .reverse, .ref a, [], h, Q => (match h a with
    | some (.list xs) => Q .none (h.set a (.list xs.reverse))
    | _ => False)
  | _, _, _, _, _ => False

noncomputable def isL (va : V) (h : H) : Prop :=
  match va with
  | .ref a => (match h a with
    | some (.list _) => True
    | _ => False)
  | _ => False

/-- a comprehension's or a for's items, and the list that must stay as it is -/
noncomputable abbrev SrcK := List V → Option (Nat × List V) → H → Prop

noncomputable def stays (k : Option (Nat × List V)) (h : H) : Prop :=
  match k with
  | some (a, xs) => h a = some (.list xs)
  | Option.none => True

/-- the list or tuple that a value is -/
noncomputable def ofU (va : V) (h : H) (K : List V → Prop) : Prop :=
  match va with
  | .ref r => (match h r with
    | some (.tup xs) => K xs
    | some (.list xs) => K xs
    | _ => False)
  | _ => False
noncomputable def tgW (t : Tg) (v : V) (σ : Env) (h : H) (Q : Env → Prop) : Prop :=
  match t with
  | .name x => Q (upd σ x v)

/-- the turns of a comprehension -/
noncomputable def compW (turn : V → H → (Option V → H → Prop) → Prop) (k : Option (Nat × List V)) : List V → List V → H → (List V → H → Prop) → Prop
  | [], ys, h, Q => Q ys h
  | v :: r, ys, h, Q => stays k h ∧ turn v h fun w h' => match w with
      | some x => compW turn k r (ys ++ [x]) h' Q
      | Option.none => compW turn k r ys h' Q

inductive Flow where | next | ret (v : V)

noncomputable def forW (turn : V → Env → H → (Flow → Env → H → Prop) → Prop) (k : Option (Nat × List V)) : List V → Env → H → (Flow → Env → H → Prop) → Prop
  | [], σ, h, Q => stays k h ∧ Q .next σ h
  | v :: r, σ, h, Q => stays k h ∧ turn v σ h fun f σ' h' => match f with
      | .next => forW turn k r σ' h' Q
      | .ret w => Q (.ret w) σ' h'

noncomputable def whileW (test : Env → H → (Bool → H → Prop) → Prop) (turn : Env → H → (Flow → Env → H → Prop) → Prop) : Nat → Env → H → (Flow → Env → H → Prop) → Prop
  | 0, _, _, _ => False
  | n + 1, σ, h, Q => test σ h fun b h' => if b then turn σ h' fun f σ' h'' => (match f with
      | .next => whileW test turn n σ' h'' Q
      | .ret w => Q (.ret w) σ' h'') else Q .next σ h'

mutual
noncomputable def ev (G : Par) : PE → Env → H → (V → H → Prop) → Prop
  | .none, _, h, Q => Q .none h
  | .bool b, _, h, Q => Q (.bool b) h
  | .int i, _, h, Q => Q (.int i) h
  | .ty t, _, h, Q => Q (.ty t) h
  | .var x, σ, h, Q => (match σ x with
    | some v => Q v h
    | Option.none => False)
  | .glob x, _, h, Q => (match G.gc x with
    | some v => Q v h
    | Option.none => False)
  | .bin op a b, σ, h, Q => ev G a σ h fun va h₁ => ev G b σ h₁ fun vb h₂ => binop op va vb h₂ Q
  | .neg a, σ, h, Q => ev G a σ h fun va h₁ => negW va h₁ Q
  | .not a, σ, h, Q => ev G a σ h fun va h₁ => truth va fun b => Q (.bool (!b)) h₁
  | .cmp op a b, σ, h, Q => ev G a σ h fun va h₁ => ev G b σ h₁ fun vb h₂ => cmpop op va vb h₂ Q
  | .band es, σ, h, Q => evAnd G es σ h Q
  | .bor es, σ, h, Q => evOr G es σ h Q
  | .sub a i, σ, h, Q => ev G a σ h fun va h₁ => ev G i σ h₁ fun vi h₂ => subW G va vi h₂ Q
  | .take a e, σ, h, Q => ev G a σ h fun va h₁ => ev G e σ h₁ fun vi h₂ => ofL va h₂ fun xs => natI vi fun k => alloc (.list (xs.take k)) h₂ Q
  | .drop a e, σ, h, Q => ev G a σ h fun va h₁ => ev G e σ h₁ fun vi h₂ => ofL va h₂ fun xs => natI vi fun k => alloc (.list (xs.drop k)) h₂ Q
  | .dict0, _, h, Q => ∀ a, h a = Option.none → a ≠ 1 → Q (.ref a) (h.set a (.dict []))
  | .getd a k d, σ, h, Q => ev G a σ h fun va h₁ => isD va h₁ ∧ ev G k σ h₁ fun vk h₂ => ev G d σ h₂ fun vd h₃ => getdW va vk vd h₃ Q
  | .list es, σ, h, Q => evs G es σ h fun vs h₁ => alloc (.list vs) h₁ Q
  | .tup es, σ, h, Q => evs G es σ h fun vs h₁ => alloc (.tup vs) h₁ Q
  | .call f es, σ, h, Q => evs G es σ h fun vs h₁ => G.Γ f vs h₁ Q
  | .bfn f es, σ, h, Q => evs G es σ h fun vs h₁ => bfnW G f vs h₁ Q
  | .meth a m es, σ, h, Q => ev G a σ h fun va h₁ => isL va h₁ ∧ evs G es σ h₁ fun vs h₂ => methW m va vs h₂ Q
  | .comp elt t src ifs, σ, h, Q => evSrc G src σ h fun xs k h₁ =>
      compW (fun v h K => tgW t v σ h fun σ' => condAnd G ifs σ' h fun b h' => if b then ev G elt σ' h' fun w h'' => K (some w) h'' else K Option.none h') k xs [] h₁
        fun ys h₂ => stays k h₂ ∧ alloc (.list ys) h₂ Q
noncomputable def evs (G : Par) : PEs → Env → H → (List V → H → Prop) → Prop
  | .nil, _, h, Q => Q [] h
  | .cons e r, σ, h, Q => ev G e σ h fun v h₁ => evs G r σ h₁ fun vs h₂ => Q (v :: vs) h₂
noncomputable def evAnd (G : Par) : PEs → Env → H → (V → H → Prop) → Prop
  | .nil, _, _, _ => False
  | .cons e .nil, σ, h, Q => ev G e σ h Q
  | .cons e r, σ, h, Q => ev G e σ h fun v h₁ => truth v fun b => if b then evAnd G r σ h₁ Q else Q v h₁
noncomputable def evOr (G : Par) : PEs → Env → H → (V → H → Prop) → Prop
  | .nil, _, _, _ => False
  | .cons e .nil, σ, h, Q => ev G e σ h Q
  | .cons e r, σ, h, Q => ev G e σ h fun v h₁ => truth v fun b => if b then Q v h₁ else evOr G r σ h₁ Q
noncomputable def cond (G : Par) : PE → Env → H → (Bool → H → Prop) → Prop
  | .not a, σ, h, Q => cond G a σ h fun b h₁ => Q (!b) h₁
  | .band es, σ, h, Q => condAnd G es σ h Q
  | .bor es, σ, h, Q => condOr G es σ h Q
  | .cmp op a b, σ, h, Q => ev G a σ h fun va h₁ => ev G b σ h₁ fun vb h₂ => cmpop op va vb h₂ fun v h₃ => truth v fun r => Q r h₃
  | .none, _, _, _ => False
  | .bool b, _, h, Q => Q b h
  | .int _, _, _, _ => False
  | .ty _, _, _, _ => False
  | .var x, σ, h, Q => (match σ x with
    | some v => truth v fun b => Q b h
    | Option.none => False)
  | .glob _, _, _, _ => False
  | .bin _ _ _, _, _, _ => False
  | .neg _, _, _, _ => False
  | .sub a i, σ, h, Q => ev G a σ h fun va h₁ => ev G i σ h₁ fun vi h₂ => subW G va vi h₂ fun v h₃ => truth v fun r => Q r h₃
  | .take _ _, _, _, _ => False
  | .drop _ _, _, _, _ => False
  | .dict0, _, _, _ => False
  | .getd _ _ _, _, _, _ => False
  | .list _, _, _, _ => False
  | .tup _, _, _, _ => False
  | .call f es, σ, h, Q => evs G es σ h fun vs h₁ => G.Γ f vs h₁ fun v h₂ => truth v fun r => Q r h₂
  | .bfn f es, σ, h, Q => evs G es σ h fun vs h₁ => bfnW G f vs h₁ fun v h₂ => truth v fun r => Q r h₂
  | .meth _ _ _, _, _, _ => False
  | .comp _ _ _ _, _, _, _ => False
noncomputable def condAnd (G : Par) : PEs → Env → H → (Bool → H → Prop) → Prop
  | .nil, _, h, Q => Q true h
  | .cons e r, σ, h, Q => cond G e σ h fun b h₁ => if b then condAnd G r σ h₁ Q else Q false h₁
noncomputable def condOr (G : Par) : PEs → Env → H → (Bool → H → Prop) → Prop
  | .nil, _, h, Q => Q false h
  | .cons e r, σ, h, Q => cond G e σ h fun b h₁ => if b then Q true h₁ else condOr G r σ h₁ Q
noncomputable def evSrc (G : Par) : Src → Env → H → SrcK → Prop
  | .up a, σ, h, K => ev G a σ h fun va h₁ => (match va with
    | .int n => inLim n ∧ K ((upTo 0 n).map .int) Option.none h₁
    | _ => False)
  | .fromTo a b, σ, h, K => ev G a σ h fun va h₁ => ev G b σ h₁ fun vb h₂ => (match va, vb with
    | .int m, .int n => inLim m ∧ inLim n ∧ K ((upTo m n).map .int) Option.none h₂
    | _, _ => False)
  | .seq e, σ, h, K => ev G e σ h fun va h₁ => (match va with
    | .ref a => (match h₁ a with
      | some (.list xs) => K xs (some (a, xs)) h₁
      | _ => False)
    | _ => False)
end

noncomputable def storeAll (G : Par) : List Lv → List V → Env → H → (Env → H → Prop) → Prop
  | [], vs, σ, h, Q => (match vs with
    | [] => Q σ h
    | _ => False)
  | l :: ls, vs, σ, h, Q => (match vs with
    | [] => False
    | v :: vs => (match l with
      | .tg (.name x) => storeAll G ls vs (upd σ x v) h Q
      | .sub a i => ev G a σ h fun va h₁ => ev G i σ h₁ fun vi h₂ => setSub va vi v h₂ fun h₃ => storeAll G ls vs σ h₃ Q))

mutual
noncomputable def exec (G : Par) : PS → Env → H → (Flow → Env → H → Prop) → Prop
  | .assign (.tg t) e, σ, h, Q => ev G e σ h fun v h₁ => tgW t v σ h₁ fun σ' => Q .next σ' h₁
  | .assign (.sub a i) e, σ, h, Q => ev G e σ h fun v h₁ => ev G a σ h₁ fun va h₂ => ev G i σ h₂ fun vi h₃ => setSub va vi v h₃ fun h₄ => Q .next σ h₄
  | .unp ls e, σ, h, Q => ev G e σ h fun v h₁ => ofU v h₁ fun vs => vs.length = ls.length ∧ storeAll G ls vs σ h₁ fun σ' h' => Q .next σ' h'
  | .expr e, σ, h, Q => ev G e σ h fun v h₁ => (match v with
    | .none => Q .next σ h₁
    | _ => False)
  | .ite c a b, σ, h, Q => cond G c σ h fun r h₁ => if r then execs G a σ h₁ Q else execs G b σ h₁ Q
  | .whl c b, σ, h, Q => ∃ n, whileW (fun σ h K => cond G c σ h K) (fun σ h K => execs G b σ h K) n σ h Q
  | .fr t src b, σ, h, Q => evSrc G src σ h fun xs k h₁ => forW (fun v σ h K => tgW t v σ h fun σ' => execs G b σ' h K) k xs σ h₁ Q
  | .ret e, σ, h, Q => ev G e σ h fun v h₁ => Q (.ret v) σ h₁
  | .stop, _, _, _ => False
noncomputable def execs (G : Par) : PSs → Env → H → (Flow → Env → H → Prop) → Prop
  | .nil, σ, h, Q => Q .next σ h
  | .cons s r, σ, h, Q => exec G s σ h fun f σ' h' => match f with
    | .next => execs G r σ' h' Q
    | .ret v => Q (.ret v) σ' h'
end

structure Fn where
  params : List String
  body : PSs

noncomputable def bindP : List String → List V → Env
  | x :: xs, v :: vs => upd (bindP xs vs) x v
  | _, _ => fun _ => Option.none

noncomputable def runFn (G : Par) (f : Fn) (vs : List V) (h : H) (Q : V → H → Prop) : Prop :=
  f.params.length = vs.length ∧ execs G f.body (bindP f.params vs) h fun fl _ h' => Q (match fl with | .ret v => v | .next => .none) h'

/-- the newest first: a def calls those beneath it -/
noncomputable def table (ns : List Int) (gc : String → Option V) : List (String × Fn) → String → List V → H → (V → H → Prop) → Prop
  | [], _, _, _, _ => False
  | (f, d) :: r, g, vs, h, Q => if g = f then runFn ⟨ns, gc, table ns gc r⟩ d vs h Q else table ns gc r g vs h Q

end MP

end
section
/-! The rules of the small language, one by one (printed by a program of mine). -/
namespace MP
theorem r_ev_none {G : Par} {σ : Env} {h : H} {Q : V → H → Prop} : ev G .none σ h Q = (Q .none h) := rfl
theorem r_ev_bool {G : Par} {σ : Env} {h : H} {Q : V → H → Prop} {b} : ev G (.bool b) σ h Q = (Q (.bool b) h) := rfl
theorem r_ev_int {G : Par} {σ : Env} {h : H} {Q : V → H → Prop} {i} : ev G (.int i) σ h Q = (Q (.int i) h) := rfl
theorem r_ev_ty {G : Par} {σ : Env} {h : H} {Q : V → H → Prop} {t} : ev G (.ty t) σ h Q = (Q (.ty t) h) := rfl
theorem r_ev_var {G : Par} {σ : Env} {h : H} {Q : V → H → Prop} {x} : ev G (.var x) σ h Q = ((match σ x with
    | some v => Q v h
    | Option.none => False)) := rfl
theorem r_ev_glob {G : Par} {σ : Env} {h : H} {Q : V → H → Prop} {x} : ev G (.glob x) σ h Q = ((match G.gc x with
    | some v => Q v h
    | Option.none => False)) := rfl
theorem r_ev_bin {G : Par} {σ : Env} {h : H} {Q : V → H → Prop} {op a b} : ev G (.bin op a b) σ h Q = (ev G a σ h fun va h₁ => ev G b σ h₁ fun vb h₂ => binop op va vb h₂ Q) := rfl
theorem r_ev_neg {G : Par} {σ : Env} {h : H} {Q : V → H → Prop} {a} : ev G (.neg a) σ h Q = (ev G a σ h fun va h₁ => negW va h₁ Q) := rfl
theorem r_ev_not {G : Par} {σ : Env} {h : H} {Q : V → H → Prop} {a} : ev G (.not a) σ h Q = (ev G a σ h fun va h₁ => truth va fun b => Q (.bool (!b)) h₁) := rfl
theorem r_ev_cmp {G : Par} {σ : Env} {h : H} {Q : V → H → Prop} {op a b} : ev G (.cmp op a b) σ h Q = (ev G a σ h fun va h₁ => ev G b σ h₁ fun vb h₂ => cmpop op va vb h₂ Q) := rfl
theorem r_ev_band {G : Par} {σ : Env} {h : H} {Q : V → H → Prop} {es} : ev G (.band es) σ h Q = (evAnd G es σ h Q) := rfl
theorem r_ev_bor {G : Par} {σ : Env} {h : H} {Q : V → H → Prop} {es} : ev G (.bor es) σ h Q = (evOr G es σ h Q) := rfl
theorem r_ev_sub {G : Par} {σ : Env} {h : H} {Q : V → H → Prop} {a i} : ev G (.sub a i) σ h Q = (ev G a σ h fun va h₁ => ev G i σ h₁ fun vi h₂ => subW G va vi h₂ Q) := rfl
theorem r_ev_take {G : Par} {σ : Env} {h : H} {Q : V → H → Prop} {a e} : ev G (.take a e) σ h Q = (ev G a σ h fun va h₁ => ev G e σ h₁ fun vi h₂ => ofL va h₂ fun xs => natI vi fun k => alloc (.list (xs.take k)) h₂ Q) := rfl
theorem r_ev_drop {G : Par} {σ : Env} {h : H} {Q : V → H → Prop} {a e} : ev G (.drop a e) σ h Q = (ev G a σ h fun va h₁ => ev G e σ h₁ fun vi h₂ => ofL va h₂ fun xs => natI vi fun k => alloc (.list (xs.drop k)) h₂ Q) := rfl
theorem r_ev_dict0 {G : Par} {σ : Env} {h : H} {Q : V → H → Prop} : ev G .dict0 σ h Q = (∀ a, h a = Option.none → a ≠ 1 → Q (.ref a) (h.set a (.dict []))) := rfl
theorem r_ev_getd {G : Par} {σ : Env} {h : H} {Q : V → H → Prop} {a k d} : ev G (.getd a k d) σ h Q = (ev G a σ h fun va h₁ => isD va h₁ ∧ ev G k σ h₁ fun vk h₂ => ev G d σ h₂ fun vd h₃ => getdW va vk vd h₃ Q) := rfl
theorem r_ev_list {G : Par} {σ : Env} {h : H} {Q : V → H → Prop} {es} : ev G (.list es) σ h Q = (evs G es σ h fun vs h₁ => alloc (.list vs) h₁ Q) := rfl
theorem r_ev_tup {G : Par} {σ : Env} {h : H} {Q : V → H → Prop} {es} : ev G (.tup es) σ h Q = (evs G es σ h fun vs h₁ => alloc (.tup vs) h₁ Q) := rfl
theorem r_ev_call {G : Par} {σ : Env} {h : H} {Q : V → H → Prop} {f es} : ev G (.call f es) σ h Q = (evs G es σ h fun vs h₁ => G.Γ f vs h₁ Q) := rfl
theorem r_ev_bfn {G : Par} {σ : Env} {h : H} {Q : V → H → Prop} {f es} : ev G (.bfn f es) σ h Q = (evs G es σ h fun vs h₁ => bfnW G f vs h₁ Q) := rfl
theorem r_ev_meth {G : Par} {σ : Env} {h : H} {Q : V → H → Prop} {a m es} : ev G (.meth a m es) σ h Q = (ev G a σ h fun va h₁ => isL va h₁ ∧ evs G es σ h₁ fun vs h₂ => methW m va vs h₂ Q) := rfl
theorem r_ev_comp {G : Par} {σ : Env} {h : H} {Q : V → H → Prop} {elt t src ifs} : ev G (.comp elt t src ifs) σ h Q = (evSrc G src σ h fun xs k h₁ =>
      compW (fun v h K => tgW t v σ h fun σ' => condAnd G ifs σ' h fun b h' => if b then ev G elt σ' h' fun w h'' => K (some w) h'' else K Option.none h') k xs [] h₁
        fun ys h₂ => stays k h₂ ∧ alloc (.list ys) h₂ Q) := rfl
theorem r_evs_nil {G : Par} {σ : Env} {h : H} {Q : List V → H → Prop} : evs G .nil σ h Q = (Q [] h) := rfl
theorem r_evs_cons {G : Par} {σ : Env} {h : H} {Q : List V → H → Prop} {e r} : evs G (.cons e r) σ h Q = (ev G e σ h fun v h₁ => evs G r σ h₁ fun vs h₂ => Q (v :: vs) h₂) := rfl
theorem r_cond_not {G : Par} {σ : Env} {h : H} {Q : Bool → H → Prop} {a} : cond G (.not a) σ h Q = (cond G a σ h fun b h₁ => Q (!b) h₁) := rfl
theorem r_cond_band {G : Par} {σ : Env} {h : H} {Q : Bool → H → Prop} {es} : cond G (.band es) σ h Q = (condAnd G es σ h Q) := rfl
theorem r_cond_bor {G : Par} {σ : Env} {h : H} {Q : Bool → H → Prop} {es} : cond G (.bor es) σ h Q = (condOr G es σ h Q) := rfl
theorem r_cond_cmp {G : Par} {σ : Env} {h : H} {Q : Bool → H → Prop} {op a b} : cond G (.cmp op a b) σ h Q = (ev G a σ h fun va h₁ => ev G b σ h₁ fun vb h₂ => cmpop op va vb h₂ fun v h₃ => truth v fun r => Q r h₃) := rfl
theorem r_cond_none {G : Par} {σ : Env} {h : H} {Q : Bool → H → Prop} : cond G .none σ h Q = (False) := rfl
theorem r_cond_bool {G : Par} {σ : Env} {h : H} {Q : Bool → H → Prop} {b} : cond G (.bool b) σ h Q = (Q b h) := rfl
theorem r_cond_int {G : Par} {σ : Env} {h : H} {Q : Bool → H → Prop} {z1} : cond G (.int z1) σ h Q = (False) := rfl
theorem r_cond_ty {G : Par} {σ : Env} {h : H} {Q : Bool → H → Prop} {z1} : cond G (.ty z1) σ h Q = (False) := rfl
theorem r_cond_var {G : Par} {σ : Env} {h : H} {Q : Bool → H → Prop} {x} : cond G (.var x) σ h Q = ((match σ x with
    | some v => truth v fun b => Q b h
    | Option.none => False)) := rfl
theorem r_cond_glob {G : Par} {σ : Env} {h : H} {Q : Bool → H → Prop} {z1} : cond G (.glob z1) σ h Q = (False) := rfl
theorem r_cond_bin {G : Par} {σ : Env} {h : H} {Q : Bool → H → Prop} {z1 z2 z3} : cond G (.bin z1 z2 z3) σ h Q = (False) := rfl
theorem r_cond_neg {G : Par} {σ : Env} {h : H} {Q : Bool → H → Prop} {z1} : cond G (.neg z1) σ h Q = (False) := rfl
theorem r_cond_sub {G : Par} {σ : Env} {h : H} {Q : Bool → H → Prop} {a i} : cond G (.sub a i) σ h Q = (ev G a σ h fun va h₁ => ev G i σ h₁ fun vi h₂ => subW G va vi h₂ fun v h₃ => truth v fun r => Q r h₃) := rfl
theorem r_cond_list {G : Par} {σ : Env} {h : H} {Q : Bool → H → Prop} {z1} : cond G (.list z1) σ h Q = (False) := rfl
theorem r_cond_tup {G : Par} {σ : Env} {h : H} {Q : Bool → H → Prop} {z1} : cond G (.tup z1) σ h Q = (False) := rfl
theorem r_cond_call {G : Par} {σ : Env} {h : H} {Q : Bool → H → Prop} {f es} : cond G (.call f es) σ h Q = (evs G es σ h fun vs h₁ => G.Γ f vs h₁ fun v h₂ => truth v fun r => Q r h₂) := rfl
theorem r_cond_bfn {G : Par} {σ : Env} {h : H} {Q : Bool → H → Prop} {f es} : cond G (.bfn f es) σ h Q = (evs G es σ h fun vs h₁ => bfnW G f vs h₁ fun v h₂ => truth v fun r => Q r h₂) := rfl
theorem r_cond_meth {G : Par} {σ : Env} {h : H} {Q : Bool → H → Prop} {z1 z2 z3} : cond G (.meth z1 z2 z3) σ h Q = (False) := rfl
theorem r_cond_comp {G : Par} {σ : Env} {h : H} {Q : Bool → H → Prop} {z1 z2 z3 z4} : cond G (.comp z1 z2 z3 z4) σ h Q = (False) := rfl
theorem r_condAnd_nil {G : Par} {σ : Env} {h : H} {Q : Bool → H → Prop} : condAnd G .nil σ h Q = (Q true h) := rfl
theorem r_condAnd_cons {G : Par} {σ : Env} {h : H} {Q : Bool → H → Prop} {e r} : condAnd G (.cons e r) σ h Q = (cond G e σ h fun b h₁ => if b then condAnd G r σ h₁ Q else Q false h₁) := rfl
theorem r_condOr_nil {G : Par} {σ : Env} {h : H} {Q : Bool → H → Prop} : condOr G .nil σ h Q = (Q false h) := rfl
theorem r_condOr_cons {G : Par} {σ : Env} {h : H} {Q : Bool → H → Prop} {e r} : condOr G (.cons e r) σ h Q = (cond G e σ h fun b h₁ => if b then Q true h₁ else condOr G r σ h₁ Q) := rfl
theorem r_evSrc_up {G : Par} {σ : Env} {h : H} {K : SrcK} {a} : evSrc G (.up a) σ h K = (ev G a σ h fun va h₁ => (match va with
    | .int n => inLim n ∧ K ((upTo 0 n).map .int) Option.none h₁
    | _ => False)) := rfl
theorem r_evSrc_fromTo {G : Par} {σ : Env} {h : H} {K : SrcK} {a b} : evSrc G (.fromTo a b) σ h K = (ev G a σ h fun va h₁ => ev G b σ h₁ fun vb h₂ => (match va, vb with
    | .int m, .int n => inLim m ∧ inLim n ∧ K ((upTo m n).map .int) Option.none h₂
    | _, _ => False)) := rfl
theorem r_evSrc_seq {G : Par} {σ : Env} {h : H} {K : SrcK} {e} : evSrc G (.seq e) σ h K = (ev G e σ h fun va h₁ => (match va with
    | .ref a => (match h₁ a with
      | some (.list xs) => K xs (some (a, xs)) h₁
      | _ => False)
    | _ => False)) := rfl
theorem r_exec_assign_tg {G : Par} {σ : Env} {h : H} {Q : Flow → Env → H → Prop} {t e} : exec G (.assign (.tg t) e) σ h Q = (ev G e σ h fun v h₁ => tgW t v σ h₁ fun σ' => Q .next σ' h₁) := rfl
theorem r_exec_assign_sub {G : Par} {σ : Env} {h : H} {Q : Flow → Env → H → Prop} {a i e} : exec G (.assign (.sub a i) e) σ h Q = (ev G e σ h fun v h₁ => ev G a σ h₁ fun va h₂ => ev G i σ h₂ fun vi h₃ => setSub va vi v h₃ fun h₄ => Q .next σ h₄) := rfl
theorem r_exec_unp {G : Par} {σ : Env} {h : H} {Q : Flow → Env → H → Prop} {ls e} : exec G (.unp ls e) σ h Q = (ev G e σ h fun v h₁ => ofU v h₁ fun vs => vs.length = ls.length ∧ storeAll G ls vs σ h₁ fun σ' h' => Q .next σ' h') := rfl
theorem r_exec_expr {G : Par} {σ : Env} {h : H} {Q : Flow → Env → H → Prop} {e} : exec G (.expr e) σ h Q = (ev G e σ h fun v h₁ => (match v with
    | .none => Q .next σ h₁
    | _ => False)) := rfl
theorem r_exec_ite {G : Par} {σ : Env} {h : H} {Q : Flow → Env → H → Prop} {c a b} : exec G (.ite c a b) σ h Q = (cond G c σ h fun r h₁ => if r then execs G a σ h₁ Q else execs G b σ h₁ Q) := rfl
theorem r_exec_whl {G : Par} {σ : Env} {h : H} {Q : Flow → Env → H → Prop} {c b} : exec G (.whl c b) σ h Q = (∃ n, whileW (fun σ h K => cond G c σ h K) (fun σ h K => execs G b σ h K) n σ h Q) := rfl
theorem r_exec_fr {G : Par} {σ : Env} {h : H} {Q : Flow → Env → H → Prop} {t src b} : exec G (.fr t src b) σ h Q = (evSrc G src σ h fun xs k h₁ => forW (fun v σ h K => tgW t v σ h fun σ' => execs G b σ' h K) k xs σ h₁ Q) := rfl
theorem r_exec_ret {G : Par} {σ : Env} {h : H} {Q : Flow → Env → H → Prop} {e} : exec G (.ret e) σ h Q = (ev G e σ h fun v h₁ => Q (.ret v) σ h₁) := rfl
theorem r_execs_nil {G : Par} {σ : Env} {h : H} {Q : Flow → Env → H → Prop} : execs G .nil σ h Q = (Q .next σ h) := rfl
theorem r_execs_cons {G : Par} {σ : Env} {h : H} {Q : Flow → Env → H → Prop} {s r} : execs G (.cons s r) σ h Q = (exec G s σ h fun f σ' h' => match f with
    | .next => execs G r σ' h' Q
    | .ret v => Q (.ret v) σ' h') := rfl
end MP

end
section
/-! How the small language's state lies in the machine's. -/
namespace MP
open PySem PyProof.Rows

theorem map_toNat_inj : ∀ {a b : List Char}, a.map Char.toNat = b.map Char.toNat → a = b
  | [], [], _ => rfl
  | [], _ :: _, h => by simp at h
  | _ :: _, [], h => by simp at h
  | x :: a, y :: b, h => by
    simp only [List.map_cons, List.cons.injEq] at h
    have h1 : x = y := Char.ext (UInt32.toNat_inj.mp h.1)
    rw [h1, map_toNat_inj h.2]
theorem ofString_inj {a b : String} (h : Str.ofString a = Str.ofString b) : a = b := by
  rw [Str.ofString_eq_toList, Str.ofString_eq_toList] at h
  have h2 : (a.toList.map Char.toNat) = b.toList.map Char.toNat := by
    have := congrArg (fun x : Str => x.cps.toList) h
    simpa using this
  exact String.toList_inj.mp (map_toNat_inj h2)

/-- what stays the same throughout a call of the law -/
structure KK where
  scr : PySem.Addr
  os : OsState
  base : Heap
  mg : Str → Option Value
  mb : Str → Option Value
  ns : List Int
  gc : String → Option V
  fns : List String
  /-- the frames that stand, the newest first -/
  fl : List PySem.Env

inductive VR (K : KK) : V → Value → Prop
  | none : VR K .none .none
  | bool (b : Bool) : VR K (.bool b) (.bool b)
  | int (i : Int) (t : Tok) : VR K (.int i) (.int i t)
  | ref (a : Nat) : VR K (.ref a) (.ref a)
  | scr : VR K .scr (.ref K.scr)
  | ty (t : String) : VR K (.ty t) (.type t)

inductive VRs (K : KK) : List V → List Value → Prop
  | nil : VRs K [] []
  | cons {v : V} {r : Value} {vs : List V} {rs : List Value} : VR K v r → VRs K vs rs → VRs K (v :: vs) (r :: rs)

section
variable {K : KK}
theorem VRs.length {vs : List V} {rs : List Value} (h : VRs K vs rs) : vs.length = rs.length := by
  induction h with
  | nil => rfl
  | cons _ _ ih => simp [ih]
theorem VRs.append {vs ws : List V} {rs ts : List Value} (h : VRs K vs rs) (h' : VRs K ws ts) : VRs K (vs ++ ws) (rs ++ ts) := by
  induction h with
  | nil => exact h'
  | cons a _ ih => exact .cons a ih
theorem VRs.one {v : V} {r : Value} (h : VR K v r) : VRs K [v] [r] := .cons h .nil
theorem VRs.reverse {vs : List V} {rs : List Value} (h : VRs K vs rs) : VRs K vs.reverse rs.reverse := by
  induction h with
  | nil => exact .nil
  | cons a _ ih => simp only [List.reverse_cons]; exact ih.append (.one a)
theorem VRs.get {vs : List V} {rs : List Value} (h : VRs K vs rs) : ∀ {i : Nat} {v : V}, vs[i]? = some v → ∃ r, rs[i]? = some r ∧ VR K v r := by
  induction h with
  | nil => intro i v e; simp at e
  | cons a _ ih =>
    intro i v e
    cases i with
    | zero => simp at e; subst e; exact ⟨_, rfl, a⟩
    | succ i => simp at e; simpa using ih e
theorem VRs.get_none {vs : List V} {rs : List Value} (h : VRs K vs rs) {i : Nat} (e : vs[i]? = Option.none) : rs[i]? = Option.none := by
  rw [List.getElem?_eq_none_iff] at *; rw [← h.length]; exact e
theorem VRs.set {vs : List V} {rs : List Value} (h : VRs K vs rs) {v : V} {r : Value} (hv : VR K v r) : ∀ (i : Nat), VRs K (vs.set i v) (rs.set i r) := by
  induction h with
  | nil => intro i; simp; exact .nil
  | cons a b ih =>
    intro i
    cases i with
    | zero => simp; exact .cons hv b
    | succ i => simp; exact .cons a (ih i)
end

noncomputable def O.isMut : O → Bool
  | .dict _ => true
  | .list _ => true
  | .tup _ => false

noncomputable abbrev listOb (items : Array Value) (n : Nat) : Obj := { cls := .type "list", dict := none, data := .seq items n, slots := #[] }
noncomputable abbrev tupOb (items : Array Value) (n : Nat) : Obj := { cls := .type "tuple", dict := none, data := .seq items n, slots := #[] }

/-- an entry of a dict -/
noncomputable def ent (x : List Int × PySem.Addr × Value) : DictEntry := ⟨reduceHash (Builtin.Tuple.tupleHashOf (x.1.map hashInt)), .ref x.2.1, x.2.2⟩
noncomputable abbrev dictOb (es : Array DictEntry) (ep : Nat) : Obj := { cls := .type "dict", dict := none, data := .dict es ep, slots := #[] }
inductive XR : List ((Int × Int) × Nat × Int) → List (List Int × PySem.Addr × Value) → Prop
  | nil : XR [] []
  | cons {p : Int × Int} {a : Nat} {v : Int} {t : Tok} {kvs : List ((Int × Int) × Nat × Int)} {xs : List (List Int × PySem.Addr × Value)} : XR kvs xs → XR ((p, a, v) :: kvs) (([p.1, p.2], a, .int v t) :: xs)

inductive OR (K : KK) : O → Obj → Prop
  | dict {kvs : List ((Int × Int) × Nat × Int)} {xs : List (List Int × PySem.Addr × Value)} {es : Array DictEntry} {ep : Nat} : XR kvs xs → es.toList = xs.map ent → (xs.map (·.1)).Nodup → kvs.length ≤ lim → OR K (.dict kvs) (dictOb es ep)
  | list {xs : List V} {items : Array Value} {n : Nat} : VRs K xs items.toList → xs.length ≤ lim → OR K (.list xs) (listOb items n)
  | tup {xs : List V} {items : Array Value} {n : Nat} : VRs K xs items.toList → xs.length ≤ lim → OR K (.tup xs) (tupOb items n)

theorem OR.data {K : KK} {o : O} {ob : Obj} (h : OR K o ob) : (∃ items n, ob.data = .seq items n) ∨ ∃ es n, ob.data = .dict es n := by
  cases h
  · exact .inr ⟨_, _, rfl⟩
  · exact .inl ⟨_, _, rfl⟩
  · exact .inl ⟨_, _, rfl⟩
theorem OR.dataL {K : KK} {xs : List V} {ob : Obj} (h : OR K (.list xs) ob) : ∃ items n, ob.data = .seq items n := by
  cases h; exact ⟨_, _, rfl⟩

/-- no list or the like of ours lies there -/
noncomputable def NM (h : H) (a : Nat) : Prop := ∀ o, h a = some o → o.isMut = false

noncomputable abbrev Prt := PySem.Addr → Option Obj

/-- the same, but for the slots of a namespace -/
noncomputable def Sim (o o' : Obj) : Prop := o' = o ∨ ((∃ es n, o.data = .dict es n) ∧ ∃ sl, o' = { o with slots := sl })
theorem Sim.refl (o : Obj) : Sim o o := .inl rfl
theorem Sim.trans {a b c : Obj} (x : Sim a b) (y : Sim b c) : Sim a c := by
  rcases x with rfl | ⟨h1, sl, rfl⟩
  · exact y
  · rcases y with rfl | ⟨_, sl', rfl⟩
    · exact .inr ⟨h1, sl, rfl⟩
    · exact .inr ⟨h1, sl', rfl⟩
theorem Sim.data {a b : Obj} (x : Sim a b) : b.data = a.data := by
  rcases x with rfl | ⟨_, _, rfl⟩ <;> rfl
theorem Sim.eq {a b : Obj} (x : Sim a b) (h : ∀ es n, a.data ≠ .dict es n) : b = a := by
  rcases x with rfl | ⟨⟨es, n, h1⟩, _⟩
  · rfl
  · exact absurd h1 (h es n)
/-- a frame's namespace stands -/
noncomputable def FrAt (base h : Heap) (e : PySem.Env) : Prop := e.scope.kind = .function ∧ ∃ L m, e.frame = some L ∧ base.get? L = none ∧ h.Ns L m

structure Rel (K : KK) (P : Prt) (h : H) (s : Shared) : Prop where
  sub : ∀ b o, K.base.get? b = some o → P b = some o
  base : ∀ b o, K.base.get? b = some o → s.heap.get? b = some o
  keep : ∀ b o, P b = some o → ∃ o', s.heap.get? b = some o' ∧ Sim o o'
  frs : ∀ e ∈ K.fl, FrAt K.base s.heap e
  frm : ∀ e ∈ K.fl, ∀ L, e.frame = some L → NM h L
  objs : ∀ a o, h a = some o → ∃ ob, s.heap.get? a = some ob ∧ OR K o ob ∧ (o.isMut = true → P a = none)
  os : s.os = K.os
  gens : AllBare s.gens

noncomputable def isCF (k : Option NameKind) : Prop := k = some .cell ∨ k = some .free

structure FR (K : KK) (P : Prt) (own : Str → Bool) (env : PySem.Env) (σ : Env) (h : H) (s : Shared) : Prop where
  kind : env.scope.kind = .function
  glb : env.globals = mainGlobals
  bui : env.builtins = builtinsNs
  loc : ∃ m, s.heap.Ns env.locals m ∧ ∀ (x : String) v, x ≠ ".0" → σ x = some v → env.kindOf (Str.ofString x) = some .local → ∃ rv, m (Str.ofString x) = some rv ∧ VR K v rv
  locP : P env.locals = none
  locM : NM h env.locals
  cells : ∀ n, isCF (env.kindOf n) → ∃ c ov, env.cells.lookup n = some c ∧ s.heap.IsCell c ov ∧ (∀ (x : String) v, n = Str.ofString x → σ x = some v → ∃ rv, ov = some rv ∧ VR K v rv) ∧ (own n = true → P c = none)
  apart : ∀ n n' c, isCF (env.kindOf n) → isCF (env.kindOf n') → env.cells.lookup n = some c → env.cells.lookup n' = some c → n = n'

structure St (K : KK) (P : Prt) (own : Str → Bool) (env : PySem.Env) (σ : Env) (h : H) (s : Shared) : Prop where
  rel : Rel K P h s
  fr : FR K P own env σ h s

/-- nothing old is changed -/
structure Grown (s s' : Shared) : Prop where
  heap : ∀ b o, s.heap.get? b = some o → s'.heap.get? b = some o
  os : s'.os = s.os
  gens : s'.gens = s.gens

theorem Grown.refl (s : Shared) : Grown s s := ⟨fun _ _ e => e, rfl, rfl⟩
theorem Grown.trans {a b c : Shared} (x : Grown a b) (y : Grown b c) : Grown a c := ⟨fun _ _ e => y.heap _ _ (x.heap _ _ e), y.os.trans x.os, y.gens.trans x.gens⟩
theorem Grown.tok (s : Shared) (t : Nat) : Grown s { s with toks := t } := ⟨fun _ _ e => e, rfl, rfl⟩
theorem Grown.push (s : Shared) (o : Obj) (t : Nat) : Grown s { s with heap := s.heap.push o, toks := t } := ⟨fun _ _ e => Heap.get?_push_of_some o e, rfl, rfl⟩
theorem Grown.push' (s : Shared) (o : Obj) : Grown s { s with heap := s.heap.push o } := ⟨fun _ _ e => Heap.get?_push_of_some o e, rfl, rfl⟩
theorem Grown.of {s : Shared} {h' : Heap} {t : Nat} (x : ∀ b o, s.heap.get? b = some o → h'.get? b = some o) : Grown s { s with heap := h', toks := t } := ⟨x, rfl, rfl⟩
theorem Grown.of' {s : Shared} {h' : Heap} (x : ∀ b o, s.heap.get? b = some o → h'.get? b = some o) : Grown s { s with heap := h' } := ⟨x, rfl, rfl⟩

section
variable {K : KK} {P : Prt} {own : Str → Bool} {env : PySem.Env} {σ : Env} {h : H} {s s' : Shared}

theorem FrAt.keeps {base h h' : Heap} {e : PySem.Env} (F : FrAt base h e) (k : ∀ b o, h.get? b = some o → h'.get? b = some o) : FrAt base h' e := by
  obtain ⟨h1, L, m, h2, h3, h4⟩ := F
  exact ⟨h1, L, m, h2, h3, h4.keeps k⟩
/-- all stays but I, and I is no namespace, or stays one -/
theorem FrAt.but {base h h' : Heap} {e : PySem.Env} (F : FrAt base h e) {I : Nat} (k : ∀ b o, b ≠ I → h.get? b = some o → h'.get? b = some o) (hI : ∀ m, h.Ns I m → ∃ m', h'.Ns I m') : FrAt base h' e := by
  obtain ⟨h1, L, m, h2, h3, h4⟩ := F
  by_cases q : L = I
  · subst q
    obtain ⟨m', h5⟩ := hI m h4
    exact ⟨h1, L, m', h2, h3, h5⟩
  · obtain ⟨o, es, ep, h5, h6⟩ := h4
    exact ⟨h1, L, m, h2, h3, o, es, ep, k _ _ q h5, h6⟩
theorem ns_not {h : Heap} {I : Nat} {ob : Obj} {m : Str → Option Value} (hI : h.get? I = some ob) (hd : ∀ es n, ob.data ≠ .dict es n) (hn : h.Ns I m) {p : Prop} : p := by
  obtain ⟨o, es, ep, h1, h2, _⟩ := hn
  rw [hI] at h1; cases h1; exact absurd h2 (hd _ _)

theorem Rel.grow (R : Rel K P h s) (g : Grown s s') : Rel K P h s' :=
  ⟨R.sub, fun b o e => g.heap _ _ (R.base b o e), fun b o e => let ⟨o', h1, h2⟩ := R.keep b o e; ⟨o', g.heap _ _ h1, h2⟩, fun e he => (R.frs e he).keeps g.heap, R.frm, fun a o e => let ⟨ob, h1, h2⟩ := R.objs a o e; ⟨ob, g.heap _ _ h1, h2⟩, g.os.trans R.os, g.gens ▸ R.gens⟩
theorem FR.grow (F : FR K P own env σ h s) (g : Grown s s') : FR K P own env σ h s' :=
  ⟨F.kind, F.glb, F.bui, let ⟨m, h1, h2⟩ := F.loc; ⟨m, h1.keeps g.heap, h2⟩, F.locP, F.locM, fun n hn => let ⟨c, ov, h1, h2, h3⟩ := F.cells n hn; ⟨c, ov, h1, h2.keeps g.heap, h3⟩, F.apart⟩
theorem St.grow (X : St K P own env σ h s) (g : Grown s s') : St K P own env σ h s' := ⟨X.rel.grow g, X.fr.grow g⟩

theorem Rel.none_of (R : Rel K P h s) {a : Nat} (e : s.heap.get? a = none) : h a = Option.none := by
  cases q : h a with
  | none => rfl
  | some o => obtain ⟨ob, h1, _⟩ := R.objs a o q; rw [e] at h1; cases h1
theorem Rel.p_none_of (R : Rel K P h s) {a : Nat} (e : s.heap.get? a = none) : P a = none := by
  cases q : P a with
  | none => rfl
  | some o => obtain ⟨o', h1, _⟩ := R.keep a o q; rw [h1] at e; cases e
theorem Rel.fr_ne (R : Rel K P h s) {L : Nat} (hL : s.heap.get? L = none) : ∀ e ∈ K.fl, e.frame ≠ some L := fun e he q => by
  obtain ⟨_, L', m, h2, _, o, _, _, h5, _⟩ := R.frs e he
  rw [q] at h2; cases h2; rw [hL] at h5; cases h5
theorem fresh_none (hp : Heap) : hp.get? hp.objs.size = none := by
  cases q : hp.get? hp.objs.size with
  | none => rfl
  | some o => exact absurd (Heap.lt_size q) (Nat.lt_irrefl _)

theorem nm_set {h : H} {a L : Nat} {o : O} (hm : NM h L) (hne : L ≠ a) : NM (h.set a o) L := fun o' e => by
  unfold H.set at e; rw [if_neg hne] at e; exact hm o' e
/-- a new object -/
theorem St.add (X : St K P own env σ h s) {a : Nat} {o : O} {ob : Obj} (g : Grown s s') (ha : s.heap.get? a = none) (hb : s'.heap.get? a = some ob) (ho : OR K o ob) :
    h a = Option.none ∧ St K P own env σ (h.set a o) s' := by
  have hn := X.rel.none_of ha
  have Y := X.grow g
  refine ⟨hn, ⟨Y.rel.sub, Y.rel.base, Y.rel.keep, Y.rel.frs, fun e he L hL => nm_set (X.rel.frm e he L hL) (fun q => X.rel.fr_ne ha e he (q ▸ hL)), fun b o' e => ?_, Y.rel.os, Y.rel.gens⟩, ⟨Y.fr.kind, Y.fr.glb, Y.fr.bui, Y.fr.loc, Y.fr.locP, fun o' e => ?_, Y.fr.cells, Y.fr.apart⟩⟩
  · unfold H.set at e
    split at e
    · rename_i q; subst q; cases e; exact ⟨ob, hb, ho, fun _ => X.rel.p_none_of ha⟩
    · exact Y.rel.objs b o' e
  · unfold H.set at e
    split at e
    · rename_i q
      obtain ⟨m, hm, _⟩ := X.fr.loc
      obtain ⟨o1, _, _, h1, _⟩ := hm
      rw [q] at h1; rw [ha] at h1; cases h1
    · exact Y.fr.locM o' e

theorem St.addPush (X : St K P own env σ h s) {o : O} {ob : Obj} (ho : OR K o ob) (hf : ob.isFreed = false := by rfl) {t : Nat} :
    h s.heap.objs.size = Option.none ∧ St K P own env σ (h.set s.heap.objs.size o) { s with heap := s.heap.push ob, toks := t } :=
  X.add (Grown.push s ob t) (fresh_none _) (Heap.get?_push_size _ hf) ho

/-- what is neither ours nor guarded nor the frame's may change -/
theorem St.junk (X : St K P own env σ h s) {I : Nat} {ob : Obj} (hI : s.heap.get? I = some ob) (hd : ∃ fs, ob.data = .fields fs) (hP : P I = none)
    (hk : ∀ b o, b ≠ I → s.heap.get? b = some o → s'.heap.get? b = some o) (hos : s'.os = s.os) (hg : s'.gens = s.gens) : St K P own env σ h s' := by
  obtain ⟨fs, hd⟩ := hd
  have hB : ∀ b o, P b = some o → b ≠ I := fun b o e q => by rw [q, hP] at e; cases e
  refine ⟨⟨X.rel.sub, fun b o e => hk b o (hB b o (X.rel.sub b o e)) (X.rel.base b o e), fun b o e => let ⟨o', h1, h2⟩ := X.rel.keep b o e; ⟨o', hk b o' (hB b o e) h1, h2⟩, fun e he => (X.rel.frs e he).but hk fun m hn => ns_not hI (by rw [hd]; intros; simp) hn, X.rel.frm, fun a o e => ?_, hos.trans X.rel.os, hg ▸ X.rel.gens⟩,
    ⟨X.fr.kind, X.fr.glb, X.fr.bui, ?_, X.fr.locP, X.fr.locM, fun n hn => ?_, X.fr.apart⟩⟩
  · obtain ⟨ob', h1, h2, h3⟩ := X.rel.objs a o e
    refine ⟨ob', hk _ _ (fun q => ?_) h1, h2, h3⟩
    rw [q, hI] at h1; cases h1
    rcases h2.data with ⟨_, _, hq⟩ | ⟨_, _, hq⟩ <;> (rw [hd] at hq; cases hq)
  · obtain ⟨m, hm, hv⟩ := X.fr.loc
    refine ⟨m, ?_, hv⟩
    obtain ⟨o, es, ep, h1, h2, h3⟩ := hm
    refine ⟨o, es, ep, hk _ _ (fun q => ?_) h1, h2, h3⟩
    rw [q, hI] at h1; cases h1; rw [hd] at h2; cases h2
  · obtain ⟨c, ov, h1, h2, h3⟩ := X.fr.cells n hn
    refine ⟨c, ov, h1, ?_, h3⟩
    obtain ⟨o, h4, h5⟩ := h2
    refine ⟨o, hk _ _ (fun q => ?_) h4, h5⟩
    rw [q, hI] at h4; cases h4; rw [hd] at h5; cases h5

/-- a list of ours changes -/
theorem St.setList (X : St K P own env σ h s) {a : Nat} {xs : List V} {o : O} {ob : Obj} (ha : h a = some (.list xs)) (hm : o.isMut = true)
    (hk : ∀ b, b ≠ a → s'.heap.get? b = s.heap.get? b) (hb : s'.heap.get? a = some ob) (ho : OR K o ob) (hos : s'.os = s.os) (hg : s'.gens = s.gens) : St K P own env σ (h.set a o) s' := by
  obtain ⟨oa, g1, g2, g3⟩ := X.rel.objs a _ ha
  obtain ⟨its, nn, gd⟩ := g2.dataL
  have gP := g3 rfl
  have hB : ∀ b o, P b = some o → b ≠ a := fun b o e q => by rw [q, gP] at e; cases e
  refine ⟨⟨X.rel.sub, fun b o e => (hk b (hB b o (X.rel.sub b o e))).trans (X.rel.base b o e), fun b o e => let ⟨o', h1, h2⟩ := X.rel.keep b o e; ⟨o', (hk b (hB b o e)).trans h1, h2⟩, fun e he => (X.rel.frs e he).but (fun b o q e => (hk b q).trans e) fun m hn => ns_not g1 (by rw [gd]; intros; simp) hn, fun e he L hL => nm_set (X.rel.frm e he L hL) (fun q => by have := X.rel.frm e he L hL _ (q ▸ ha); cases this), fun b o' e => ?_, hos.trans X.rel.os, hg ▸ X.rel.gens⟩,
    ⟨X.fr.kind, X.fr.glb, X.fr.bui, ?_, X.fr.locP, fun o' e => ?_, fun n hn => ?_, X.fr.apart⟩⟩
  · unfold H.set at e
    split at e
    · rename_i q; subst q; cases e; exact ⟨ob, hb, ho, fun _ => gP⟩
    · rename_i q
      obtain ⟨ob', h1, h2⟩ := X.rel.objs b o' e
      exact ⟨ob', (hk b q).trans h1, h2⟩
  · obtain ⟨m, hm', hv⟩ := X.fr.loc
    refine ⟨m, ?_, hv⟩
    obtain ⟨o1, es, ep, h1, h2, h3⟩ := hm'
    refine ⟨o1, es, ep, (hk _ (fun q => ?_)).trans h1, h2, h3⟩
    rw [q, g1] at h1; cases h1; rw [gd] at h2; cases h2
  · unfold H.set at e
    split at e
    · rename_i q
      obtain ⟨m, hm', _⟩ := X.fr.loc
      obtain ⟨o1, es, ep, h1, h2, _⟩ := hm'
      rw [q, g1] at h1; cases h1; rw [gd] at h2; cases h2
    · exact X.fr.locM o' e
  · obtain ⟨c, ov, h1, h2, h3⟩ := X.fr.cells n hn
    refine ⟨c, ov, h1, ?_, h3⟩
    obtain ⟨o1, h4, h5⟩ := h2
    refine ⟨o1, (hk _ (fun q => ?_)).trans h4, h5⟩
    rw [q, g1] at h4; cases h4; rw [gd] at h5; cases h5

/-- guard one more object -/
noncomputable def Prt.put (P : Prt) (I : Nat) (ob : Obj) : Prt := fun b => if b = I then some ob else P b

theorem St.guard (X : St K P own env σ h s) {I : Nat} {ob : Obj} (hI : s.heap.get? I = some ob) (hM : NM h I) (hL : env.locals ≠ I)
    (hC : ∀ n c, isCF (env.kindOf n) → own n = true → env.cells.lookup n = some c → c ≠ I) (hB : ∀ o, K.base.get? I = some o → o = ob) : St K (P.put I ob) own env σ h s := by
  refine ⟨⟨fun b o e => ?_, X.rel.base, fun b o e => ?_, X.rel.frs, X.rel.frm, fun a o e => ?_, X.rel.os, X.rel.gens⟩, ⟨X.fr.kind, X.fr.glb, X.fr.bui, X.fr.loc, ?_, X.fr.locM, fun n hn => ?_, X.fr.apart⟩⟩
  · unfold Prt.put; split
    · rename_i q; subst q; rw [hB o e]
    · exact X.rel.sub b o e
  · unfold Prt.put at e; split at e
    · rename_i q; subst q; cases e; exact ⟨_, hI, .refl _⟩
    · exact X.rel.keep b o e
  · obtain ⟨ob', h1, h2, h3⟩ := X.rel.objs a o e
    refine ⟨ob', h1, h2, fun hm => ?_⟩
    unfold Prt.put; split
    · rename_i q; subst q; rw [hM o e] at hm; cases hm
    · exact h3 hm
  · unfold Prt.put; rw [if_neg hL]; exact X.fr.locP
  · obtain ⟨c, ov, h1, h2, h3, h4⟩ := X.fr.cells n hn
    refine ⟨c, ov, h1, h2, h3, fun ho => ?_⟩
    unfold Prt.put; rw [if_neg (hC n c hn ho h1)]; exact h4 ho

theorem St.unguard (X : St K (P.put I ob) own env σ h s) (hs : ∀ b o, K.base.get? b = some o → P b = some o) (hP : P I = none) (hd : ∀ es n, ob.data ≠ .dict es n) : St K P own env σ h s ∧ s.heap.get? I = some ob ∧ NM h I := by
  have up : ∀ b o, P b = some o → P.put I ob b = some o := fun b o e => by
    unfold Prt.put; split
    · rename_i q; rw [q, hP] at e; cases e
    · exact e
  have dn : ∀ b, P.put I ob b = none → P b = none := fun b e => by
    unfold Prt.put at e; split at e
    · cases e
    · exact e
  refine ⟨⟨⟨hs, X.rel.base, fun b o e => X.rel.keep b o (up b o e), X.rel.frs, X.rel.frm, fun a o e => ?_, X.rel.os, X.rel.gens⟩, ⟨X.fr.kind, X.fr.glb, X.fr.bui, X.fr.loc, dn _ X.fr.locP, X.fr.locM, fun n hn => ?_, X.fr.apart⟩⟩, (by obtain ⟨o', h1, h2⟩ := X.rel.keep I ob (by simp [Prt.put]); rw [h2.eq hd] at h1; exact h1), fun o e => ?_⟩
  · obtain ⟨ob', h1, h2, h3⟩ := X.rel.objs a o e
    exact ⟨ob', h1, h2, fun hm => dn _ (h3 hm)⟩
  · obtain ⟨c, ov, h1, h2, h3, h4⟩ := X.fr.cells n hn
    exact ⟨c, ov, h1, h2, h3, fun ho => dn _ (h4 ho)⟩
  · obtain ⟨ob', h1, h2, h3⟩ := X.rel.objs I o e
    cases q : o.isMut with
    | false => rfl
    | true => have := h3 q; simp [Prt.put] at this
end

/-- the same tables, other frames -/
noncomputable abbrev KK.at (K : KK) (l : List PySem.Env) : KK := { K with fl := l }
section
variable {K : KK} {l l' : List PySem.Env}
theorem VR.at {v : V} {r : Value} (x : VR (K.at l) v r) (l') : VR (K.at l') v r := by
  cases x
  · exact .none
  · exact .bool _
  · exact .int _ _
  · exact .ref _
  · exact .scr (K := K.at l')
  · exact .ty _
theorem VRs.at {vs : List V} {rs : List Value} (x : VRs (K.at l) vs rs) (l') : VRs (K.at l') vs rs := by
  induction x with
  | nil => exact .nil
  | cons a _ ih => exact .cons (a.at l') ih
theorem OR.at {o : O} {ob : Obj} (x : OR (K.at l) o ob) (l') : OR (K.at l') o ob := by
  cases x with
  | list h hl => exact .list (h.at l') hl
  | tup h hl => exact .tup (h.at l') hl
  | dict a b c d => exact .dict a b c d
theorem Rel.at {P : Prt} {h : H} {s : Shared} (R : Rel (K.at l) P h s) (l') (hf : ∀ e ∈ l', FrAt K.base s.heap e) (hm : ∀ e ∈ l', ∀ L, e.frame = some L → NM h L) : Rel (K.at l') P h s :=
  ⟨R.sub, R.base, R.keep, hf, hm, fun a o e => let ⟨ob, h1, h2, h3⟩ := R.objs a o e; ⟨ob, h1, h2.at l', h3⟩, R.os, R.gens⟩
end
end MP

end
section
/-! The small language's plain operations are the machine's. -/
namespace MP
open PySem PyProof.Rows

noncomputable def opOf : Op → Operator
  | .add => .Add | .sub => .Sub | .mul => .Mult | .div => .FloorDiv | .mod => .Mod
noncomputable def cmOf : Cm → CmpOp
  | .lt => .Lt | .le => .LtE | .gt => .Gt | .ge => .GtE | .eq => .Eq | .ne => .NotEq | .is => .Is | .isnt => .IsNot

structure Rm (A : Around) (k : Nat) : Prop where
  hd : A.handled = none
  dp : A.depth + k < recursionLimit
  un : A.units + 4 * k + 100 < cLine

noncomputable abbrev EP (K : KK) (P : Prt) (own : Str → Bool) (env : PySem.Env) (σ : Env) (Q : V → H → Prop) : Value → Shared → Prop :=
  fun r s' => ∃ v h', VR K v r ∧ St K P own env σ h' s' ∧ Q v h'
noncomputable abbrev BP (K : KK) (P : Prt) (own : Str → Bool) (env : PySem.Env) (σ : Env) (Q : Bool → H → Prop) : Bool → Shared → Prop :=
  fun b s' => ∃ h', St K P own env σ h' s' ∧ Q b h'

section
variable {K : KK} {P : Prt} {h : H} {s : Shared}
mutual
theorem reads_of (R : Rel K P h s) : ∀ {v : V} {d : PyData}, Rd h v d → ∀ {r : Value}, VR K v r → ∃ as, Reads s.heap r d as
  | _, _, .none, _, hv => by cases hv; exact ⟨_, .none⟩
  | _, _, .bool b, _, hv => by cases hv; exact ⟨_, .bool b⟩
  | _, _, .int i, _, hv => by cases hv; exact ⟨_, .int i _⟩
  | _, _, .list ha hr, _, hv => by
    cases hv
    obtain ⟨ob, h1, h2, _⟩ := R.objs _ _ ha
    cases h2 with
    | list hx _ =>
      obtain ⟨as, h3⟩ := reads_all_of R hr hx
      exact ⟨_, .list h1 rfl rfl h3⟩
  | _, _, .tup ha hr, _, hv => by
    cases hv
    obtain ⟨ob, h1, h2, _⟩ := R.objs _ _ ha
    cases h2 with
    | tup hx _ =>
      obtain ⟨as, h3⟩ := reads_all_of R hr hx
      exact ⟨_, .tuple h1 rfl rfl h3⟩
theorem reads_all_of (R : Rel K P h s) : ∀ {vs : List V} {ds : List PyData}, RdAll h vs ds → ∀ {rs : List Value}, VRs K vs rs → ∃ as, ReadsAll s.heap rs ds as
  | _, _, .nil, _, hv => by cases hv; exact ⟨_, .nil⟩
  | _, _, .cons h1 h2, _, hv => by
    cases hv with
    | cons a b =>
      obtain ⟨as, h3⟩ := reads_of R h1 a
      obtain ⟨bs, h4⟩ := reads_all_of R h2 b
      exact ⟨_, .cons h3 h4⟩
end
mutual
theorem rd_canLay : ∀ {v : V} {d : PyData}, Rd h v d → d.canLay0 = true
  | _, _, .none => rfl
  | _, _, .bool _ => rfl
  | _, _, .int _ => rfl
  | _, _, .list _ hr => rdAll_canLay hr
  | _, _, .tup _ hr => rdAll_canLay hr
theorem rdAll_canLay : ∀ {vs : List V} {ds : List PyData}, RdAll h vs ds → PyData.canLayAll0 ds = true
  | _, _, .nil => rfl
  | _, _, .cons h1 h2 => by unfold PyData.canLayAll0; rw [rd_canLay h1, rdAll_canLay h2]; rfl
end
theorem rd_shaped {v : V} {d : PyData} (hr : Rd h v d) (hd : d.depth ≤ 8) : SeqAt.shaped d = true := by
  unfold SeqAt.shaped; rw [rd_canLay hr, decide_eq_true (show d.depth ≤ 64 by (first | lia | omega))]; rfl
end

theorem log2_small {k : Int} (h : inLim k) : Builtin.Int.intBits k ≤ 64 := intBits_le_64 (by unfold inLim at h; (first | lia | omega)) (by unfold inLim at h; (first | lia | omega))

section
variable {prog : Program} {w : World} {A : Around} {E : Value → Shared → Prop} {k : Nat}
variable {K : KK} {P : Prt} {own : Str → Bool} {env : PySem.Env} {σ : Env} {h : H} {s : Shared}

theorem snd_neg {va : V} {ra : Value} {Q : V → H → Prop} (X : St K P own env σ h s) (ha : VR K va ra) (hq : negW va h Q) :
    wpAny (model prog w) A (unaryOp .USub ra) (EP K P own env σ Q) E s := by
  cases ha <;> (try exact hq.elim)
  exact neg_int ⟨_, _, .int _ _, X.grow (.tok s _), hq⟩

theorem snd_truth {va : V} {ra : Value} {Q : Bool → H → Prop} (X : St K P own env σ h s) (ha : VR K va ra) (hq : truth va fun b => Q b h) :
    wpAny (model prog w) A (truthy ra) (BP K P own env σ Q) E s := by
  cases ha <;> (try exact hq.elim)
  exact wpAny_truthy_bool ⟨_, X, hq⟩

theorem snd_eq {va vb : V} {ra rb : Value} {Q : Bool → Prop} (X : St K P own env σ h s) (hu : A.units + 64 < cLine) (ha : VR K va ra) (hb : VR K vb rb) (hq : eqW va vb h Q) :
    wpAny (model prog w) A (compareOp .Eq ra rb) (fun r s' => ∃ b, r = .bool b ∧ s' = s ∧ Q b) E s := by
  have gen : (∃ da db, Rd h va da ∧ Rd h vb db ∧ da.depth ≤ 8 ∧ db.depth ≤ 8 ∧ Q (PyData.eqv da db)) → wpAny (model prog w) A (compareOp .Eq ra rb) (fun r s' => ∃ b, r = .bool b ∧ s' = s ∧ Q b) E s := by
    rintro ⟨da, db, h1, h2, h3, h4, h5⟩
    obtain ⟨as, r1⟩ := reads_of X.rel h1 ha
    obtain ⟨bs, r2⟩ := reads_of X.rel h2 hb
    exact SeqAt.compareEq_shaped r1 r2 (rd_shaped h1 h3) (rd_shaped h2 h4) hu ⟨_, rfl, rfl, h5⟩
  cases ha with
  | int i t =>
    cases hb with
    | int j u => exact eq_int ⟨_, rfl, rfl, by rw [show (i == j) = decide (i = j) from rfl]; exact hq⟩
    | _ => exact gen hq
  | _ => exact gen hq

theorem snd_ne {va vb : V} {ra rb : Value} {Q : Bool → Prop} (X : St K P own env σ h s) (hu : A.units + 64 < cLine) (ha : VR K va ra) (hb : VR K vb rb) (hq : eqW va vb h Q) :
    wpAny (model prog w) A (compareOp .NotEq ra rb) (fun r s' => ∃ b, r = .bool (!b) ∧ s' = s ∧ Q b) E s := by
  have gen : (∃ da db, Rd h va da ∧ Rd h vb db ∧ da.depth ≤ 8 ∧ db.depth ≤ 8 ∧ Q (PyData.eqv da db)) → wpAny (model prog w) A (compareOp .NotEq ra rb) (fun r s' => ∃ b, r = .bool (!b) ∧ s' = s ∧ Q b) E s := by
    rintro ⟨da, db, h1, h2, h3, h4, h5⟩
    obtain ⟨as, r1⟩ := reads_of X.rel h1 ha
    obtain ⟨bs, r2⟩ := reads_of X.rel h2 hb
    exact SeqAt.compareNe_shaped r1 r2 (rd_shaped h1 h3) (rd_shaped h2 h4) hu ⟨_, rfl, rfl, h5⟩
  cases ha with
  | int i t =>
    cases hb with
    | int j u => exact ne_int ⟨decide (i = j), rfl, rfl, hq⟩
    | _ => exact gen hq
  | _ => exact gen hq

theorem vr_none {va : V} {ra : Value} (ha : VR K va ra) : (ra == Value.none) = decide (va = .none) := by cases ha <;> rfl

theorem vr_bool {va : V} {ra : Value} {c : Bool} (ha : VR K va ra) : (ra == Value.bool c) = decide (va = .bool c) := by
  cases ha <;> (try rfl)
  rename_i b; cases b <;> cases c <;> rfl
theorem beq_ty (t u : String) : (Value.type t == Value.type u) = decide (t = u) := by
  by_cases q : t = u
  · subst q; simp
  · simp [q]
theorem is_boolG {va : V} {v : Value} {c : Bool} {Q : Value → Shared → Prop} (ha : VR K va v) (h : Q (.bool (v == .bool c)) s) : wpAny (model prog w) A (compareOp .Is v (.bool c)) Q E s := by
  cases ha <;> exact wpAny_pure h
theorem isnot_boolG {va : V} {v : Value} {c : Bool} {Q : Value → Shared → Prop} (ha : VR K va v) (h : Q (.bool (!(v == .bool c))) s) : wpAny (model prog w) A (compareOp .IsNot v (.bool c)) Q E s := by
  cases ha <;> exact wpAny_pure h
theorem is_tyG {t u : String} {Q : Value → Shared → Prop} (h : Q (.bool (Value.type t == .type u)) s) : wpAny (model prog w) A (compareOp .Is (.type t) (.type u)) Q E s := wpAny_pure h
theorem isnot_tyG {t u : String} {Q : Value → Shared → Prop} (h : Q (.bool (!(Value.type t == .type u))) s) : wpAny (model prog w) A (compareOp .IsNot (.type t) (.type u)) Q E s := wpAny_pure h

end
end MP

end
section
/-! Lists, tuples, the built-in functions. -/
namespace MP
open PySem PyProof.Rows

section
variable {K : KK}
theorem ints_vrs : ∀ {xs : List V} {is : List Int} {rs : List Value}, intsOf xs = some is → VRs K xs rs → IntsAre rs is
  | [], is, rs, e, h => by cases h; cases e; exact .nil
  | .int i :: r, is, rs, e, h => by
    cases h with
    | cons a b =>
      cases a
      simp only [intsOf] at e
      cases q : intsOf r with
      | none => rw [q] at e; cases e
      | some js => rw [q] at e; cases e; exact .cons _ _ (ints_vrs q b)
  | .none :: _, _, _, e, _ => nomatch e
  | .bool _ :: _, _, _, e, _ => nomatch e
  | .ref _ :: _, _, _, e, _ => nomatch e
  | .scr :: _, _, _, e, _ => nomatch e
  | .ty _ :: _, _, _, e, _ => nomatch e
end

theorem foldl_min_le : ∀ (l : List Int) (a : Int), l.foldl min a ≤ a ∧ (∀ x ∈ l, l.foldl min a ≤ x) ∧ (l.foldl min a = a ∨ l.foldl min a ∈ l)
  | [], a => ⟨Int.le_refl _, fun _ h => (nomatch h), Or.inl rfl⟩
  | b :: r, a => by
    obtain ⟨h1, h2, h3⟩ := foldl_min_le r (min a b)
    simp only [List.foldl_cons]
    refine ⟨by (first | lia | omega), fun x hx => ?_, ?_⟩
    · rcases List.mem_cons.mp hx with rfl | hx
      · (first | lia | omega)
      · exact h2 x hx
    · rcases h3 with h3 | h3
      · rw [h3]
        by_cases q : a ≤ b
        · left; (first | lia | omega)
        · right; rw [show min a b = b by (first | lia | omega)]; exact List.mem_cons_self
      · right; exact List.mem_cons_of_mem _ h3
theorem minL_spec {l : List Int} (hne : l ≠ []) : minL l ∈ l ∧ ∀ x ∈ l, minL l ≤ x := by
  cases l with
  | nil => exact absurd rfl hne
  | cons a r =>
    obtain ⟨h1, h2, h3⟩ := foldl_min_le r a
    refine ⟨?_, fun x hx => ?_⟩
    · rcases h3 with h3 | h3
      · show r.foldl min a ∈ _; rw [h3]; exact List.mem_cons_self
      · exact List.mem_cons_of_mem _ h3
    · rcases List.mem_cons.mp hx with rfl | hx
      · exact h1
      · exact h2 x hx
theorem minL_unique {l : List Int} {m : Int} (h1 : m ∈ l) (h2 : ∀ x ∈ l, m ≤ x) : m = minL l := by
  have h3 := minL_spec (l := l) (fun e => by rw [e] at h1; cases h1)
  have h4 := h2 _ h3.1
  have h5 := h3.2 _ h1
  (first | lia | omega)

noncomputable def bfVal : Bf → Value
  | .len => .builtin "len" | .list => .type "list" | .min => .builtin "min" | .max => .builtin "max" | .sum => .builtin "sum" | .type => .type "type"
noncomputable def bfName : Bf → String
  | .len => "len" | .list => "list" | .min => "min" | .max => "max" | .sum => "sum" | .type => "type"
noncomputable def tyNames : List String := ["int", "bool", "list", "tuple"]
noncomputable def mtName : Mt → String
  | .append => "append" | .reverse => "reverse"

/-- what is known of the machine ahead of the law's call -/
structure KOk (K : KK) : Prop where
  noLim : K.base.NoLimit
  nsG : K.base.Ns mainGlobals K.mg
  nsB : K.base.Ns builtinsNs K.mb
  bf : ∀ f, K.mg (Str.ofString (bfName f)) = none ∧ K.mb (Str.ofString (bfName f)) = some (bfVal f)
  rng : K.mg (Str.ofString "range") = none ∧ K.mb (Str.ofString "range") = some (.type "range")
  ty : ∀ t ∈ tyNames, K.mg (Str.ofString t) = none ∧ K.mb (Str.ofString t) = some (.type t)
  scr : ∃ items, K.base.IsList K.scr items ∧ VRs K (K.ns.map .int) items.toList
  scrL : K.ns.length ≤ lim
  fn : ∀ f, K.fns.contains f = true → ∃ a o fd, K.mg (Str.ofString f) = some (.ref a) ∧ K.base.get? a = some o ∧ o.data = .func fd
  gc : ∀ x v, K.gc x = some v → ∃ rv, K.mg (Str.ofString x) = some rv ∧ VR K v rv

theorem sizeLine_lim {n : Nat} (h : n ≤ lim) : n ≤ sizeLine := by rw [sizeLine_eq]; unfold lim at h; (first | lia | omega)

section
variable {prog : Program} {w : World} {A : Around} {E : Value → Shared → Prop} {k : Nat}
variable {K : KK} {P : Prt} {own : Str → Bool} {env : PySem.Env} {σ : Env} {h : H} {s : Shared}

theorem Rel.list (R : Rel K P h s) {a : Nat} {xs : List V} (e : h a = some (.list xs)) : ∃ items n, s.heap.get? a = some (listOb items n) ∧ VRs K xs items.toList ∧ xs.length ≤ lim := by
  obtain ⟨ob, h1, h2, _⟩ := R.objs _ _ e
  cases h2 with
  | list hx hl => exact ⟨_, _, h1, hx, hl⟩
theorem Rel.tup (R : Rel K P h s) {a : Nat} {xs : List V} (e : h a = some (.tup xs)) : ∃ items n, s.heap.get? a = some (tupOb items n) ∧ VRs K xs items.toList ∧ xs.length ≤ lim := by
  obtain ⟨ob, h1, h2, _⟩ := R.objs _ _ e
  cases h2 with
  | tup hx hl => exact ⟨_, _, h1, hx, hl⟩

theorem getIdx_some {xs : List V} {i : Int} {v : V} (e : getIdx xs i = some v) : 0 ≤ i ∧ xs[i.toNat]? = some v := by
  unfold getIdx at e
  split at e
  · exact ⟨by assumption, e⟩
  · cases e
theorem get?_lt {α : Type} {xs : List α} {i : Nat} {v : α} (e : xs[i]? = some v) : i < xs.length := by
  rw [List.getElem?_eq_some_iff] at e; exact e.1

theorem getItem_listV {l : Nat} {items : Array Value} {xs : List V} {i : Int} {t : Tok} {v : V} {Q : Value → Shared → Prop} (hl : s.heap.IsList l items) (hx : VRs K xs items.toList) (hlen : xs.length ≤ lim)
    (e : getIdx xs i = some v) (hq : ∀ r, VR K v r → Q r s) : wpAny (model prog w) A (getItem (.ref l) (.int i t)) Q E s := by
  obtain ⟨h0, e1⟩ := getIdx_some e
  obtain ⟨r, h1, h2⟩ := hx.get e1
  have h3 := get?_lt e1
  exact wpAny_getItem_list hl h0 (by unfold lim at hlen; (first | lia | omega)) (by rw [← Array.getElem?_toList]; exact h1) (hq r h2)

theorem snd_sub {G : Par} {value slice : Expr} {va vi : V} {ra ri : Value} {Q : V → H → Prop} (X : St K P own env σ h s) (hK : KOk K) (hG : G.ns = K.ns) (ha : VR K va ra) (hi : VR K vi ri) (hq : subW G va vi h Q)
    (hsl : ∀ o i, subscripted slice false o i = operate [o, i] (getItem o i)) :
    wpAny (model prog w) A (subscriptTail value slice ra ri) (EP K P own env σ Q) E s := by
  cases ha with
  | ref a =>
    cases hi with
    | int i t =>
      simp only [subW] at hq
      cases q : h a with
      | none => simp only [q] at hq
      | some o =>
        cases o with
        | dict kvs => simp only [q] at hq
        | list xs =>
          simp only [q] at hq
          obtain ⟨items, n, h1, h2, h3⟩ := X.rel.list q
          cases q2 : getIdx xs i with
          | none => simp only [q2] at hq
          | some v =>
            simp only [q2] at hq
            exact tail_any (T := "list") ⟨_, h1, rfl⟩ slot_list_getitem.lookup (getItem_listV ⟨_, h1, rfl, _, rfl⟩ h2 h3 q2 fun r hr => ⟨_, _, hr, X, hq⟩) (hsl _ _)
        | tup xs =>
          simp only [q] at hq
          obtain ⟨items, n, h1, h2, h3⟩ := X.rel.tup q
          cases q2 : getIdx xs i with
          | none => simp only [q2] at hq
          | some v =>
            simp only [q2] at hq
            obtain ⟨h0, e1⟩ := getIdx_some q2
            obtain ⟨r, h4, h5⟩ := h2.get e1
            have h6 := get?_lt e1
            have h7 : items.size = xs.length := by rw [← Array.length_toList, h2.length]
            exact tail_any (T := "tuple") ⟨_, h1, rfl⟩ slot_tuple_getitem.lookup (getItem_tuple (j := i.toNat) ⟨_, h1, rfl, _, rfl⟩ (by (first | lia | omega)) (by unfold lim at h3; (first | lia | omega))
              (by unfold seqIndex?; (repeat' split) <;> (try simp) <;> (first | lia | omega)) (by rw [← Array.getElem?_toList]; exact h4) ⟨_, _, h5, X, hq⟩) (hsl _ _)
    | _ => exact hq.elim
  | scr =>
    cases hi with
    | int i t =>
      simp only [subW] at hq
      cases q2 : getIdx (G.ns.map V.int) i with
      | none => simp only [q2] at hq
      | some v =>
        simp only [q2] at hq
        obtain ⟨items, h1, h2⟩ := hK.scr
        have h1' : s.heap.IsList K.scr items := h1.at fun o e => X.rel.base _ _ e
        rw [hG] at q2
        exact tail_any h1'.typeIs slot_list_getitem.lookup (getItem_listV h1' h2 (by simpa using hK.scrL) q2 fun r hr => ⟨_, _, hr, X, hq⟩) (hsl _ _)
    | _ => exact hq.elim
  | _ => exact hq.elim

theorem setItem_exact {l : Nat} {items : Array Value} {n : Nat} {i : Int} {t : Tok} {v : Value} {Q : Unit → Shared → Prop} (ho : s.heap.get? l = some (listOb items n))
    (h0 : 0 ≤ i) (hn : i < items.size) (hz : items.size ≤ lim)
    (hQ : ∀ h' n', h'.get? l = some (listOb (items.setIfInBounds i.toNat v) n') → (∀ b, b ≠ l → h'.get? b = s.heap.get? b) → Q () { s with heap := h' }) :
    wpAny (model prog w) A (setItem (.ref l) (.int i t) v) Q E s := by
  have hl : s.heap.IsList l items := ⟨_, ho, rfl, _, rfl⟩
  unfold setItem
  try with_reducible refine wpAny_holding ?_
  first | refine wpAny_bind (wpAny_pure ?_) | skip
  refine wpAny_bind (wpAny_sequenceKey hl.typeIs (by decide) ?_)
  refine wpAny_bind (wpAny_callSpecial?_slot (name := Str.ofString "__setitem__") hl.typeIs slot_list_setitem
    (wpAny_call_entry slot_list_setitem hl.typeIs entry_list_setitem ?_ (args_list_setitem _ _ _)))
  show wpAny _ _ (Builtin.List.listSubscript? (.int i t) >>= _) _ _ s
  refine wpAny_bind (wpAny_listSubscript_int (fitsIndex_of h0 (by unfold lim at hz; (first | lia | omega))) ?_)
  obtain ⟨j, rfl⟩ := Int.eq_ofNat_of_zero_le h0
  have hj : j < items.size := by (first | lia | omega)
  have hx' : items[j]? = some items[j] := Array.getElem?_eq_getElem hj
  show wpAny _ _ ((seqItemAt l j >>= fun r => pure (r.map (j, ·))) >>= _) _ _ s
  refine wpAny_bind (wpAny_bind (wpAny_seqItemAt ho rfl (wpAny_pure ?_)))
  rw [hx']
  show wpAny _ _ (setSeqItemAt l j v >>= _) _ _ s
  have hfin := hQ (s.heap.update l (Obj.mapSeq (·.setIfInBounds j v))) _ (Heap.get?_update_self _ ho rfl) (fun b hb => Heap.get?_update_ne _ _ _ _ hb)
  refine wpAny_bind (wpAny_setSeqItemAt ho rfl ?_)
  first
    | exact wpAny_bind (wpAny_pure (wpAny_pure ⟨.none, rfl, wpAny_pure hfin⟩))
    | exact wpAny_pure ⟨.none, rfl, wpAny_pure hfin⟩

theorem XR.mem : ∀ {kvs : List ((Int × Int) × Nat × Int)} {xs : List (List Int × PySem.Addr × Value)}, XR kvs xs → ∀ x ∈ xs, ∃ e ∈ kvs, x.1 = [e.1.1, e.1.2] ∧ x.2.1 = e.2.1
  | _, _, .nil, x, hx => by cases hx
  | _, _, .cons r, x, hx => by
    rcases List.mem_cons.mp hx with rfl | hx
    · exact ⟨_, List.mem_cons_self, rfl, rfl⟩
    · obtain ⟨e, h1, h2⟩ := r.mem x hx
      exact ⟨e, List.mem_cons_of_mem _ h1, h2⟩
theorem key_iff {p q : Int × Int} : ([q.1, q.2] = [p.1, p.2]) ↔ q = p := by
  constructor
  · intro h; cases p; cases q; simpa using h
  · rintro rfl; rfl
theorem XR.look : ∀ {kvs : List ((Int × Int) × Nat × Int)} {xs : List (List Int × PySem.Addr × Value)}, XR kvs xs → ∀ p : Int × Int,
    (match kvs.find? (fun e => decide (e.1 = p)) with | some e => ∃ t, xs.find? (fun x => decide (x.1 = [p.1, p.2])) = some ([p.1, p.2], e.2.1, .int e.2.2 t) | Option.none => xs.find? (fun x => decide (x.1 = [p.1, p.2])) = none)
  | _, _, .nil, p => rfl
  | _, _, .cons (p := q) r, p => by
    by_cases c : q = p
    · subst c
      simp only [List.find?_cons, decide_true]
      exact ⟨_, rfl⟩
    · have c' : ¬ ([q.1, q.2] = [p.1, p.2]) := fun e => c (key_iff.mp e)
      simp only [List.find?_cons, decide_eq_false c, decide_eq_false c']
      exact r.look p
theorem XR.map {p : Int × Int} {x : Int} {t : Tok} : ∀ {kvs : List ((Int × Int) × Nat × Int)} {xs : List (List Int × PySem.Addr × Value)}, XR kvs xs → XR (kvs.map fun e => if e.1 = p then (e.1, e.2.1, x) else e) (xs.map (putAt [p.1, p.2] (.int x t)))
  | _, _, .nil => .nil
  | _, _, .cons (p := q) r => by
    simp only [List.map_cons]
    by_cases c : q = p
    · subst c
      rw [if_pos rfl]
      unfold putAt
      rw [if_pos rfl]
      exact .cons r.map
    · rw [if_neg c]
      unfold putAt
      rw [if_neg fun e => c (key_iff.mp e)]
      exact .cons r.map
theorem XR.snoc {p : Int × Int} {a : Nat} {x : Int} {t : Tok} : ∀ {kvs : List ((Int × Int) × Nat × Int)} {xs : List (List Int × PySem.Addr × Value)}, XR kvs xs → XR (kvs ++ [(p, a, x)]) (xs ++ [([p.1, p.2], a, .int x t)])
  | _, _, .nil => .cons .nil
  | _, _, .cons r => .cons r.snoc
theorem XR.stored {kvs : List ((Int × Int) × Nat × Int)} {xs : List (List Int × PySem.Addr × Value)} (r : XR kvs xs) (p : Int × Int) (a : Nat) (x : Int) (t : Tok) : XR (putK kvs p a x) (storedH xs [p.1, p.2] a (.int x t)) := by
  have hl := r.look p
  unfold putK storedH atKey
  cases q : kvs.find? (fun e => decide (e.1 = p)) with
  | none =>
    rw [q] at hl
    dsimp only at hl
    rw [hl]
    exact r.snoc
  | some e =>
    rw [q] at hl
    obtain ⟨t', hl⟩ := hl
    rw [hl]
    exact r.map
theorem XR.len : ∀ {kvs : List ((Int × Int) × Nat × Int)} {xs : List (List Int × PySem.Addr × Value)}, XR kvs xs → xs.length = kvs.length
  | _, _, .nil => rfl
  | _, _, .cons r => by simp [r.len]
theorem putK_len (kvs : List ((Int × Int) × Nat × Int)) (p : Int × Int) (a : Nat) (x : Int) : (putK kvs p a x).length ≤ kvs.length + 1 := by
  unfold putK; split <;> simp
theorem pair_is {a : Nat} {i j : Int} (R : Rel K P h s) (e : h a = some (.tup [.int i, .int j])) : IsTupleKey (intKind prog w) s.heap [i, j] a := by
  obtain ⟨items, n, h1, h2, _⟩ := R.tup e
  refine ⟨_, items, n, h1, rfl, rfl, ?_⟩
  generalize items.toList = l at h2
  cases h2 with
  | cons a1 a2 =>
    cases a1
    cases a2 with
    | cons b1 b2 =>
      cases b1; cases b2
      exact .cons (by simp [intKind, Value.isInt]) (.cons (by simp [intKind, Value.isInt]) .nil)
theorem dict_of {d : Nat} {kvs : List ((Int × Int) × Nat × Int)} (R : Rel K P h s) (e : h d = some (.dict kvs)) (hk : keysOk h kvs) : ∃ xs, s.heap.DictOfH (tupleKind (intKind prog w)) d xs ∧ XR kvs xs ∧ kvs.length ≤ lim := by
  obtain ⟨ob, h1, h2, _⟩ := R.objs _ _ e
  cases h2 with
  | dict hx he hn hl =>
    rename_i xs es ep
    refine ⟨xs, ⟨_, es, ep, h1, ⟨rfl, rfl, rfl⟩, rfl, he, fun x hm => ?_, hn⟩, hx, hl⟩
    obtain ⟨e', h3, h4, h5⟩ := hx.mem x hm
    show IsTupleKey _ _ x.1 x.2.1
    rw [h4, h5]
    exact pair_is R (hk e' h3)
/-- a dict of ours changes -/
theorem St.setDict {s' : Shared} (X : St K P own env σ h s) {a : Nat} {kvs : List ((Int × Int) × Nat × Int)} {o : O} {ob : Obj} (ha : h a = some (.dict kvs)) (hm : o.isMut = true)
    (hk : ∀ b, b ≠ a → s'.heap.get? b = s.heap.get? b) (hb : s'.heap.get? a = some ob) (ho : OR K o ob) (hos : s'.os = s.os) (hg : s'.gens = s.gens) : St K P own env σ (h.set a o) s' := by
  obtain ⟨oa, g1, g2, g3⟩ := X.rel.objs a _ ha
  have gd : ∃ es ep, oa.data = .dict es ep := by cases g2; exact ⟨_, _, rfl⟩
  obtain ⟨es0, ep0, gd⟩ := gd
  have gP := g3 rfl
  have hB : ∀ b o, P b = some o → b ≠ a := fun b o e q => by rw [q, gP] at e; cases e
  have hF : ∀ e ∈ K.fl, ∀ L, e.frame = some L → L ≠ a := fun e he L hL q => by have := X.rel.frm e he L hL _ (q ▸ ha); cases this
  have hLa : env.locals ≠ a := fun q => by have := X.fr.locM _ (q ▸ ha); cases this
  refine ⟨⟨X.rel.sub, fun b o e => (hk b (hB b o (X.rel.sub b o e))).trans (X.rel.base b o e), fun b o e => let ⟨o', h1, h2⟩ := X.rel.keep b o e; ⟨o', (hk b (hB b o e)).trans h1, h2⟩, fun e he => ?_, fun e he L hL => nm_set (X.rel.frm e he L hL) (hF e he L hL), fun b o' e => ?_, hos.trans X.rel.os, hg ▸ X.rel.gens⟩,
    ⟨X.fr.kind, X.fr.glb, X.fr.bui, ?_, X.fr.locP, nm_set X.fr.locM hLa, fun n hn => ?_, X.fr.apart⟩⟩
  · obtain ⟨k1, L, m, k2, k3, o1, es, ep, k4, k5⟩ := X.rel.frs e he
    exact ⟨k1, L, m, k2, k3, o1, es, ep, (hk _ (hF e he L k2)).trans k4, k5⟩
  · unfold H.set at e
    split at e
    · rename_i q; subst q; cases e; exact ⟨ob, hb, ho, fun _ => gP⟩
    · rename_i q
      obtain ⟨ob', h1, h2⟩ := X.rel.objs b o' e
      exact ⟨ob', (hk b q).trans h1, h2⟩
  · obtain ⟨m, hm', hv⟩ := X.fr.loc
    obtain ⟨o1, es, ep, h1, h2⟩ := hm'
    exact ⟨m, ⟨o1, es, ep, (hk _ hLa).trans h1, h2⟩, hv⟩
  · obtain ⟨c, ov, h1, h2, h3⟩ := X.fr.cells n hn
    refine ⟨c, ov, h1, ?_, h3⟩
    obtain ⟨o1, h4, h5⟩ := h2
    refine ⟨o1, (hk _ (fun q => ?_)).trans h4, h5⟩
    rw [q, g1] at h4; cases h4; rw [gd] at h5; cases h5
theorem dictOb_of {h' : Heap} {d : Nat} {xs : List (List Int × PySem.Addr × Value)} (hm : h'.DictOfH (tupleKind (intKind prog w)) d xs) : ∃ es ep, h'.get? d = some (dictOb es ep) ∧ es.toList = xs.map ent ∧ (xs.map (·.1)).Nodup := by
  obtain ⟨o, es, ep, h1, h2, h3, h4, _, h6⟩ := hm
  obtain ⟨c, d', dt, sl⟩ := o
  obtain ⟨rfl, rfl, rfl⟩ := h2
  dsimp only at h3
  subst h3
  exact ⟨es, ep, h1, h4, h6⟩

theorem snd_setSub {va vi v : V} {ra ri r : Value} {Q : H → Prop} (X : St K P own env σ h s) (hu : A.units + 1 < cLine) (ha : VR K va ra) (hi : VR K vi ri) (hv : VR K v r) (hq : setSub va vi v h Q) :
    wpAny (model prog w) A (setItem ra ri r) (fun _ s' => ∃ h', St K P own env σ h' s' ∧ Q h') E s := by
  cases ha with
  | ref a =>
    cases hi with
    | int i t =>
      simp only [setSub] at hq
      cases q : h a with
      | none => simp only [q] at hq
      | some o =>
        cases o with
        | dict kvs => simp only [q] at hq
        | list xs =>
          simp only [q] at hq
          obtain ⟨items, n, h1, h2, h3⟩ := X.rel.list q
          have h7 : items.size = xs.length := by rw [← Array.length_toList, h2.length]
          refine setItem_exact h1 hq.1 (by rw [h7]; exact hq.2.1) (by rw [h7]; exact h3) fun h' n' g1 g2 => ?_
          refine ⟨_, X.setList q rfl g2 g1 (.list ?_ ?_) rfl rfl, hq.2.2⟩
          · rw [Array.toList_setIfInBounds]; exact h2.set hv _
          · simpa using h3
        | tup xs => simp only [q] at hq
    | ref t =>
      simp only [setSub] at hq
      cases q : h a with
      | none => simp only [q] at hq
      | some o =>
        cases o with
        | list xs => simp only [q] at hq
        | tup xs => simp only [q] at hq
        | dict kvs =>
          simp only [q] at hq
          cases q2 : pairV h (.ref t) with
          | none => simp only [q2] at hq
          | some p =>
            simp only [q2] at hq
            cases hv <;> (try exact hq.elim)
            rename_i x tx
            obtain ⟨hk, hl, hq⟩ := hq
            obtain ⟨xs, g1, g2, g3⟩ := dict_of (prog := prog) (w := w) X.rel q hk
            have hb : h t = some (.tup [.int p.1, .int p.2]) := by
              unfold pairV at q2
              dsimp only at q2
              split at q2
              · rename_i i j hb; cases q2; exact hb
              · cases q2
            have hkey : (tupleKind (intKind prog w)).is s.heap [p.1, p.2] t := pair_is X.rel hb
            refine wpAny_setItem_heap (knd := tupleKind (intKind prog w)) (k := [p.1, p.2]) (xs := xs) hu hkey g1 (fun h' hm hs => ?_) (by rw [g2.len]; exact sizeLine_lim (by (first | lia | omega)))
            obtain ⟨es, ep, m1, m2, m3⟩ := dictOb_of hm
            have X' := X.setDict (s' := { s with heap := h', toks := s.toks + (tupleKind (intKind prog w)).draws [p.1, p.2] }) q (o := .dict (putK kvs p t x)) rfl (fun b hb => hs.2 b hb) m1 (.dict (g2.stored p t x tx) m2 m3 (by have := putK_len kvs p t x; (first | lia | omega))) rfl rfl
            exact ⟨_, X', hq⟩
    | _ => exact hq.elim
  | _ => exact hq.elim

theorem append_exact {l : Nat} {items : Array Value} {n : Nat} {x : Value} {Q : Value → Shared → Prop} (ho : s.heap.get? l = some (listOb items n)) (hsz : items.size ≤ sizeLine)
    (hQ : ∀ h' n', h'.get? l = some (listOb (items.push x) n') → (∀ b, b ≠ l → h'.get? b = s.heap.get? b) → Q .none { s with heap := h' }) :
    wpAny (model prog w) A (call (.builtin "list.append") [.ref l, x]) Q E s := by
  have hl : s.heap.IsList l items := ⟨_, ho, rfl, _, rfl⟩
  refine wpAny_call_entry slot_list_append hl.typeIs entry_list_append ?_ (args_list_append _ _)
  show wpAny _ _ (updateSeq l (·.push x) >>= fun _ => ret .none) _ _ s
  refine wpAny_bind ?_
  refine wpAny_updateSeq ho rfl (wpAny_pure ⟨.none, rfl, hQ _ _ (Heap.get?_update_self _ ho rfl) (fun b hb => Heap.get?_update_ne _ _ _ _ hb)⟩)

theorem reverse_exact {l : Nat} {items : Array Value} {n : Nat} {Q : Value → Shared → Prop} (ho : s.heap.get? l = some (listOb items n)) (hsz : items.size ≤ sizeLine)
    (hQ : ∀ h' n', h'.get? l = some (listOb items.reverse n') → (∀ b, b ≠ l → h'.get? b = s.heap.get? b) → Q .none { s with heap := h' }) :
    wpAny (model prog w) A (call (.builtin "list.reverse") [.ref l]) Q E s :=
  call_meets F.slot_list_reverse ⟨_, ho, rfl⟩ F.entry_list_reverse (F.args_list_reverse_1 _) (AutoSeq1.list_reverse_list_0 l items n hsz) ⟨ho, hQ _ _ (Heap.get?_update_self _ ho rfl) (fun b hb => Heap.get?_update_ne _ _ _ _ hb)⟩

theorem snd_meth {m : Mt} {va : V} {vs : List V} {ra : Value} {rs : List Value} {Q : V → H → Prop} (X : St K P own env σ h s) (ha : VR K va ra) (hs : VRs K vs rs) (hq : methW m va vs h Q) :
    wpAny (model prog w) A (call (.builtin ("list." ++ mtName m)) (ra :: rs)) (EP K P own env σ Q) E s := by
  cases m with
  | append =>
    cases ha <;> (try exact hq.elim)
    rename_i a
    cases hs with
    | nil => exact hq.elim
    | cons hv hr =>
      cases hr with
      | cons _ _ => exact hq.elim
      | nil =>
        rename_i v r
        simp only [methW] at hq
        cases q : h a with
        | none => simp only [q] at hq
        | some o =>
          cases o with
          | dict kvs => simp only [q] at hq
          | tup xs => simp only [q] at hq
          | list xs =>
            simp only [q] at hq
            obtain ⟨items, n, h1, h2, h3⟩ := X.rel.list q
            have h7 : items.size = xs.length := by rw [← Array.length_toList, h2.length]
            refine append_exact h1 (by rw [h7]; exact sizeLine_lim h3) fun h' n' g1 g2 => ?_
            refine ⟨_, _, .none, X.setList q rfl g2 g1 (.list ?_ ?_) rfl rfl, hq.2⟩
            · rw [Array.toList_push]; exact h2.append (.one hv)
            · have := hq.1; simp; (first | lia | omega)
  | reverse =>
    cases ha <;> (try exact hq.elim)
    rename_i a
    cases hs with
    | cons _ _ => exact hq.elim
    | nil =>
      simp only [methW] at hq
      cases q : h a with
      | none => simp only [q] at hq
      | some o =>
        cases o with
        | dict kvs => simp only [q] at hq
        | tup xs => simp only [q] at hq
        | list xs =>
          simp only [q] at hq
          obtain ⟨items, n, h1, h2, h3⟩ := X.rel.list q
          have h7 : items.size = xs.length := by rw [← Array.length_toList, h2.length]
          refine reverse_exact h1 (by rw [h7]; exact sizeLine_lim h3) fun h' n' g1 g2 => ?_
          refine ⟨_, _, .none, X.setList q rfl g2 g1 (.list ?_ ?_) rfl rfl, hq⟩
          · rw [Array.toList_reverse]; exact h2.reverse
          · simpa using h3
end
end MP

end
section
/-! The library's tree of questions, answered by an order, sorts. -/
namespace MP.Sort
open PySem PySem.W PyProof.Rows
variable {lt : Nat → Nat → Bool}

end MP.Sort

end
section
namespace MP
open PySem PySem.W PyProof.Rows
section
variable {prog : Program} {w : World} {A : Around} {E : Value → Shared → Prop} {s : Shared}

end
end MP

end
section
namespace MP
open PySem PySem.W PyProof.Rows
section
variable {prog : Program} {w : World} {A : Around} {E : Value → Shared → Prop} {s : Shared}
theorem lt_pair {a b : Nat} {x y : Int × Int} {t u t' u' : Tok} {n m : Nat} {Q : Value → Shared → Prop} (hu : A.units + 10 < cLine) (hoa : s.heap.get? a = some (tupOb #[.int x.1 t, .int x.2 u] n)) (hob : s.heap.get? b = some (tupOb #[.int y.1 t', .int y.2 u'] m))
    (h : Q (.bool (plt x y)) s) : wpAny (model prog w) A (compareOp .Lt (.ref a) (.ref b)) Q E s := by
  show wpAny _ A (richCompare .Lt (.ref a) (.ref b)) Q E s
  refine wpAny_richCompare_same_room (T := "tuple") ⟨_, hoa, rfl⟩ ⟨_, hob, rfl⟩ F.slot_tuple_lt (wpAny_call_entry F.slot_tuple_lt ⟨_, hoa, rfl⟩ F.entry_tuple_lt ?_ (F.args_tuple_lt_2 _ _)) (by (first | lia | omega))
  show wpAny _ _ (isInstance (.ref b) (.type "tuple") >>= _) _ _ s
  refine wpAny_bind (wpAny_isInstance (T := "tuple") ⟨_, hob, rfl⟩ isSubtype_tuple_tuple ?_)
  simp only [Bool.not_true, Bool.false_eq_true, if_false]
  refine wpAny_bind (wpAny_tupleItemsOf hoa rfl ?_)
  refine wpAny_bind (wpAny_tupleItemsOf hob rfl ?_)
  refine wpAny_bind ?_
  show wpAny _ _ (forIn [(Value.int x.1 t, Value.int y.1 t'), (Value.int x.2 u, Value.int y.2 u')] _ _) _ _ s
  rw [List.forIn_cons]
  refine wpAny_bind (wpAny_bind (wpAny_eqBool_int ?_))
  by_cases c1 : x.1 = y.1
  · have c1' : (x.1 == y.1) = true := by simp [c1]
    rw [c1']
    simp only [Bool.not_true, Bool.false_eq_true, if_false]
    refine wpAny_pure ?_
    dsimp only
    rw [List.forIn_cons]
    refine wpAny_bind (wpAny_bind (wpAny_eqBool_int ?_))
    by_cases c2 : x.2 = y.2
    · have c2' : (x.2 == y.2) = true := by simp [c2]
      rw [c2']
      simp only [Bool.not_true, Bool.false_eq_true, if_false]
      refine wpAny_pure ?_
      dsimp only
      rw [List.forIn_nil]
      have e : Builtin.Tuple.tupleCompareSizes .Lt 2 2 = .bool false := rfl
      refine wpAny_pure (wpAny_pure ⟨_, rfl, ?_⟩)
      show Builtin.Tuple.tupleCompareSizes .Lt 2 2 ≠ _ ∧ Q (Builtin.Tuple.tupleCompareSizes .Lt 2 2) s
      rw [e]
      refine ⟨by simp, ?_⟩
      simpa [plt, c1, c2] using h
    · have c2' : (x.2 == y.2) = false := by simp [c2]
      rw [c2']
      simp only [Bool.not_false, if_true]
      refine wpAny_bind (wpAny_rule (wpAny_bind (lt_int ?_)))
      refine wpAny_bind (wpAny_pure (wpAny_pure ?_))
      dsimp only
      refine wpAny_pure (wpAny_pure ⟨_, rfl, by simp, ?_⟩)
      simpa [plt, c1] using h
  · have c1' : (x.1 == y.1) = false := by simp [c1]
    rw [c1']
    simp only [Bool.not_false, if_true]
    refine wpAny_bind (wpAny_rule (wpAny_bind (lt_int ?_)))
    refine wpAny_bind (wpAny_pure (wpAny_pure ?_))
    dsimp only
    refine wpAny_pure (wpAny_pure ⟨_, rfl, by simp, ?_⟩)
    simpa [plt, c1] using h
end
end MP

end
section
namespace MP
open PySem PyProof.Rows
section
variable {prog : Program} {w : World} {A : Around} {E : Value → Shared → Prop} {k : Nat}
variable {K : KK} {P : Prt} {own : Str → Bool} {env : PySem.Env} {σ : Env} {h : H} {s : Shared}
theorem pair_ob {a : Nat} {p : Int × Int} (R : Rel K P h s) (e : pairV h (.ref a) = some p) : ∃ n t u, s.heap.get? a = some (tupOb #[.int p.1 t, .int p.2 u] n) := by
  have hb : h a = some (.tup [.int p.1, .int p.2]) := by
    unfold pairV at e
    dsimp only at e
    split at e
    · rename_i i j hb; cases e; exact hb
    · cases e
  obtain ⟨its, m, k5, k6, _⟩ := R.tup hb
  cases k6' : its.toList with
  | nil => rw [k6'] at k6; cases k6
  | cons r1 l1 =>
    rw [k6'] at k6
    cases k6 with
    | cons a1 a2 =>
      cases a1
      cases a2 with
      | cons b1 b2 =>
        cases b1
        cases b2
        rename_i t u
        have : its = #[.int p.1 t, .int p.2 u] := by rw [← Array.toArray_toList (xs := its), k6']
        exact ⟨m, t, u, by rw [← this]; exact k5⟩
theorem snd_cmp {op : Cm} {va vb : V} {ra rb : Value} {Q : V → H → Prop} (X : St K P own env σ h s) (hR : Rm A k) (ha : VR K va ra) (hb : VR K vb rb) (hq : cmpop op va vb h Q) :
    wpAny (model prog w) A (compareOp (cmOf op) ra rb) (EP K P own env σ Q) E s := by
  have hu : A.units + 64 < cLine := by have := hR.un; (first | lia | omega)
  cases op with
  | eq =>
    have hq : eqW va vb h fun r => Q (.bool r) h := hq
    exact wpAny_mono (snd_eq X hu ha hb hq) (fun r s' hx => by obtain ⟨b, rfl, rfl, hq'⟩ := hx; exact ⟨_, _, .bool _, X, hq'⟩) fun _ _ x => x
  | ne =>
    have hq : eqW va vb h fun r => Q (.bool (!r)) h := hq
    exact wpAny_mono (snd_ne X hu ha hb hq) (fun r s' hx => by obtain ⟨b, rfl, rfl, hq'⟩ := hx; exact ⟨_, _, .bool _, X, hq'⟩) fun _ _ x => x
  | is =>
    cases hb <;> (try exact hq.elim)
    · exact is_none ⟨_, _, .bool _, X, by rw [vr_none ha]; exact hq⟩
    · exact is_boolG ha ⟨_, _, .bool _, X, by rw [vr_bool ha]; exact hq⟩
    · cases ha <;> (try exact hq.elim)
      exact is_tyG ⟨_, _, .bool _, X, by rw [beq_ty]; exact hq⟩
  | isnt =>
    cases hb <;> (try exact hq.elim)
    · exact isNot_none ⟨_, _, .bool _, X, by rw [vr_none ha]; exact hq⟩
    · exact isnot_boolG ha ⟨_, _, .bool _, X, by rw [vr_bool ha]; exact hq⟩
    · cases ha <;> (try exact hq.elim)
      exact isnot_tyG ⟨_, _, .bool _, X, by rw [beq_ty]; exact hq⟩
  | lt =>
    cases ha with
    | int i t =>
      cases hb <;> (try exact hq.elim)
      exact lt_int ⟨_, _, .bool _, X, hq⟩
    | ref a =>
      cases hb <;> (try exact hq.elim)
      rename_i b
      conv at hq => whnf
      cases q1 : pairV h (.ref a) with
      | none => rw [q1] at hq; exact hq.elim
      | some p =>
        rw [q1] at hq
        dsimp only at hq
        cases q2 : pairV h (.ref b) with
        | none => rw [q2] at hq; exact hq.elim
        | some r =>
          rw [q2] at hq
          dsimp only at hq
          obtain ⟨n, t, u, k1⟩ := pair_ob X.rel q1
          obtain ⟨m, t', u', k2⟩ := pair_ob X.rel q2
          exact lt_pair (by have := hR.un; (first | lia | omega)) k1 k2 ⟨_, _, .bool _, X, hq⟩
    | _ => exact hq.elim
  | le =>
    cases ha <;> (try exact hq.elim)
    cases hb <;> (try exact hq.elim)
    exact le_int ⟨_, _, .bool _, X, hq⟩
  | gt =>
    cases ha <;> (try exact hq.elim)
    cases hb <;> (try exact hq.elim)
    exact gt_int ⟨_, _, .bool _, X, hq⟩
  | ge =>
    cases ha <;> (try exact hq.elim)
    cases hb <;> (try exact hq.elim)
    exact ge_int ⟨_, _, .bool _, X, hq⟩
end
end MP

end
section
namespace MP
open PySem PyProof.Rows

theorem intItems_of {rs : List Value} {is : List Int} (hi : IntsAre rs is) : ∃ xs : Array (Int × Tok), rs.toArray = intItems xs ∧ is = xs.toList.map (·.1) := by
  induction hi with
  | nil => exact ⟨#[], by simp [intItems], rfl⟩
  | cons n t _ ih =>
    obtain ⟨xs, h1, h2⟩ := ih
    refine ⟨((n, t) :: xs.toList).toArray, ?_, by simp [h2]⟩
    have : (_ : Array Value).toList = _ := congrArg Array.toList h1
    simp [intItems] at this ⊢
    exact this

section
variable {prog : Program} {w : World} {A : Around} {E : Value → Shared → Prop} {k : Nat}
variable {K : KK} {P : Prt} {own : Str → Bool} {env : PySem.Env} {σ : Env} {h : H} {s : Shared}

theorem min_ints {l : Nat} {items : Array Value} {n : Nat} {is : List Int} {Q : Value → Shared → Prop} (hh : A.handled = none) (ho : s.heap.get? l = some (listOb items n)) (hi : IntsAre items.toList is) (hne : is ≠ [])
    (hQ : ∀ t s', Grown s s' → Q (.int (minL is) t) s') : wpAny (model prog w) A (call (.builtin "min") [.ref l]) Q E s := by
  obtain ⟨xs, e, hns⟩ := intItems_of hi
  have hl : s.heap.IsList l (intItems xs) := by rw [← e]; exact ⟨_, ho, rfl, n, by simp⟩
  have hsz : 0 < xs.size := by
    cases q : xs.size with
    | zero => exact absurd (by rw [hns, List.map_eq_nil_iff]; exact List.eq_nil_of_length_eq_zero (by rw [Array.length_toList, q])) hne
    | succ j => (first | lia | omega)
  refine min_intList hh hl hsz fun v h' tk hv hk => ?_
  obtain ⟨t, rfl⟩ := intItems_at hv
  obtain ⟨h1, h2⟩ := argBest_lt (numAt xs) (xs.size - 1)
  have hm : numAt xs (argBest (fun i j => decide (numAt xs i < numAt xs j)) (xs.size - 1)) = minL is := by
    refine minL_unique ?_ fun a ha => ?_
    · rw [hns, numAt_eq]; exact getD_mem (by rw [List.length_map, Array.length_toList]; (first | lia | omega))
    · rw [hns] at ha
      obtain ⟨j, hj, rfl⟩ := mem_getD ha
      rw [List.length_map, Array.length_toList] at hj
      rw [← numAt_eq]; exact h2 j (by (first | lia | omega))
  rw [hm]
  exact hQ _ _ (.of hk)

theorem sum_ints {l : Nat} {items : Array Value} {n : Nat} {is : List Int} {Q : Value → Shared → Prop} (hh : A.handled = none) (ho : s.heap.get? l = some (listOb items n)) (hi : IntsAre items.toList is)
    (hQ : ∀ t s', Grown s s' → Q (.int is.sum t) s') : wpAny (model prog w) A (call (.builtin "sum") [.ref l]) Q E s := by
  obtain ⟨xs, e, hns⟩ := intItems_of hi
  have hl : s.heap.IsList l (intItems xs) := by rw [← e]; exact ⟨_, ho, rfl, n, by simp⟩
  refine sum_intListG hh hl fun h' tk t' hk => ?_
  have hm : preSum (numAt xs) xs.size = is.sum := by
    rw [preSum_eq, hns, List.take_of_length_le (by rw [List.length_map, Array.length_toList]; exact Nat.le_refl _)]
  rw [hm]
  exact hQ _ _ (.of hk)

theorem snd_bfn {G : Par} {f : Bf} {vs : List V} {rs : List Value} {Q : V → H → Prop} (X : St K P own env σ h s) (hK : KOk K) (hG : G.ns = K.ns) (hR : Rm A k) (hs : VRs K vs rs) (hq : bfnW G f vs h Q) :
    wpAny (model prog w) A (call (bfVal f) rs) (EP K P own env σ Q) E s := by
  cases hs with
  | nil => cases f <;> exact hq.elim
  | cons ha hr =>
  cases hr with
  | nil =>
    cases f with
    | len =>
      cases ha <;> (try exact hq.elim)
      · rename_i a
        conv at hq => whnf
        cases q : h a with
        | none => simp only [q] at hq
        | some o =>
          cases o with
          | dict kvs => simp only [q] at hq
          | tup xs =>
            simp only [q] at hq
            obtain ⟨items, n, h1, h2, h3⟩ := X.rel.tup q
            have h7 : items.size = xs.length := by rw [← Array.length_toList, h2.length]
            refine len_tuple ⟨_, h1, rfl, _, rfl⟩ (by rw [h7]; unfold lim at h3; (first | lia | omega)) ⟨_, _, .int _ _, X.grow (.tok s _), ?_⟩
            rw [h7]; exact hq
          | list xs =>
            simp only [q] at hq
            obtain ⟨items, n, h1, h2, h3⟩ := X.rel.list q
            have h7 : items.size = xs.length := by rw [← Array.length_toList, h2.length]
            refine Calls.call_len_list ⟨_, h1, rfl, _, rfl⟩ (by rw [h7]; unfold lim at h3; (first | lia | omega)) ⟨_, _, .int _ _, X.grow (.tok s _), ?_⟩
            rw [h7]; exact hq
      · obtain ⟨items, h1, h2⟩ := hK.scr
        have h1' : s.heap.IsList K.scr items := h1.at fun o e => X.rel.base _ _ e
        have h3 := hK.scrL
        have h7 : items.size = K.ns.length := by rw [← Array.length_toList, ← h2.length, List.length_map]
        refine Calls.call_len_list h1' (by rw [h7]; unfold lim at h3; (first | lia | omega)) ⟨_, _, .int _ _, X.grow (.tok s _), ?_⟩
        rw [h7, ← hG]; exact hq
    | list =>
      cases ha <;> (try exact hq.elim)
      rename_i a
      conv at hq => whnf
      cases q : h a with
      | none => simp only [q] at hq
      | some o =>
        cases o with
        | dict kvs => simp only [q] at hq
        | tup xs => simp only [q] at hq
        | list xs =>
          simp only [q] at hq
          obtain ⟨items, n, h1, h2, h3⟩ := X.rel.list q
          have h7 : items.size = xs.length := by rw [← Array.length_toList, h2.length]
          refine call_list_seq (T := "list") a (.inl rfl) h1 rfl rfl (fun h' c' hk hD => ?_) (by rw [h7]; exact sizeLine_lim h3)
          obtain ⟨g1, g2⟩ := X.add (.of' hk) (fresh_none _) hD (.list h2 h3)
          exact ⟨_, _, .ref _, g2, hq _ g1⟩
    | min =>
      cases ha <;> (try exact hq.elim)
      rename_i a
      conv at hq => whnf
      cases q : h a with
      | none => simp only [q] at hq
      | some o =>
        cases o with
        | dict kvs => simp only [q] at hq
        | tup xs => simp only [q] at hq
        | list xs =>
          simp only [q] at hq
          cases q2 : intsOf xs with
          | none => simp only [q2] at hq
          | some is =>
            cases is with
            | nil => simp only [q2] at hq
            | cons i is =>
              simp only [q2] at hq
              obtain ⟨items, n, h1, h2, h3⟩ := X.rel.list q
              exact min_ints hR.hd h1 (ints_vrs q2 h2) (by simp) fun t s' g => ⟨_, _, .int _ _, X.grow g, hq⟩
    | sum =>
      cases ha <;> (try exact hq.elim)
      rename_i a
      conv at hq => whnf
      cases q : h a with
      | none => simp only [q] at hq
      | some o =>
        cases o with
        | dict kvs => simp only [q] at hq
        | tup xs => simp only [q] at hq
        | list xs =>
          simp only [q] at hq
          cases q2 : intsOf xs with
          | none => simp only [q2] at hq
          | some is =>
            simp only [q2] at hq
            obtain ⟨items, n, h1, h2, h3⟩ := X.rel.list q
            exact sum_ints hR.hd h1 (ints_vrs q2 h2) fun t s' g => ⟨_, _, .int _ _, X.grow g, hq⟩
    | max => cases ha <;> exact hq.elim
    | type =>
      conv at hq => whnf
      cases ha with
      | none => exact call_type_of (Tx := "NoneType") rfl (by decide) ⟨_, _, .ty _, X, hq⟩
      | bool b => exact call_type_of (Tx := "bool") rfl (by decide) ⟨_, _, .ty _, X, hq⟩
      | int i t => exact call_type_of (Tx := "int") rfl (by decide) ⟨_, _, .ty _, X, hq⟩
      | scr => exact hq.elim
      | ty t => exact hq.elim
      | ref a =>
        simp only [typeN] at hq
        cases q : h a with
        | none => simp only [q] at hq
        | some o =>
          cases o with
          | dict kvs => simp only [q] at hq
          | list xs =>
            simp only [q] at hq
            obtain ⟨items, n, h1, h2, h3⟩ := X.rel.list q
            exact call_type_of (Tx := "list") ⟨_, h1, rfl⟩ (by decide) ⟨_, _, .ty _, X, hq⟩
          | tup xs =>
            simp only [q] at hq
            obtain ⟨ob, h1, h2, _⟩ := X.rel.objs _ _ q
            cases h2 with
            | tup hx _ => exact call_type_of (Tx := "tuple") ⟨_, h1, rfl⟩ (by decide) ⟨_, _, .ty _, X, hq⟩
  | cons hb hr =>
    cases hr with
    | cons hc hr =>
      cases f with
      | len => cases ha <;> exact hq.elim
      | list => cases ha <;> exact hq.elim
      | min =>
        cases ha <;> (try exact hq.elim)
        cases hb <;> (try exact hq.elim)
        cases hr with
        | cons _ _ => cases hc <;> exact hq.elim
        | nil =>
          cases hc <;> (try exact hq.elim)
          rename_i i t j u k x
          have hq : Q (.int (min (min i j) k)) h := hq
          refine min_three_ints hR.hd fun h' tk hk => ?_
          split
          · split
            · exact ⟨_, _, .int _ _, X.grow (.of hk), by rw [show min (min i j) k = k by (first | lia | omega)] at hq; exact hq⟩
            · exact ⟨_, _, .int _ _, X.grow (.of hk), by rw [show min (min i j) k = j by (first | lia | omega)] at hq; exact hq⟩
          · split
            · exact ⟨_, _, .int _ _, X.grow (.of hk), by rw [show min (min i j) k = k by (first | lia | omega)] at hq; exact hq⟩
            · exact ⟨_, _, .int _ _, X.grow (.of hk), by rw [show min (min i j) k = i by (first | lia | omega)] at hq; exact hq⟩
      | max => cases ha <;> (try exact hq.elim) <;> cases hb <;> exact hq.elim
      | sum => cases ha <;> exact hq.elim
      | type => exact hq.elim
    | nil =>
      cases f with
      | len => cases ha <;> exact hq.elim
      | list => cases ha <;> exact hq.elim
      | min =>
        cases ha <;> (try exact hq.elim)
        cases hb <;> (try exact hq.elim)
        refine min_two_ints hR.hd fun h' tk hk => ?_
        rename_i i t j u
        have hq : Q (.int (min i j)) h := hq
        split
        · exact ⟨_, _, .int _ _, X.grow (.of hk), by rw [show min i j = j by (first | lia | omega)] at hq; exact hq⟩
        · exact ⟨_, _, .int _ _, X.grow (.of hk), by rw [show min i j = i by (first | lia | omega)] at hq; exact hq⟩
      | max =>
        cases ha <;> (try exact hq.elim)
        cases hb <;> (try exact hq.elim)
        refine max_two_ints hR.hd fun h' tk hk => ?_
        rename_i i t j u
        have hq : Q (.int (max i j)) h := hq
        split
        · exact ⟨_, _, .int _ _, X.grow (.of hk), by rw [show max i j = j by (first | lia | omega)] at hq; exact hq⟩
        · exact ⟨_, _, .int _ _, X.grow (.of hk), by rw [show max i j = i by (first | lia | omega)] at hq; exact hq⟩
      | sum => cases ha <;> exact hq.elim
      | type => exact hq.elim
end
end MP

end
section
/-! Entering a call or a comprehension, coming back; stores; what is not ours. -/
namespace MP
open PySem PyProof.Rows

section
variable {K : KK} {P : Prt} {own : Str → Bool} {env : PySem.Env} {σ : Env} {h : H} {s s' : Shared}

theorem Rel.none_fields (R : Rel K P h s) {I : Nat} {ob : Obj} (hI : s.heap.get? I = some ob) (hd : ∀ it n, ob.data ≠ .seq it n) (hd' : ∀ es n, ob.data ≠ .dict es n) : h I = Option.none := by
  cases q : h I with
  | none => rfl
  | some o =>
    obtain ⟨ob', h1, h2, _⟩ := R.objs I o q
    rw [hI] at h1; cases h1
    rcases h2.data with ⟨_, _, hq⟩ | ⟨_, _, hq⟩
    · exact absurd hq (hd _ _)
    · exact absurd hq (hd' _ _)
theorem Rel.none_ns (R : Rel K P h s) {I : Nat} {ob : Obj} (hI : s.heap.get? I = some ob) (hd : ∃ es n, ob.data = .dict es n) (hM : NM h I) : h I = Option.none := by
  obtain ⟨es, n, hd⟩ := hd
  cases q : h I with
  | none => rfl
  | some o =>
    have hm := hM o q
    obtain ⟨ob', h1, h2, _⟩ := R.objs I o q
    rw [hI] at h1; cases h1
    cases h2
    · cases hm
    · cases hm
    · cases hd
theorem Rel.none_list (R : Rel K P h s) {D : Nat} {items : Array Value} {n : Nat} (hD : s.heap.get? D = some (listOb items n)) (hM : NM h D) : h D = Option.none := by
  cases q : h D with
  | none => rfl
  | some o =>
    obtain ⟨ob', h1, h2, _⟩ := R.objs D o q
    rw [hD] at h1
    cases h2 with
    | list _ _ => have := hM _ q; cases this
    | tup _ _ => simp at h1
    | dict _ _ _ _ => simp at h1

theorem Rel.junk (R : Rel K P h s) {I : Nat} (hh : h I = Option.none) (hP : P I = none) (hF : (∀ m, s.heap.Ns I m → ∃ m', s'.heap.Ns I m') ∨ ∀ e ∈ K.fl, e.frame ≠ some I)
    (hk : ∀ b o, b ≠ I → s.heap.get? b = some o → s'.heap.get? b = some o) (hos : s'.os = s.os) (hg : s'.gens = s.gens) : Rel K P h s' :=
  have hB : ∀ b o, P b = some o → b ≠ I := fun b o e q => by rw [q, hP] at e; cases e
  ⟨R.sub, fun b o e => hk b o (hB b o (R.sub b o e)) (R.base b o e), fun b o e => let ⟨o', h1, h2⟩ := R.keep b o e; ⟨o', hk b o' (hB b o e) h1, h2⟩, fun e he => by
    rcases hF with hF | hF
    · exact (R.frs e he).but hk hF
    · obtain ⟨h1, L, m, h2, h3, o, es, ep, h5, h6⟩ := R.frs e he
      exact ⟨h1, L, m, h2, h3, o, es, ep, hk _ _ (fun q => hF e he (by rw [h2, q])) h5, h6⟩, R.frm, fun a o e => by
    obtain ⟨ob', h1, h2, h3⟩ := R.objs a o e
    exact ⟨ob', hk _ _ (fun q => by rw [q, hh] at e; cases e) h1, h2, h3⟩, hos.trans R.os, hg ▸ R.gens⟩

theorem FR.cell_ne (F : FR K P own env σ h s) {I : Nat} {ob : Obj} (hI : s.heap.get? I = some ob) (hd : ∀ v, ob.data ≠ .cell v) {n : Str} {c : Nat} (hn : isCF (env.kindOf n)) (hc : env.cells.lookup n = some c) : c ≠ I := by
  obtain ⟨c', ov, h1, h2, _⟩ := F.cells n hn
  rw [hc] at h1; cases h1
  obtain ⟨o, h4, h5⟩ := h2
  intro q
  rw [q, hI] at h4; cases h4; exact hd _ h5
theorem FR.loc_ne (F : FR K P own env σ h s) {I : Nat} {ob : Obj} (hI : s.heap.get? I = some ob) (hd : ∀ es n, ob.data ≠ .dict es n) : env.locals ≠ I := by
  obtain ⟨m, hm, _⟩ := F.loc
  obtain ⟨o, es, ep, h1, h2, _⟩ := hm
  intro q
  rw [q, hI] at h1; cases h1; exact hd _ _ h2

theorem St.junkG (X : St K P own env σ h s) {I : Nat} (hh : h I = Option.none) (hP : P I = none) (hL : env.locals ≠ I) (hC : ∀ n c, isCF (env.kindOf n) → env.cells.lookup n = some c → c ≠ I) (hF : (∀ m, s.heap.Ns I m → ∃ m', s'.heap.Ns I m') ∨ ∀ e ∈ K.fl, e.frame ≠ some I)
    (hk : ∀ b o, b ≠ I → s.heap.get? b = some o → s'.heap.get? b = some o) (hos : s'.os = s.os) (hg : s'.gens = s.gens) : St K P own env σ h s' := by
  refine ⟨X.rel.junk hh hP hF hk hos hg, ⟨X.fr.kind, X.fr.glb, X.fr.bui, ?_, X.fr.locP, X.fr.locM, fun n hn => ?_, X.fr.apart⟩⟩
  · obtain ⟨m, hm, hv⟩ := X.fr.loc
    obtain ⟨o, es, ep, h1, h2⟩ := hm
    exact ⟨m, ⟨o, es, ep, hk _ _ hL h1, h2⟩, hv⟩
  · obtain ⟨c, ov, h1, h2, h3⟩ := X.fr.cells n hn
    obtain ⟨o, h4, h5⟩ := h2
    exact ⟨c, ov, h1, ⟨o, hk _ _ (hC n c hn h1) h4, h5⟩, h3⟩

theorem St.junkF (X : St K P own env σ h s) {I : Nat} {ob : Obj} (hI : s.heap.get? I = some ob) (hd : ∃ fs, ob.data = .fields fs) (hP : P I = none)
    (hk : ∀ b o, b ≠ I → s.heap.get? b = some o → s'.heap.get? b = some o) (hos : s'.os = s.os) (hg : s'.gens = s.gens) : St K P own env σ h s' := by
  obtain ⟨fs, hd⟩ := hd
  exact X.junkG (X.rel.none_fields hI (by rw [hd]; intros; simp) (by rw [hd]; intros; simp)) hP (X.fr.loc_ne hI (by rw [hd]; intros; simp)) (fun n c hn hc => X.fr.cell_ne hI (by rw [hd]; intros; simp) hn hc) (.inl fun m hn => ns_not hI (by rw [hd]; intros; simp) hn) hk hos hg
theorem St.junkL (X : St K P own env σ h s) {D : Nat} {items : Array Value} {n : Nat} (hD : s.heap.get? D = some (listOb items n)) (hM : NM h D) (hP : P D = none)
    (hk : ∀ b o, b ≠ D → s.heap.get? b = some o → s'.heap.get? b = some o) (hos : s'.os = s.os) (hg : s'.gens = s.gens) : St K P own env σ h s' :=
  X.junkG (X.rel.none_list hD hM) hP (X.fr.loc_ne hD (by intros; simp)) (fun _ _ hn hc => X.fr.cell_ne hD (by intros; simp) hn hc) (.inl fun m hn => ns_not hD (by intros; simp) hn) hk hos hg
theorem St.junkD (X : St K P own env σ h s) {C : Nat} {ob : Obj} (hI : s.heap.get? C = some ob) (hd : ∃ es n, ob.data = .dict es n) (hP : P C = none) (hL : env.locals ≠ C) (hF : ∀ e ∈ K.fl, e.frame ≠ some C) (hM : NM h C)
    (hk : ∀ b o, b ≠ C → s.heap.get? b = some o → s'.heap.get? b = some o) (hos : s'.os = s.os) (hg : s'.gens = s.gens) : St K P own env σ h s' := by
  have hz := X.rel.none_ns hI hd hM
  obtain ⟨es, n, hd⟩ := hd
  exact X.junkG hz hP hL (fun n c hn hc => X.fr.cell_ne hI (by rw [hd]; intros; simp) hn hc) (.inr hF) hk hos hg

/-- a list that was made aside becomes ours -/
theorem St.adopt (X : St K P own env σ h s) {D : Nat} {xs : List V} {items : Array Value} {n : Nat} (hD : s.heap.get? D = some (listOb items n)) (hh : h D = Option.none) (hP : P D = none) (hx : VRs K xs items.toList) (hl : xs.length ≤ lim) :
    St K P own env σ (h.set D (.list xs)) s := by
  refine ⟨⟨X.rel.sub, X.rel.base, X.rel.keep, X.rel.frs, fun e he L hL => nm_set (X.rel.frm e he L hL) (fun q => by
      obtain ⟨_, L', m, g2, _, ob, _, _, g5, g6, _⟩ := X.rel.frs e he
      rw [hL] at g2; cases g2; rw [q, hD] at g5; cases g5; cases g6), fun b o' e => ?_, X.rel.os, X.rel.gens⟩, ⟨X.fr.kind, X.fr.glb, X.fr.bui, X.fr.loc, X.fr.locP, fun o' e => ?_, X.fr.cells, X.fr.apart⟩⟩
  · unfold H.set at e
    split at e
    · rename_i q; subst q; cases e; exact ⟨_, hD, .list hx hl, fun _ => hP⟩
    · exact X.rel.objs b o' e
  · unfold H.set at e
    split at e
    · rename_i q; exact absurd q (X.fr.loc_ne hD (by intros; simp))
    · exact X.fr.locM o' e

open Classical in
/-- all that stands is guarded, but our own lists -/
noncomputable def prtOf (h : H) (s : Shared) : Prt := fun b => if ∃ o, h b = some o ∧ o.isMut = true then none else s.heap.get? b

theorem prtOf_some {h : H} {s : Shared} {b : Nat} {o : Obj} (e : prtOf h s b = some o) : s.heap.get? b = some o ∧ NM h b := by
  unfold prtOf at e
  split at e
  · cases e
  · rename_i q
    refine ⟨e, fun o' e' => ?_⟩
    cases r : o'.isMut with
    | false => rfl
    | true => exact absurd ⟨o', e', r⟩ q
theorem prtOf_of {h : H} {s : Shared} {b : Nat} {o : Obj} (e : s.heap.get? b = some o) (hM : NM h b) : prtOf h s b = some o := by
  unfold prtOf
  rw [if_neg]
  · exact e
  · rintro ⟨o', e1, e2⟩
    rw [hM o' e1] at e2; cases e2
theorem prtOf_none {h : H} {s : Shared} {b : Nat} (e : s.heap.get? b = none) : prtOf h s b = none := by
  unfold prtOf; split
  · rfl
  · exact e

theorem Rel.nm_of (R : Rel K P h s) {b : Nat} {o : Obj} (e : P b = some o) : NM h b := fun o' e' => by
  obtain ⟨_, _, _, h3⟩ := R.objs b o' e'
  cases q : o'.isMut with
  | false => rfl
  | true => rw [h3 q] at e; cases e
theorem Rel.nm_shape (R : Rel K P h s) {b : Nat} {ob : Obj} (e : s.heap.get? b = some ob) (hd : ∀ it n, ob.data ≠ .seq it n) (hd' : ∀ es n, ob.data ≠ .dict es n) : NM h b := fun o' e' => by
  rw [R.none_fields e hd hd'] at e'; cases e'

theorem Rel.enter (R : Rel K P h s) : Rel K (prtOf h s) h s :=
  ⟨fun b o e => prtOf_of (R.base b o e) (R.nm_of (R.sub b o e)), R.base, fun _ _ e => ⟨_, (prtOf_some e).1, .refl _⟩, R.frs, R.frm, fun a o e => by
    obtain ⟨ob, h1, h2, _⟩ := R.objs a o e
    refine ⟨ob, h1, h2, fun hm => ?_⟩
    unfold prtOf; rw [if_pos ⟨o, e, hm⟩], R.os, R.gens⟩

theorem St.back (X : St K P own env σ h s) {h' : H} {s' : Shared} (R : Rel K (prtOf h s) h' s') : St K P own env σ h' s' := by
  have nm' : ∀ {b o}, prtOf h s b = some o → NM h' b := fun e => R.nm_of e
  refine ⟨⟨X.rel.sub, R.base, fun b o e => (by
      obtain ⟨o1, g1, g2⟩ := X.rel.keep b o e
      obtain ⟨o2, g3, g4⟩ := R.keep b o1 (prtOf_of g1 (X.rel.nm_of e))
      exact ⟨o2, g3, g2.trans g4⟩), R.frs, R.frm, fun a o e => ?_, R.os, R.gens⟩, ⟨X.fr.kind, X.fr.glb, X.fr.bui, ?_, X.fr.locP, ?_, fun n hn => ?_, X.fr.apart⟩⟩
  · obtain ⟨ob, h1, h2, h3⟩ := R.objs a o e
    refine ⟨ob, h1, h2, fun hm => ?_⟩
    cases q : P a with
    | none => rfl
    | some o1 =>
      obtain ⟨o2, g1, _⟩ := X.rel.keep a o1 q
      have := prtOf_of g1 (X.rel.nm_of q)
      rw [h3 hm] at this; cases this
  · obtain ⟨m, hm, hv⟩ := X.fr.loc
    obtain ⟨o, es, ep, h1, h2⟩ := hm
    obtain ⟨o2, g3, g4⟩ := R.keep _ _ (prtOf_of h1 X.fr.locM)
    exact ⟨m, ⟨o2, es, ep, g3, by rw [g4.data]; exact h2.1, h2.2⟩, hv⟩
  · obtain ⟨m, hm, hv⟩ := X.fr.loc
    obtain ⟨o, es, ep, h1, h2⟩ := hm
    exact nm' (prtOf_of h1 X.fr.locM)
  · obtain ⟨c, ov, h1, h2, h3⟩ := X.fr.cells n hn
    obtain ⟨o, h4, h5⟩ := h2
    obtain ⟨o2, g3, g4⟩ := R.keep _ _ (prtOf_of h4 (X.rel.nm_shape h4 (by rw [h5]; intros; simp) (by rw [h5]; intros; simp)))
    exact ⟨c, ov, h1, ⟨o2, g3, by rw [g4.data]; exact h5⟩, h3⟩

end

section
variable {M : Model} {A : Around} {E : Value → Shared → Prop}
variable {K : KK} {P : Prt} {own : Str → Bool} {env : PySem.Env} {σ : Env} {h : H} {s : Shared}

/-- a name is bound -/
theorem St.store (X : St K P own env σ h s) {x : String} {v : V} {r : Value} {Q : Unit → Shared → Prop} (hx : x ≠ ".0") (hv : VR K v r)
    (hk : env.kindOf (Str.ofString x) = some .local ∨ (env.kindOf (Str.ofString x) = some .cell ∧ own (Str.ofString x) = true))
    (hQ : ∀ s', St K P own env (upd σ x v) h s' → (∀ b o, s.heap.get? b = some o → (∀ es n, o.data ≠ .dict es n) → (∀ v, o.data ≠ .cell v) → s'.heap.get? b = some o) → (∀ b, b ≠ env.locals → ∀ o, s.heap.get? b = some o → (∀ v, o.data ≠ .cell v) → s'.heap.get? b = some o) → Q () s') :
    wpAny M A (storeName env (Str.ofString x) r) Q E s := by
  obtain ⟨m, hm, hmv⟩ := X.fr.loc
  rcases hk with hk | ⟨hk, ho⟩
  · refine wpAny_storeName_local hk hm (fun h' hn hs => ?_) (by rw [X.fr.kind]; rfl)
    obtain ⟨oL, esL, epL, hL1, hL2, _⟩ := id hm
    have hk' : ∀ b o, b ≠ env.locals → s.heap.get? b = some o → h'.get? b = some o := fun b o hb e => (hs.2 b hb).trans e
    refine hQ _ ⟨X.rel.junk (X.rel.none_ns hL1 ⟨_, _, hL2⟩ X.fr.locM) X.fr.locP (.inl fun _ _ => ⟨_, hn⟩) hk' rfl rfl, ⟨X.fr.kind, X.fr.glb, X.fr.bui, ⟨_, hn, fun y v' hy e hky => ?_⟩, X.fr.locP, X.fr.locM, fun n hn' => ?_, X.fr.apart⟩⟩
      (fun b o e hd _ => hk' b o (fun q => by rw [q, hL1] at e; cases e; exact hd _ _ hL2) e) (fun b hb o e _ => hk' b o hb e)
    · unfold upd at e
      split at e
      · rename_i q; subst q; cases e; exact ⟨r, by simp, hv⟩
      · rename_i q
        obtain ⟨rv, h1, h2⟩ := hmv y v' hy e hky
        exact ⟨rv, by rw [if_neg (fun q' => q (ofString_inj q'))]; exact h1, h2⟩
    · obtain ⟨c, ov, h1, h2, h3, h4⟩ := X.fr.cells n hn'
      obtain ⟨o, h5, h6⟩ := h2
      refine ⟨c, ov, h1, ⟨o, hk' _ _ (fun q => by rw [q, hL1] at h5; cases h5; rw [hL2] at h6; cases h6) h5, h6⟩, fun y v' hy e => ?_, h4⟩
      unfold upd at e
      split at e
      · rename_i q; subst q; subst hy; rw [hk] at hn'; rcases hn' with hn' | hn' <;> cases hn'
      · exact h3 y v' hy e
  · obtain ⟨c, ov, h1, h2, h3, h4⟩ := X.fr.cells (Str.ofString x) (.inl hk)
    refine wpAny_storeName_cell X.fr.kind hk h1 h2 fun h' hc hs => ?_
    obtain ⟨oc, h5, h6⟩ := id h2
    have hk' : ∀ b o, b ≠ c → s.heap.get? b = some o → h'.get? b = some o := fun b o hb e => (hs.2 b hb).trans e
    obtain ⟨oL, esL, epL, hL1, hL2, hL3⟩ := id hm
    have hLc : env.locals ≠ c := fun q => by rw [q, h5] at hL1; cases hL1; rw [hL2] at h6; cases h6
    refine hQ _ ⟨X.rel.junk (X.rel.none_fields h5 (by rw [h6]; intros; simp) (by rw [h6]; intros; simp)) (h4 ho) (.inl fun m hn => ns_not h5 (by rw [h6]; intros; simp) hn) hk' rfl rfl, ⟨X.fr.kind, X.fr.glb, X.fr.bui, ⟨m, ⟨oL, esL, epL, hk' _ _ hLc hL1, hL2, hL3⟩, fun y v' hy e hky => ?_⟩, X.fr.locP, X.fr.locM, fun n hn' => ?_, X.fr.apart⟩⟩
      (fun b o e _ hd => hk' b o (fun q => by rw [q, h5] at e; cases e; exact hd _ h6) e) (fun b _ o e hd => hk' b o (fun q => by rw [q, h5] at e; cases e; exact hd _ h6) e)
    · unfold upd at e
      split at e
      · rename_i q; subst q; rw [hk] at hky; cases hky
      · exact hmv y v' hy e hky
    · obtain ⟨c', ov', g1, g2, g3, g4⟩ := X.fr.cells n hn'
      by_cases hcc : c' = c
      · have hnn : n = Str.ofString x := X.fr.apart n _ c hn' (.inl hk) (hcc ▸ g1) h1
        subst hnn
        refine ⟨c, some r, h1, hc, fun y v' hy e => ?_, h4⟩
        unfold upd at e
        split at e
        · cases e; exact ⟨r, rfl, hv⟩
        · rename_i q; exact absurd (ofString_inj hy).symm q
      · obtain ⟨o, h7, h8⟩ := g2
        refine ⟨c', ov', g1, ⟨o, hk' _ _ hcc h7, h8⟩, fun y v' hy e => ?_, g4⟩
        unfold upd at e
        split at e
        · rename_i q; subst q; subst hy; rw [h1] at g1; cases g1; exact absurd rfl hcc
        · exact g3 y v' hy e
end
end MP

end
section
namespace MP
open PySem PyProof.Rows
section
variable {prog : Program} {w : World} {A : Around} {E : Value → Shared → Prop} {k : Nat}
variable {K : KK} {P : Prt} {own : Str → Bool} {env : PySem.Env} {σ : Env} {h : H} {s : Shared}

theorem add_two {l b : Nat} {items items2 : Array Value} {n n2 : Nat} {Q : Value → Shared → Prop} (ho : s.heap.get? l = some (listOb items n)) (ho2 : s.heap.get? b = some (listOb items2 n2)) (hsz : items.size + items2.size ≤ sizeLine)
    (h : Q (.ref s.heap.objs.size) { s with heap := s.heap.push (listOb (items ++ items2) 0) }) : wpAny (model prog w) A (binaryOp .Add (.ref l) (.ref b)) Q E s := by
  refine concat_meets ⟨_, ho, rfl⟩ ⟨_, ho2, rfl⟩ noFill_list_add seq_list_add PySem.F.slot_list_add PySem.F.entry_list_add (PySem.F.args_list_add_2 _ _) (list_addW l b items items2 n n2 none none #[] #[] hsz) ⟨ho, ho2, ?_⟩
  exact h

theorem mul_two {l : Nat} {items : Array Value} {n : Nat} {x : Int} {u : Tok} {Q : Value → Shared → Prop} (ho : s.heap.get? l = some (listOb items n)) (hlo : 0 ≤ x) (hhi : x ≤ 1000000) (hsz : items.size * x.toNat ≤ 1000000)
    (h : Q (.ref s.heap.objs.size) { s with heap := s.heap.push (listOb (List.replicate x.toNat items.toList).flatten.toArray 0) }) : wpAny (model prog w) A (binaryOp .Mult (.ref l) (.int x u)) Q E s := by
  refine wpAny_binaryOp_repeat_ref (T := "list") (U := "int") (by decide) ⟨_, ho, rfl⟩ (fun s' => typeIs_int s' x u) noFill_list_mul F.fills_int_mul F.slot_int_rmul repeat_list F.slot_int_index.lookup
    (call_meets F.slot_int_rmul (typeIs_int s x u) F.entry_int_rmul (F.args_int_rmul_2 _ _) (lm_int_rmul_list_any x u l items n none #[])
      ⟨ho, rfl, ⟨_, ho, rfl⟩, call_meets F.slot_list_mul ⟨_, ho, rfl⟩ F.entry_list_mul (F.args_list_mul_2 _ _)
        (lm_list_mul_any l items n none #[] x u (by simp [Builtin.List.listFitsIndex]; (first | lia | omega)) (by (first | lia | omega)) (by simp [Builtin.List.listTooLong, sizeLine]; (first | lia | omega)))
        ⟨ho, ?_⟩⟩)
  rw [listMul_foldl_if]
  exact h

theorem VRs.flat {vs : List V} {rs : List Value} (hv : VRs K vs rs) : ∀ k, VRs K (List.replicate k vs).flatten (List.replicate k rs).flatten
  | 0 => by simp; exact .nil
  | k + 1 => by simp only [List.replicate_succ, List.flatten_cons]; exact hv.append (hv.flat k)

theorem snd_binop {op : Op} {va vb : V} {ra rb : Value} {Q : V → H → Prop} (X : St K P own env σ h s) (ha : VR K va ra) (hb : VR K vb rb) (hq : binop op va vb h Q) :
    wpAny (model prog w) A (binaryOp (opOf op) ra rb) (EP K P own env σ Q) E s := by
  cases ha with
  | int i t =>
    cases hb <;> (try (cases op <;> exact hq.elim))
    rename_i j u
    cases op with
    | add => exact add_int ⟨_, _, .int _ _, X.grow (.tok s _), hq⟩
    | sub => exact sub_int ⟨_, _, .int _ _, X.grow (.tok s _), hq⟩
    | mul => exact mul_int ⟨_, _, .int _ _, X.grow (.tok s _), hq.2.2⟩ (.of_left (log2_small hq.1))
    | div =>
      refine floordiv_int (by have := hq.1; (first | lia | omega)) ⟨_, _, .int _ _, X.grow (.tok s _), ?_⟩ (.inl (PyProof.noPylong_small (by have := hq.1; have := hq.2.1; unfold lim at *; (first | lia | omega))))
      rw [Int.fdiv_eq_ediv_of_nonneg _ (by have := hq.1; (first | lia | omega))]; exact hq.2.2
    | mod =>
      refine mod_int (by have := hq.1; (first | lia | omega)) ⟨_, _, .int _ _, X.grow (.tok s _), ?_⟩
      rw [Int.fmod_eq_emod_of_nonneg _ (by have := hq.1; (first | lia | omega))]; exact hq.2
  | ref a =>
    cases hb <;> (try (cases op <;> exact hq.elim))
    · rename_i k t
      cases op <;> (try exact hq.elim)
      conv at hq => whnf
      cases q : h a with
      | none => simp only [q] at hq
      | some o =>
        cases o with
        | dict kvs => simp only [q] at hq
        | tup xs => simp only [q] at hq
        | list xs =>
          simp only [q] at hq
          obtain ⟨items, n, h1, h2, h3⟩ := X.rel.list q
          have e1 : items.size = xs.length := by rw [← Array.length_toList, h2.length]
          obtain ⟨hk0, hk1, hk2, hq⟩ := hq
          refine mul_two h1 hk0 (by unfold lim at hk1; (first | lia | omega)) (by rw [e1]; exact hk2) ?_
          obtain ⟨k1, k2⟩ := X.addPush (o := .list (List.replicate k.toNat xs).flatten) (ob := listOb (List.replicate k.toNat items.toList).flatten.toArray 0) (t := s.toks) (.list (by simpa using h2.flat k.toNat) (by simpa [Nat.mul_comm] using hk2))
          exact ⟨_, _, .ref _, k2, hq _ k1⟩
    rename_i b
    cases op <;> (try exact hq.elim)
    conv at hq => whnf
    cases q : h a with
    | none => simp only [q] at hq
    | some o =>
      cases o with
      | dict kvs => simp only [q] at hq
      | tup xs => simp only [q] at hq
      | list xs =>
        simp only [q] at hq
        cases q2 : h b with
        | none => simp only [q2] at hq
        | some o =>
          cases o with
          | dict kvs => simp only [q2] at hq
          | tup xs => simp only [q2] at hq
          | list ys =>
            simp only [q2] at hq
            obtain ⟨items, n, h1, h2, h3⟩ := X.rel.list q
            obtain ⟨items2, n2, g1, g2, g3⟩ := X.rel.list q2
            have e1 : items.size = xs.length := by rw [← Array.length_toList, h2.length]
            have e2 : items2.size = ys.length := by rw [← Array.length_toList, g2.length]
            refine add_two h1 g1 (by rw [e1, e2]; exact sizeLine_lim hq.1) ?_
            obtain ⟨k1, k2⟩ := X.addPush (o := .list (xs ++ ys)) (ob := listOb (items ++ items2) 0) (t := s.toks) (.list (by simpa using h2.append g2) (by simpa using hq.1))
            exact ⟨_, _, .ref _, k2, hq.2 _ k1⟩
  | _ => cases op <;> exact hq.elim

theorem ofL_list {va : V} {K : List V → Prop} (hq : ofL va h K) : ∃ a xs, va = .ref a ∧ h a = some (.list xs) ∧ K xs := by
  cases va <;> (try exact hq.elim)
  rename_i a
  conv at hq => whnf
  cases q : h a with
  | none => simp only [q] at hq
  | some o =>
    cases o with
    | dict kvs => simp only [q] at hq
    | tup xs => simp only [q] at hq
    | list xs => simp only [q] at hq; exact ⟨_, _, rfl, q, hq⟩
theorem natI_int {v : V} {K : Nat → Prop} (hq : natI v K) : ∃ k : Nat, v = .int k ∧ K k := by
  cases v <;> (try exact hq.elim)
  rename_i i
  exact ⟨i.toNat, by rw [Int.toNat_of_nonneg hq.1], hq.2⟩
theorem VRs.take {vs : List V} {rs : List Value} (hv : VRs K vs rs) : ∀ k, VRs K (vs.take k) (rs.take k) := by
  induction hv with
  | nil => intro k; simp; exact .nil
  | cons a _ ih =>
    intro k
    cases k with
    | zero => exact .nil
    | succ k => exact .cons a (ih k)
theorem VRs.drop {vs : List V} {rs : List Value} (hv : VRs K vs rs) : ∀ k, VRs K (vs.drop k) (rs.drop k) := by
  induction hv with
  | nil => intro k; simp; exact .nil
  | cons a r ih =>
    intro k
    cases k with
    | zero => exact .cons a r
    | succ k => exact ih k
theorem VRs.rev {vs : List V} {rs : List Value} (hv : VRs K vs rs) : VRs K vs.reverse rs.reverse := by
  induction hv with
  | nil => exact .nil
  | cons a _ ih => simp only [List.reverse_cons]; exact ih.append (.one a)
end
end MP

end
section
/-! What a loop goes over. -/
namespace MP
open PySem PyProof.Rows

noncomputable def rngL (x d : Int) : Nat → List V
  | 0 => []
  | n + 1 => .int x :: rngL (x + d) d n
theorem rngL_length (d : Int) : ∀ (n : Nat) (x : Int), (rngL x d n).length = n
  | 0, _ => rfl
  | n + 1, x => by simp [rngL, rngL_length d n]
theorem rngL_get (d : Int) : ∀ (n : Nat) (x : Int) (i : Nat), i < n → (rngL x d n)[i]? = some (.int (x + d * (i : Int)))
  | 0, _, _, h => absurd h (Nat.not_lt_zero _)
  | n + 1, x, 0, _ => by simp [rngL]
  | n + 1, x, i + 1, h => by
    simp only [rngL, List.getElem?_cons_succ]
    rw [rngL_get d n (x + d) i (by (first | lia | omega))]
    congr 2
    push_cast
    rw [Int.mul_add]; (first | lia | omega)
theorem upTo_rngL (a b : Int) : (upTo a b).map V.int = rngL a 1 (b - a).toNat := by
  apply List.ext_getElem?
  intro i
  by_cases hi : i < (b - a).toNat
  · rw [rngL_get _ _ _ _ hi]
    simp [upTo, hi]
  · rw [List.getElem?_eq_none (by simp [upTo]; (first | lia | omega)), List.getElem?_eq_none (by rw [rngL_length]; (first | lia | omega))]
/-- the iterator at I stands ahead of rest -/
noncomputable def ItAt (I : Nat) (k : Option (Nat × List V)) (rest : List V) (s : Shared) : Prop :=
  match k with
  | some (a, xs) => ∃ i, s.heap.IsListIter I a i ∧ rest = xs.drop i
  | Option.none => ∃ x d n, IsRangeIter s.heap I x (n : Nat) d ∧ rest = rngL x d n

theorem ItAt.at {I : Nat} {k : Option (Nat × List V)} {rest : List V} {s s' : Shared} (h : ItAt I k rest s) (e : ∀ o, s.heap.get? I = some o → s'.heap.get? I = some o) : ItAt I k rest s' := by
  cases k with
  | some p =>
    obtain ⟨i, h1, h2⟩ := h
    exact ⟨i, h1.at e, h2⟩
  | none =>
    obtain ⟨x, d, n, h1, h2⟩ := h
    exact ⟨x, d, n, e _ h1, h2⟩
theorem ItAt.ob {I : Nat} {k : Option (Nat × List V)} {rest : List V} {s : Shared} (h : ItAt I k rest s) : ∃ ob, s.heap.get? I = some ob ∧ ∃ fs, ob.data = .fields fs := by
  cases k with
  | some p =>
    obtain ⟨i, ⟨o, h1, _, h3⟩, _⟩ := h
    exact ⟨o, h1, _, h3⟩
  | none =>
    obtain ⟨x, d, n, h1, _⟩ := h
    exact ⟨_, h1, _, rfl⟩

section
variable {prog : Program} {w : World} {A : Around} {E : Value → Shared → Prop} {k : Nat}
variable {K : KK} {P : Prt} {own : Str → Bool} {env : PySem.Env} {σ : Env} {h : H} {s : Shared}

theorem iter_self {I : Nat} {kp : Option (Nat × List V)} {rest : List V} {Q : Value → Shared → Prop} (hI : ItAt I kp rest s) (hQ : Q (.ref I) s) : wpAny (model prog w) A (pyIter (.ref I)) Q E s := by
  cases kp with
  | some p =>
    obtain ⟨i, h1, _⟩ := hI
    exact wpAny_pyIter_listiter h1 hQ
  | none =>
    obtain ⟨x, d, n, h1, _⟩ := hI
    have hT : s.TypeIs (.ref I) "range_iterator" := ⟨_, h1, rfl⟩
    refine wpAny_pyIter_slot hT F.slot_range_iterator_iter (wpAny_call_entry F.slot_range_iterator_iter hT F.entry_range_iterator_iter ?_ (F.args_range_iterator_iter_1 _))
    exact wpAny_pure ⟨_, rfl, "range_iterator", _, hT, F.slot_range_iterator_next.lookup, hQ⟩

theorem iter_item {I : Nat} {kp : Option (Nat × List V)} {v : V} {rest : List V} {Q : Option Value → Shared → Prop} (R : Rel K P h s) (hs : stays kp h) (hI : ItAt I kp (v :: rest) s)
    (hQ : ∀ rv s', VR K v rv → ItAt I kp rest s' → (∀ b, b ≠ I → s'.heap.get? b = s.heap.get? b) → s'.os = s.os → s'.gens = s.gens → Q (some rv) s') : wpAny (model prog w) A (pyNext (.ref I)) Q E s := by
  cases kp with
  | some p =>
    obtain ⟨a, xs⟩ := p
    obtain ⟨i, h1, h2⟩ := hI
    obtain ⟨items, n, g1, g2, g3⟩ := R.list hs
    have e1 : xs[i]? = some v := by
      have := congrArg (fun l => l[0]?) h2
      simp at this
      exact this.symm
    obtain ⟨rv, e2, e3⟩ := g2.get e1
    refine wpAny_pyNext_list_item h1 ⟨_, g1, rfl, _, rfl⟩ (by rw [← Array.getElem?_toList]; exact e2) fun h' j1 j2 => ?_
    refine hQ rv _ e3 ⟨i + 1, j1, ?_⟩ j2.2 rfl rfl
    have := congrArg List.tail h2
    simpa using this
  | none =>
    obtain ⟨x, d, n, h1, h2⟩ := hI
    cases n with
    | zero => simp [rngL] at h2
    | succ n =>
      simp only [rngL, List.cons.injEq] at h2
      obtain ⟨rfl, rfl⟩ := h2
      refine wpAny_pyNext_range_item h1 (by (first | lia | omega)) fun h' j1 j2 => ?_
      refine hQ _ _ (.int _ _) ⟨x + d, d, n, ?_, rfl⟩ j2.2 rfl rfl
      rw [show ((n + 1 : Nat) : Int) - 1 = (n : Nat) by (first | lia | omega)] at j1
      exact j1

theorem iter_end {I : Nat} {kp : Option (Nat × List V)} {Q : Option Value → Shared → Prop} (hh : A.handled = none) (R : Rel K P h s) (hs : stays kp h) (hI : ItAt I kp [] s)
    (hQ : ∀ s', (∀ b o, b ≠ I → s.heap.get? b = some o → s'.heap.get? b = some o) → s'.os = s.os → s'.gens = s.gens → Q none s') : wpAny (model prog w) A (pyNext (.ref I)) Q E s := by
  cases kp with
  | some p =>
    obtain ⟨a, xs⟩ := p
    obtain ⟨i, h1, h2⟩ := hI
    obtain ⟨items, n, g1, g2, g3⟩ := R.list hs
    have e1 : xs.length ≤ i := by
      have := congrArg List.length h2
      simp at this; (first | lia | omega)
    refine wpAny_pyNext_list_end hh h1 ⟨_, g1, rfl, _, rfl⟩ (by rw [← Array.getElem?_toList]; exact g2.get_none (List.getElem?_eq_none e1)) fun h' j => hQ _ (fun b o hb e => j b o hb e) rfl rfl
  | none =>
    obtain ⟨x, d, n, h1, h2⟩ := hI
    cases n with
    | succ n => simp [rngL] at h2
    | zero => exact wpAny_pyNext_range_end hh h1 (by (first | lia | omega)) fun h' j => hQ _ (fun b o hb e => j b o hb e) rfl rfl

/-- the value r of a for's head stands for these items -/
noncomputable def SrcV (prog : Program) (w : World) (A : Around) (r : Value) (xs : List V) (kp : Option (Nat × List V)) (s : Shared) : Prop :=
  ∀ (E : Value → Shared → Prop) (Q : Value → Shared → Prop), (∀ I s', Grown s s' → s.heap.get? I = none → ItAt I kp xs s' → Q (.ref I) s') → wpAny (model prog w) A (pyIter r) Q E s

theorem srcV_list {a : Nat} {xs : List V} (R : Rel K P h s) (e : h a = some (.list xs)) : SrcV prog w A (.ref a) xs (some (a, xs)) s := fun E Q hQ => by
  obtain ⟨items, n, g1, g2, g3⟩ := R.list e
  exact wpAny_pyIter_list ⟨_, g1, rfl, _, rfl⟩ (hQ _ _ (.push' s _) (fresh_none _) ⟨0, ⟨_, Heap.get?_push_size _ rfl, rfl, rfl⟩, rfl⟩)

theorem srcV_range {r : Nat} {a b c : Int} {t u v : Tok} {n : Nat} (hr : IsRange s.heap r a b c t u v) (hs : Builtin.Range.small a b c = true) (hn : Builtin.Range.rangeSize a b c = (n : Nat)) :
    SrcV prog w A (.ref r) (rngL a c n) Option.none s := fun E Q hQ => by
  refine wpAny_pyIter_range hr hs (hQ _ _ (.push' s _) (fresh_none _) ⟨a, c, n, ?_, rfl⟩)
  rw [← hn]
  exact Heap.get?_push_size _ rfl

theorem small_up {a b : Int} (ha : inLim a) (hb : inLim b) : Builtin.Range.small a b 1 = true ∧ Builtin.Range.rangeSize a b 1 = ((b - a).toNat : Nat) := by
  unfold inLim at ha hb
  refine ⟨small_one (by (first | lia | omega)) (by (first | lia | omega)) (by (first | lia | omega)) (by (first | lia | omega)), ?_⟩
  rw [rangeSize_one]; split <;> (first | lia | omega)
end
end MP

end
section
/-! The frame of a comprehension. -/
namespace MP
open PySem PyProof.Rows

noncomputable def isCFb (k : Option NameKind) : Bool := match k with | some .cell => true | some .free => true | _ => false
theorem isCF_of {k : Option NameKind} (h : isCFb k = true) : isCF k := by
  cases k with
  | none => cases h
  | some k => cases k <;> first | exact .inl rfl | exact .inr rfl | cases h

/-- a comprehension's table under its block's -/
noncomputable def compSc (outer csc : Scope) : Scope :=
  { csc with names := csc.names.map fun (n, k) => if (k == .free && outer.kind == .function && outer.names.lookup n == some .cell) then (n, .cell) else (n, k) }
noncomputable def scOk (outer csc : Scope) (xs : List String) : Bool :=
  csc.kind == .function && csc.names.all (fun p => csc.names.lookup p.1 == some p.2) &&
  csc.names.all fun p => match p.2 with
    | .free => isCFb (outer.names.lookup p.1)
    | .local => p.1 == Str.ofString ".0" || xs.any fun x => Str.ofString x == p.1
    | .cell => xs.any fun x => Str.ofString x == p.1
    | _ => true
noncomputable def compOwn (csc : Scope) (n : Str) : Bool := match csc.names.lookup n with | some .local => true | some .cell => true | _ => false

theorem lookup_mem {α : Type} : ∀ {l : List (Str × α)} {n : Str} {c : α}, l.lookup n = some c → (n, c) ∈ l := mem_of_lookup

theorem lookup_map (f : Str → NameKind → NameKind) : ∀ (names : List (Str × NameKind)) (n : Str), (names.map fun p => (p.1, f p.1 p.2)).lookup n = (names.lookup n).map (f n)
  | [], _ => rfl
  | (m, k) :: r, n => by
    simp only [List.map_cons, List.lookup_cons]
    cases q : n == m with
    | true => simp; rw [beq_iff_eq.mp q]
    | false => exact lookup_map f r n

theorem compSc_lookup (outer csc : Scope) (n : Str) : (compSc outer csc).names.lookup n = (csc.names.lookup n).map fun k => if (k == .free && outer.kind == .function && outer.names.lookup n == some .cell) then .cell else k := by
  have : (compSc outer csc).names = csc.names.map fun p => (p.1, (fun m k => if (k == NameKind.free && outer.kind == .function && outer.names.lookup m == some .cell) then .cell else k) p.1 p.2) := by
    unfold compSc
    apply List.map_congr_left
    intro p _
    obtain ⟨m, k⟩ := p
    dsimp only
    split <;> rfl
  rw [this]
  exact lookup_map (fun m k => if (k == NameKind.free && outer.kind == .function && outer.names.lookup m == some .cell) then .cell else k) csc.names n

theorem compSc_cf {outer csc : Scope} {n : Str} (h : isCF ((compSc outer csc).names.lookup n)) : csc.names.lookup n = some .cell ∨ csc.names.lookup n = some .free := by
  rw [compSc_lookup] at h
  cases q : csc.names.lookup n with
  | none => rw [q] at h; rcases h with h | h <;> cases h
  | some k =>
    rw [q] at h
    cases k <;> first | exact .inl rfl | exact .inr rfl | (rcases h with h | h <;> simp at h)
theorem compSc_local {outer csc : Scope} {n : Str} (h : (compSc outer csc).names.lookup n = some .local) : csc.names.lookup n = some .local := by
  rw [compSc_lookup] at h
  cases q : csc.names.lookup n with
  | none => rw [q] at h; cases h
  | some k => rw [q] at h; cases k <;> first | rfl | (simp at h; done) | (simp at h; split at h <;> cases h)

section
variable {outer csc : Scope} {xs : List String}
theorem scOk.kind (h : scOk outer csc xs = true) : csc.kind = .function := by
  simp only [scOk, Bool.and_eq_true] at h; exact beq_iff_eq.mp h.1.1
theorem scOk.same (h : scOk outer csc xs = true) : ∀ p ∈ csc.names, csc.names.lookup p.1 = some p.2 := by
  simp only [scOk, Bool.and_eq_true, List.all_eq_true] at h
  intro p hp; exact beq_iff_eq.mp (h.1.2 p hp)
theorem scOk.free (h : scOk outer csc xs = true) {n : Str} (hn : csc.names.lookup n = some .free) : isCF (outer.names.lookup n) := by
  simp only [scOk, Bool.and_eq_true, List.all_eq_true] at h
  exact isCF_of (h.2 _ (lookup_mem hn))
theorem scOk.mine (h : scOk outer csc xs = true) {x : String} (hx : x ≠ ".0") (hn : csc.names.lookup (Str.ofString x) = some .local ∨ csc.names.lookup (Str.ofString x) = some .cell) : x ∈ xs := by
  simp only [scOk, Bool.and_eq_true, List.all_eq_true] at h
  have key : (xs.any fun y => Str.ofString y == Str.ofString x) = true → x ∈ xs := fun q => by
    obtain ⟨y, hy, e⟩ := List.any_eq_true.mp q
    rw [ofString_inj (beq_iff_eq.mp e)] at hy; exact hy
  rcases hn with hn | hn
  · have := h.2 _ (lookup_mem hn)
    simp only [Bool.or_eq_true] at this
    rcases this with this | this
    · exact absurd (ofString_inj (beq_iff_eq.mp this)) hx
    · exact key this
  · exact key (h.2 _ (lookup_mem hn))
end

/-- what a comprehension catches of its block -/
noncomputable def clOf (f : Str → Option PySem.Addr) : List (Str × NameKind) → List (Str × PySem.Addr) → List (Str × PySem.Addr)
  | [], acc => acc
  | (n, k) :: r, acc => clOf f r (if k == .free then (n, (f n).getD 0) :: acc else acc)

theorem clOf_free (f : Str → Option PySem.Addr) (n : Str) (c : PySem.Addr) (hf : f n = some c) : ∀ (names : List (Str × NameKind)) (acc : List (Str × PySem.Addr)), ((n, .free) ∈ names ∨ acc.lookup n = some c) → (clOf f names acc).lookup n = some c
  | [], acc, h => by
    rcases h with h | h
    · cases h
    · exact h
  | (m, k) :: r, acc, h => by
    unfold clOf
    refine clOf_free f n c hf r _ ?_
    rcases h with h | h
    · rcases List.mem_cons.mp h with e | h
      · cases e; right; simp [hf]
      · exact .inl h
    · right
      split
      · rw [List.lookup_cons]
        cases q2 : n == m with
        | true => rw [← beq_iff_eq.mp q2, hf]; rfl
        | false => exact h
      · exact h

theorem closure_loop {env : PySem.Env} (f : Str × NameKind → List (Str × PySem.Addr) → Sem (ForInStep (List (Str × PySem.Addr))))
    (hf : ∀ name kind cs, f (name, kind) cs = if kind == .free then (do let a ← cellOf env name; pure (.yield ((name, a) :: cs))) else pure (.yield cs)) :
    ∀ (names : List (Str × NameKind)) (acc : List (Str × PySem.Addr)), (∀ n, (n, NameKind.free) ∈ names → ∃ c, env.cells.lookup n = some c) → forIn names acc f = pure (clOf (fun n => env.cells.lookup n) names acc)
  | [], _, _ => rfl
  | (m, k) :: r, acc, h => by
    rw [List.forIn_cons, hf]
    unfold clOf
    split
    · rename_i q
      obtain ⟨c, hc⟩ := h m (by rw [beq_iff_eq.mp q]; exact List.mem_cons_self)
      have : cellOf env m = pure c := by unfold cellOf; rw [hc]
      rw [this]
      simp only [pure_bind]
      rw [hc]
      exact closure_loop f hf r _ fun n hn => h n (List.mem_cons_of_mem _ hn)
    · simp only [pure_bind]
      exact closure_loop f hf r _ fun n hn => h n (List.mem_cons_of_mem _ hn)
theorem closureFor_eq {env : PySem.Env} {csc : Scope} (h : ∀ n, (n, NameKind.free) ∈ csc.names → ∃ c, env.cells.lookup n = some c) : closureFor csc env = pure (clOf (fun n => env.cells.lookup n) csc.names []) := by
  unfold closureFor
  show (forIn csc.names [] _ >>= fun cs => pure cs) = _
  rw [closure_loop _ (fun name kind cs => by cases q : kind == NameKind.free <;> simp [q]) csc.names [] h]
  rfl

theorem cellsFrom_keep (x : Str) : ∀ (names : List (Str × NameKind)) (n0 : Nat) (acc : List (Str × PySem.Addr)), (∀ p ∈ names, p.1 = x → p.2 ≠ .cell) → (cellsFrom n0 names acc).lookup x = acc.lookup x
  | [], _, _, _ => rfl
  | (m, k) :: r, n0, acc, h => by
    unfold cellsFrom
    have hr : ∀ p ∈ r, p.1 = x → p.2 ≠ .cell := fun p hp => h p (List.mem_cons_of_mem _ hp)
    split
    · rename_i q
      rw [cellsFrom_keep x r _ _ hr]
      have : (x == m) = false := by
        cases q2 : x == m with
        | false => rfl
        | true => exact absurd (beq_iff_eq.mp q) (h (m, k) List.mem_cons_self (beq_iff_eq.mp q2).symm)
      rw [List.lookup_cons, this]
    · exact cellsFrom_keep x r _ _ hr
theorem cellsFrom_new (x : Str) (lo : Nat) : ∀ (names : List (Str × NameKind)) (n0 : Nat) (acc : List (Str × PySem.Addr)), lo ≤ n0 → ((x, .cell) ∈ names ∨ ∃ c, acc.lookup x = some c ∧ lo ≤ c) → ∃ c, (cellsFrom n0 names acc).lookup x = some c ∧ lo ≤ c
  | [], _, _, _, h => by
    rcases h with h | h
    · cases h
    · exact h
  | (m, k) :: r, n0, acc, hlo, h => by
    unfold cellsFrom
    split
    · rename_i q
      refine cellsFrom_new x lo r _ _ (by (first | lia | omega)) ?_
      cases q2 : x == m with
      | true => right; exact ⟨n0, by rw [List.lookup_cons, q2], hlo⟩
      | false =>
        rcases h with h | h
        · rcases List.mem_cons.mp h with e | h
          · cases e; simp at q2
          · exact .inl h
        · right; rw [List.lookup_cons, q2]; exact h
    · rename_i q
      refine cellsFrom_new x lo r _ _ hlo ?_
      rcases h with h | h
      · rcases List.mem_cons.mp h with e | h
        · cases e; simp at q
        · exact .inl h
      · exact .inr h
theorem cellsFrom_inj : ∀ (names : List (Str × NameKind)) (n0 : Nat) (acc : List (Str × PySem.Addr)), (∀ p ∈ acc, p.2 < n0) → ∀ p ∈ cellsFrom n0 names acc, ∀ q ∈ cellsFrom n0 names acc, p.2 = q.2 → p = q ∨ (p ∈ acc ∧ q ∈ acc)
  | [], _, _, _, _, hp, _, hq, _ => .inr ⟨hp, hq⟩
  | (m, k) :: r, n0, acc, hacc, p, hp, q, hq, e => by
    unfold cellsFrom at hp hq
    split at hp
    · rename_i hk
      rw [if_pos hk] at hq
      have h' : ∀ p ∈ (m, n0) :: acc, p.2 < n0 + 1 := fun p hp => by
        rcases List.mem_cons.mp hp with rfl | hp
        · exact Nat.lt_succ_self _
        · exact Nat.lt_succ_of_lt (hacc p hp)
      rcases cellsFrom_inj r _ _ h' p hp q hq e with h1 | ⟨h1, h2⟩
      · exact .inl h1
      · rcases List.mem_cons.mp h1 with rfl | h1 <;> rcases List.mem_cons.mp h2 with rfl | h2
        · exact .inl rfl
        · exact absurd (e ▸ hacc q h2) (Nat.lt_irrefl _)
        · exact absurd (e ▸ hacc p h1) (Nat.lt_irrefl _)
        · exact .inr ⟨h1, h2⟩
    · rename_i hk
      rw [if_neg hk] at hq
      exact cellsFrom_inj r _ _ hacc p hp q hq e
theorem cellsFrom_cell : ∀ (names : List (Str × NameKind)) (hp : Heap) (acc : List (Str × PySem.Addr)), ∀ p ∈ cellsFrom hp.objs.size names acc, p ∈ acc ∨ (pushCells hp names).IsCell p.2 none
  | [], _, _, _, hp => .inl hp
  | (m, k) :: r, hp, acc, p, hm => by
    unfold cellsFrom at hm
    unfold pushCells
    split at hm
    · rename_i hk
      rw [if_pos hk]
      have hsz : (hp.push { cls := .type "cell", data := .cell none }).objs.size = hp.objs.size + 1 := Heap.size_push ..
      rw [← hsz] at hm
      rcases cellsFrom_cell r _ _ p hm with h1 | h1
      · rcases List.mem_cons.mp h1 with rfl | h1
        · right
          exact ⟨_, pushCells_keeps _ _ _ _ (Heap.get?_push_size _ rfl), rfl⟩
        · exact .inl h1
      · exact .inr h1
    · rename_i hk
      rw [if_neg hk]
      exact cellsFrom_cell r hp acc p hm

/-- the names of a comprehension are not yet bound -/
noncomputable def clr (σ : Env) (xs : List String) : Env := fun y => if y ∈ xs then Option.none else σ y

section
variable {M : Model} {A : Around} {E : Value → Shared → Prop} {s : Shared}

theorem newEnv_comp {csc : Scope} {globals : PySem.Addr} {cl : List (Str × PySem.Addr)} {qual : Str} {env : PySem.Env} {Q : PySem.Env → Shared → Prop}
    (hQ : Q { scope := csc, locals := s.heap.objs.size, globals, cells := cellsFrom (s.heap.objs.size + 1) csc.names cl, qual, func := none, code := env.code, frame := env.frame, builtins := env.builtins }
      { s with heap := pushCells (s.heap.push { cls := .type "dict", data := .dict #[] }) csc.names }) :
    wpAny M A (newFunctionEnv csc globals cl [] qual none .none (some env)) Q E s := by
  simp only [newFunctionEnv, Option.isSome_some, if_true]
  refine wpAny_bind (wpAny_alloc ?_)
  refine wpAny_bind (wpAny_layCells _ (fun name kind cells => by cases hkc : kind == NameKind.cell <;> simp [hkc]) _ _ _ _ ?_)
  rw [show ({ s with heap := s.heap.push { cls := .type "dict", data := .dict #[] } } : Shared).heap.objs.size = s.heap.objs.size + 1 from Heap.size_push ..]
  simp only [List.forIn_nil]
  exact wpAny_bind (wpAny_pure (wpAny_pure hQ))
end

section
variable {K : KK} {P : Prt} {own : Str → Bool} {env : PySem.Env} {σ : Env} {h : H} {s s₁ : Shared}

noncomputable abbrev compEnv (env : PySem.Env) (csc : Scope) (L : Nat) : PySem.Env :=
  { scope := compSc env.scope csc, locals := L, globals := env.globals, cells := cellsFrom (L + 1) csc.names (clOf (fun n => env.cells.lookup n) csc.names []), qual := env.qual, func := none, code := env.code, frame := env.frame, builtins := env.builtins }
noncomputable abbrev compHeap (hp : Heap) (csc : Scope) : Heap := pushCells (hp.push { cls := .type "dict", data := .dict #[] }) csc.names

theorem clOf_mem (f : Str → Option PySem.Addr) : ∀ (names : List (Str × NameKind)) (acc : List (Str × PySem.Addr)), ∀ p ∈ clOf f names acc, p ∈ acc ∨ ((p.1, .free) ∈ names ∧ p.2 = (f p.1).getD 0)
  | [], _, _, h => .inl h
  | (m, k) :: r, acc, p, h => by
    unfold clOf at h
    rcases clOf_mem f r _ p h with h1 | ⟨h1, h2⟩
    · split at h1
      · rename_i q
        rcases List.mem_cons.mp h1 with rfl | h1
        · right; exact ⟨by rw [beq_iff_eq.mp q]; exact List.mem_cons_self, rfl⟩
        · exact .inl h1
      · exact .inl h1
    · exact .inr ⟨List.mem_cons_of_mem _ h1, h2⟩

theorem comp_frees (X : St K P own env σ h s) {csc : Scope} {xs : List String} (hsc : scOk env.scope csc xs = true) : ∀ n, (n, NameKind.free) ∈ csc.names → ∃ c, env.cells.lookup n = some c := fun n hn => by
  obtain ⟨c, _, h1, _⟩ := X.fr.cells n (scOk.free hsc (scOk.same hsc _ hn))
  exact ⟨c, h1⟩

theorem comp_frame (X : St K P own env σ h s) {csc : Scope} {xs : List String} (hsc : scOk env.scope csc xs = true) (g : Grown s s₁) :
    St K (prtOf h s) (compOwn csc) (compEnv env csc s₁.heap.objs.size) (clr σ xs) h { s₁ with heap := compHeap s₁.heap csc } ∧ Grown s₁ { s₁ with heap := compHeap s₁.heap csc } := by
  have g2 : Grown s₁ { s₁ with heap := compHeap s₁.heap csc } := .of' fun b o e => pushCells_keeps _ _ _ _ (Heap.get?_push_of_some _ e)
  have sz : ∀ b, s₁.heap.objs.size ≤ b → s.heap.get? b = none := fun b hb => by
    cases q : s.heap.get? b with
    | none => rfl
    | some o => exact absurd (Heap.lt_size (g.heap _ _ q)) (Nat.not_lt.mpr hb)
  have hL := sz _ (Nat.le_refl _)
  have hsize : (s₁.heap.push { cls := .type "dict", data := .dict #[] }).objs.size = s₁.heap.objs.size + 1 := Heap.size_push ..
  have hacc : ∀ p ∈ clOf (fun n => env.cells.lookup n) csc.names [], p.2 < s₁.heap.objs.size + 1 := fun p hp => by
    rcases clOf_mem _ _ _ p hp with h1 | ⟨h1, h2⟩
    · cases h1
    · obtain ⟨c, ov, h3, h4, _⟩ := X.fr.cells p.1 (scOk.free hsc (scOk.same hsc _ h1))
      rw [h2, h3]
      have := (h4.keeps g.heap).lt
      exact Nat.lt_succ_of_lt this
  have fr : ∀ n, csc.names.lookup n = some .free → ∃ c ov, (cellsFrom (s₁.heap.objs.size + 1) csc.names (clOf (fun n => env.cells.lookup n) csc.names [])).lookup n = some c ∧ env.cells.lookup n = some c ∧ s.heap.IsCell c ov ∧
      (∀ (x : String) v, n = Str.ofString x → σ x = some v → ∃ rv, ov = some rv ∧ VR K v rv) ∧ c < s₁.heap.objs.size := fun n hn => by
    obtain ⟨c, ov, h1, h2, h3, _⟩ := X.fr.cells n (scOk.free hsc hn)
    refine ⟨c, ov, ?_, h1, h2, h3, (h2.keeps g.heap).lt⟩
    rw [cellsFrom_keep n _ _ _ fun p hp e q => by
      have := scOk.same hsc p hp
      rw [e, hn, q] at this; cases this]
    exact clOf_free _ n c h1 _ _ (.inl (lookup_mem hn))
  have nw : ∀ n, csc.names.lookup n = some .cell → ∃ c, (cellsFrom (s₁.heap.objs.size + 1) csc.names (clOf (fun n => env.cells.lookup n) csc.names [])).lookup n = some c ∧ s₁.heap.objs.size + 1 ≤ c ∧ (compHeap s₁.heap csc).IsCell c none := fun n hn => by
    obtain ⟨c, h1, h2⟩ := cellsFrom_new n (s₁.heap.objs.size + 1) csc.names _ (clOf (fun n => env.cells.lookup n) csc.names []) (Nat.le_refl _) (.inl (lookup_mem hn))
    refine ⟨c, h1, h2, ?_⟩
    rw [← hsize] at h1
    rcases cellsFrom_cell _ _ _ _ (lookup_mem h1) with h3 | h3
    · exact absurd (Nat.lt_of_lt_of_le (hacc _ h3) h2) (Nat.lt_irrefl _)
    · exact h3
  refine ⟨⟨(X.rel.enter.grow g).grow g2, ⟨show csc.kind = _ from scOk.kind hsc, X.fr.glb, X.fr.bui, ⟨fun _ => none, ?_, fun x v hx e hk => ?_⟩, prtOf_none hL, fun o e => ?_, fun n hn => ?_, fun n n' c hn hn' e e' => ?_⟩⟩, g2⟩
  · exact (Heap.Ns.new s₁.heap (.type "dict")).keeps (pushCells_keeps _ _)
  · have := scOk.mine hsc hx (.inl (compSc_local hk))
    unfold clr at e; rw [if_pos this] at e; cases e
  · rw [X.rel.none_of hL] at e; cases e
  · rcases compSc_cf hn with hc | hc
    · obtain ⟨c, h1, h2, h3⟩ := nw n hc
      refine ⟨c, none, h1, h3, fun x v hx e => ?_, fun _ => prtOf_none (sz c (Nat.le_of_succ_le h2))⟩
      subst hx
      have hx0 : x ∈ xs := by
        have h4 := (scOk.same hsc _ (lookup_mem hc))
        simp only [scOk, Bool.and_eq_true, List.all_eq_true] at hsc
        have := hsc.2 _ (lookup_mem hc)
        obtain ⟨y, hy, e⟩ := List.any_eq_true.mp this
        rw [ofString_inj (beq_iff_eq.mp e)] at hy; exact hy
      unfold clr at e; rw [if_pos hx0] at e; cases e
    · obtain ⟨c, ov, h1, h2, h3, h4, h5⟩ := fr n hc
      refine ⟨c, ov, h1, (h3.keeps g.heap).keeps g2.heap, fun x v hx e => ?_, fun ho => ?_⟩
      · unfold clr at e
        split at e
        · cases e
        · exact h4 x v hx e
      · unfold compOwn at ho; rw [hc] at ho; cases ho
  · rcases compSc_cf hn with hc | hc <;> rcases compSc_cf hn' with hc' | hc'
    · rcases cellsFrom_inj _ _ _ hacc _ (lookup_mem e) _ (lookup_mem e') rfl with q | ⟨q, _⟩
      · exact congrArg Prod.fst q
      · obtain ⟨c2, h1, h2, _⟩ := nw n hc
        have e2 : (cellsFrom (s₁.heap.objs.size + 1) csc.names (clOf (fun n => env.cells.lookup n) csc.names [])).lookup n = some c := e
        rw [e2] at h1; cases h1
        exact absurd (Nat.lt_of_lt_of_le (hacc _ q) h2) (Nat.lt_irrefl _)
    · obtain ⟨c2, h1, h2, _⟩ := nw n hc
      obtain ⟨c3, _, h3, _, _, _, h4⟩ := fr n' hc'
      have e2 : (cellsFrom (s₁.heap.objs.size + 1) csc.names (clOf (fun n => env.cells.lookup n) csc.names [])).lookup n = some c := e
      have e3 : (cellsFrom (s₁.heap.objs.size + 1) csc.names (clOf (fun n => env.cells.lookup n) csc.names [])).lookup n' = some c := e'
      rw [e2] at h1; cases h1; rw [e3] at h3; cases h3; exact absurd (Nat.lt_of_lt_of_le h4 (Nat.le_of_succ_le h2)) (Nat.lt_irrefl _)
    · obtain ⟨c2, h1, h2, _⟩ := nw n' hc'
      obtain ⟨c3, _, h3, _, _, _, h4⟩ := fr n hc
      have e2 : (cellsFrom (s₁.heap.objs.size + 1) csc.names (clOf (fun n => env.cells.lookup n) csc.names [])).lookup n = some c := e
      have e3 : (cellsFrom (s₁.heap.objs.size + 1) csc.names (clOf (fun n => env.cells.lookup n) csc.names [])).lookup n' = some c := e'
      rw [e3] at h1; cases h1; rw [e2] at h3; cases h3; exact absurd (Nat.lt_of_lt_of_le h4 (Nat.le_of_succ_le h2)) (Nat.lt_irrefl _)
    · obtain ⟨c2, _, h1, h2, _⟩ := fr n hc
      obtain ⟨c3, _, h3, h4, _⟩ := fr n' hc'
      have e2 : (cellsFrom (s₁.heap.objs.size + 1) csc.names (clOf (fun n => env.cells.lookup n) csc.names [])).lookup n = some c := e
      have e3 : (cellsFrom (s₁.heap.objs.size + 1) csc.names (clOf (fun n => env.cells.lookup n) csc.names [])).lookup n' = some c := e'
      rw [e2] at h1; cases h1; rw [e3] at h3; cases h3
      exact X.fr.apart n n' _ (scOk.free hsc hc) (scOk.free hsc hc') h2 h4
end
end MP

end
section
/-! The tie between the small language and the program's own trees: a look that says yes or no. -/
namespace MP
open PySem PyProof.Rows

noncomputable def varOk (sc : Scope) (x : String) (id : Str) : Bool :=
  id == Str.ofString x && x != ".0" && (match sc.names.lookup id with | some .local => true | some .cell => true | some .free => true | _ => false) && !(id == Str.ofString "__debug__") && !(id == Str.ofString "__classdict__")
noncomputable def globOk (sc : Scope) (x : String) (id : Str) : Bool :=
  id == Str.ofString x && sc.names.lookup id == some .globalImplicit && !(id == Str.ofString "__debug__")
noncomputable def tgNames : Tg → List String
  | .name x => [x]
noncomputable def chkNm (sc : Scope) (own : Str → Bool) (x : String) (e : Expr) : Bool := e.ctorIdx == 23 && (match e with
  | .Name id _ => id == Str.ofString x && x != ".0" && (match sc.names.lookup id with | some .local => true | some .cell => own id | _ => false)
  | _ => false)
noncomputable def chkTg (sc : Scope) (own : Str → Bool) (t : Tg) (e : Expr) : Bool :=
  match t with
  | .name x => chkNm sc own x e
noncomputable def notSlice : Expr → Bool
  | .Slice .. => false
  | _ => true
noncomputable def notSet : Expr → Bool
  | .Set .. => false
  | _ => true
noncomputable def notStar : Expr → Bool
  | .Starred .. => false
  | _ => true

noncomputable def oneB {α : Type} (l : List α) (f : α → Bool) : Bool := match l with
  | [o] => f o
  | _ => false
noncomputable def twoB {α : Type} (l : List α) (f : α → α → Bool) : Bool := match l with
  | [o, p] => f o p
  | _ => false
mutual
noncomputable def chkE (fs : List String) (sc : Scope) : PE → Expr → Bool
  | .none, e => e.ctorIdx == 19 && (match e with
    | .Constant c _ _ => c.ctorIdx == 0
    | _ => false)
  | .bool b, e => e.ctorIdx == 19 && (match e with
    | .Constant c _ _ => c.ctorIdx == 1 && (match c with
      | .bool c => b == c
      | _ => false)
    | _ => false)
  | .int i, e => e.ctorIdx == 19 && (match e with
    | .Constant c _ _ => c.ctorIdx == 2 && (match c with
      | .int c => i == c
      | _ => false)
    | _ => false)
  | .ty t, e => e.ctorIdx == 23 && (match e with
    | .Name id _ => tyNames.contains t && globOk sc t id
    | _ => false)
  | .var x, e => e.ctorIdx == 23 && (match e with
    | .Name id _ => varOk sc x id
    | _ => false)
  | .glob x, e => e.ctorIdx == 23 && (match e with
    | .Name id _ => globOk sc x id
    | _ => false)
  | .bin op a b, e => e.ctorIdx == 2 && (match e with
    | .BinOp l o r _ => o == opOf op && chkE fs sc a l && chkE fs sc b r
    | _ => false)
  | .neg a, e => e.ctorIdx == 3 && (match e with
    | .UnaryOp o l _ => o == .USub && chkE fs sc a l
    | _ => false)
  | .not a, e => e.ctorIdx == 3 && (match e with
    | .UnaryOp o l _ => o == .Not && chkE fs sc a l
    | _ => false)
  | .cmp op a b, e => e.ctorIdx == 15 && (match e with
    | .Compare l os rs _ => oneB os fun o => oneB rs fun r => o == cmOf op && !behindInMarks o r && chkE fs sc a l && chkE fs sc b r
    | _ => false)
  | .band es, e => e.ctorIdx == 0 && (match e with
    | .BoolOp o l _ => o == .And && chkEs fs sc es l
    | _ => false)
  | .bor es, e => e.ctorIdx == 0 && (match e with
    | .BoolOp o l _ => o == .Or && chkEs fs sc es l
    | _ => false)
  | .sub a i, e => e.ctorIdx == 21 && (match e with
    | .Subscript l r _ => notSlice r && chkE fs sc a l && chkE fs sc i r
    | _ => false)
  | .take a i, e => e.ctorIdx == 21 && (match e with
    | .Subscript l r _ => l.ctorIdx == 23 && (r.ctorIdx == 26 && (match r with
      | .Slice lo up st _ => lo.isNone && (st.isNone && (up.isSome && (match up with
        | some u => chkE fs sc a l && chkE fs sc i u
        | none => false)))
      | _ => false))
    | _ => false)
  | .drop a i, e => e.ctorIdx == 21 && (match e with
    | .Subscript l r _ => l.ctorIdx == 23 && (r.ctorIdx == 26 && (match r with
      | .Slice lo up st _ => up.isNone && (st.isNone && (lo.isSome && (match lo with
        | some u => chkE fs sc a l && chkE fs sc i u
        | none => false)))
      | _ => false))
    | _ => false)
  | .dict0, e => e.ctorIdx == 6 && (match e with
    | .Dict ks vs _ => ks.isEmpty && vs.isEmpty
    | _ => false)
  | .getd a k d, e => e.ctorIdx == 16 && (match e with
    | .Call g l ks pos => ks.isEmpty && (g.ctorIdx == 20 && (match g with
      | .Attribute o name apos => (o.ctorIdx == 23 || o.ctorIdx == 21) && (name == Str.ofString "get" && apos.endLine == pos.line && chkE fs sc a o && twoB l fun x y => notStar x && notStar y && chkE fs sc k x && chkE fs sc d y)
      | _ => false))
    | _ => false)
  | .list es, e => e.ctorIdx == 24 && (match e with
    | .List l _ => decide (l.length ≤ 1000) && chkEs fs sc es l
    | _ => false)
  | .tup es, e => e.ctorIdx == 25 && (match e with
    | .Tuple l _ _ => decide (l.length ≤ 1000) && chkEs fs sc es l
    | _ => false)
  | .call f es, e => e.ctorIdx == 16 && (match e with
    | .Call g l ks _ => ks.isEmpty && (g.ctorIdx == 23 && (match g with
      | .Name id _ => fs.contains f && globOk sc f id && chkEs fs sc es l
      | _ => false))
    | _ => false)
  | .bfn f es, e => e.ctorIdx == 16 && (match e with
    | .Call g l ks _ => ks.isEmpty && (g.ctorIdx == 23 && (match g with
      | .Name id _ => globOk sc (bfName f) id && chkEs fs sc es l
      | _ => false))
    | _ => false)
  | .meth a m es, e => e.ctorIdx == 16 && (match e with
    | .Call g l ks pos => ks.isEmpty && (g.ctorIdx == 20 && (match g with
      | .Attribute o name apos => (o.ctorIdx == 23 || o.ctorIdx == 21) && (name == Str.ofString (mtName m) && apos.endLine == pos.line && decide (l.length < 20) && chkE fs sc a o && chkEs fs sc es l)
      | _ => false))
    | _ => false)
  | .comp elt t src ifs, e => e.ctorIdx == 8 && (match e with
    | .ListComp el gs csc _ => oneB gs fun g => g.is_async == 0 && (scOk sc csc (tgNames t) && chkTg (compSc sc csc) (compOwn csc) t g.target && notSet g.iter && chkSrc fs sc src g.iter && chkEs fs (compSc sc csc) ifs g.ifs && chkE fs (compSc sc csc) elt el)
    | _ => false)
noncomputable def chkEs (fs : List String) (sc : Scope) : PEs → List Expr → Bool
  | .nil, l => (match l with
    | [] => true
    | _ => false)
  | .cons e r, l => (match l with
    | x :: xs => notStar x && chkE fs sc e x && chkEs fs sc r xs
    | _ => false)
noncomputable def chkSrc (fs : List String) (sc : Scope) : Src → Expr → Bool
  | .up a, e => e.ctorIdx == 16 && (match e with
    | .Call g l ks _ => ks.isEmpty && (g.ctorIdx == 23 && (match g with
      | .Name id _ => oneB l fun x => globOk sc "range" id && notStar x && chkE fs sc a x
      | _ => false))
    | _ => false)
  | .fromTo a b, e => e.ctorIdx == 16 && (match e with
    | .Call g l ks _ => ks.isEmpty && (g.ctorIdx == 23 && (match g with
      | .Name id _ => twoB l fun x y => globOk sc "range" id && notStar x && notStar y && chkE fs sc a x && chkE fs sc b y
      | _ => false))
    | _ => false)
  | .seq a, e => chkE fs sc a e
end

noncomputable def notComp : Expr → Bool
  | .ListComp .. => false
  | .SetComp .. => false
  | .DictComp .. => false
  | _ => true
noncomputable def isComp : PE → Bool
  | .comp .. => true
  | _ => false

noncomputable def notTup (v : Expr) : Bool := !(v.ctorIdx == 25)
noncomputable def twoSub (l : List Expr) : Bool := twoB l fun a b => a.ctorIdx == 21 && b.ctorIdx == 21
noncomputable def chkLvs (fs : List String) (sc : Scope) : List Lv → List Expr → Bool
  | [], l => l.isEmpty
  | v :: vs, l => (match l with
    | [] => false
    | x :: xs => (match v with
      | .tg (.name y) => x.ctorIdx == 23 && chkTg sc (fun _ => true) (.name y) x
      | .sub a i => x.ctorIdx == 21 && (match x with
        | .Subscript l r _ => notSlice r && chkE fs sc a l && chkE fs sc i r
        | _ => false)) && chkLvs fs sc vs xs)

mutual
noncomputable def chkS (fs : List String) (sc : Scope) : PS → Stmt → Bool
  | .assign (.tg (.name x)) e, st => st.ctorIdx == 5 && (match st with
    | .Assign ts v _ => oneB ts fun t => t.ctorIdx == 23 && (chkTg sc (fun _ => true) (.name x) t && (isComp e || notComp v) && chkE fs sc e v)
    | _ => false)
  | .assign (.sub a i) e, st => st.ctorIdx == 5 && (match st with
    | .Assign ts v _ => oneB ts fun t => t.ctorIdx == 21 && (match t with
      | .Subscript l r _ => chkE fs sc a l && chkE fs sc i r && chkE fs sc e v
      | _ => false)
    | _ => false)
  | .unp ls e, st => st.ctorIdx == 5 && (match st with
    | .Assign ts v _ => oneB ts fun t => t.ctorIdx == 25 && (match t with
      | .Tuple elts _ _ => (notTup v || twoSub elts) && notComp v && chkLvs fs sc ls elts && chkE fs sc e v
      | _ => false)
    | _ => false)
  | .expr e, st => st.ctorIdx == 24 && (match st with
    | .Expr v _ => v.ctorIdx == 16 && chkE fs sc e v
    | _ => false)
  | .ite c a b, st => st.ctorIdx == 12 && (match st with
    | .If t l r _ => chkE fs sc c t && chkSs fs sc a l && chkSs fs sc b r
    | _ => false)
  | .whl c b, st => st.ctorIdx == 11 && (match st with
    | .While t l el _ => el.isEmpty && (chkE fs sc c t && chkSs fs sc b l)
    | _ => false)
  | .fr t src b, st => st.ctorIdx == 9 && (match st with
    | .For tg it l el _ => el.isEmpty && (chkTg sc (fun _ => true) t tg && notSet it && chkSrc fs sc src it && chkSs fs sc b l)
    | _ => false)
  | .stop, st => st.ctorIdx == 16
  | .ret e, st => st.ctorIdx == 3 && (match st with
    | .Return v _ => (match v with
      | some x => chkE fs sc e x
      | none => false)
    | _ => false)
noncomputable def chkSs (fs : List String) (sc : Scope) : PSs → List Stmt → Bool
  | .nil, l => (match l with
    | [] => true
    | _ => false)
  | .cons s r, l => (match l with
    | x :: xs => chkS fs sc s x && chkSs fs sc r xs
    | _ => false)
end
end MP

end
section
/-! What a yes of the look says of the tree (printed by a program of mine). -/
namespace MP
open PySem PyProof.Rows
theorem e_BoolOp {x : Expr} (h : (x.ctorIdx == 0) = true) : ∃ o l p, x = .BoolOp o l p := Expr.BoolOp.elim x (eq_of_beq h) fun o l p => ⟨o, l, p, rfl⟩
theorem e_BinOp {x : Expr} (h : (x.ctorIdx == 2) = true) : ∃ l o r p, x = .BinOp l o r p := Expr.BinOp.elim x (eq_of_beq h) fun l o r p => ⟨l, o, r, p, rfl⟩
theorem e_UnaryOp {x : Expr} (h : (x.ctorIdx == 3) = true) : ∃ o l p, x = .UnaryOp o l p := Expr.UnaryOp.elim x (eq_of_beq h) fun o l p => ⟨o, l, p, rfl⟩
theorem e_ListComp {x : Expr} (h : (x.ctorIdx == 8) = true) : ∃ el gs csc p, x = .ListComp el gs csc p := Expr.ListComp.elim x (eq_of_beq h) fun el gs csc p => ⟨el, gs, csc, p, rfl⟩
theorem e_Compare {x : Expr} (h : (x.ctorIdx == 15) = true) : ∃ l os rs p, x = .Compare l os rs p := Expr.Compare.elim x (eq_of_beq h) fun l os rs p => ⟨l, os, rs, p, rfl⟩
theorem e_Call {x : Expr} (h : (x.ctorIdx == 16) = true) : ∃ g l ks p, x = .Call g l ks p := Expr.Call.elim x (eq_of_beq h) fun g l ks p => ⟨g, l, ks, p, rfl⟩
theorem e_Constant {x : Expr} (h : (x.ctorIdx == 19) = true) : ∃ c k p, x = .Constant c k p := Expr.Constant.elim x (eq_of_beq h) fun c k p => ⟨c, k, p, rfl⟩
theorem e_Attribute {x : Expr} (h : (x.ctorIdx == 20) = true) : ∃ o n p, x = .Attribute o n p := Expr.Attribute.elim x (eq_of_beq h) fun o n p => ⟨o, n, p, rfl⟩
theorem e_Subscript {x : Expr} (h : (x.ctorIdx == 21) = true) : ∃ l r p, x = .Subscript l r p := Expr.Subscript.elim x (eq_of_beq h) fun l r p => ⟨l, r, p, rfl⟩
theorem e_Name {x : Expr} (h : (x.ctorIdx == 23) = true) : ∃ id p, x = .Name id p := Expr.Name.elim x (eq_of_beq h) fun id p => ⟨id, p, rfl⟩
theorem e_Slice {x : Expr} (h : (x.ctorIdx == 26) = true) : ∃ lo up st p, x = .Slice lo up st p := Expr.Slice.elim x (eq_of_beq h) fun lo up st p => ⟨lo, up, st, p, rfl⟩
theorem e_List {x : Expr} (h : (x.ctorIdx == 24) = true) : ∃ l p, x = .List l p := Expr.List.elim x (eq_of_beq h) fun l p => ⟨l, p, rfl⟩
theorem e_Tuple {x : Expr} (h : (x.ctorIdx == 25) = true) : ∃ l k p, x = .Tuple l k p := Expr.Tuple.elim x (eq_of_beq h) fun l k p => ⟨l, k, p, rfl⟩
theorem e_none {x : Const} (h : (x.ctorIdx == 0) = true) : x = .none := Const.none.elim (motive := fun x => x = .none) x (eq_of_beq h) rfl
theorem e_bool {x : Const} (h : (x.ctorIdx == 1) = true) : ∃ b, x = .bool b := Const.bool.elim x (eq_of_beq h) fun b => ⟨b, rfl⟩
theorem e_int {x : Const} (h : (x.ctorIdx == 2) = true) : ∃ i, x = .int i := Const.int.elim x (eq_of_beq h) fun i => ⟨i, rfl⟩
theorem e_sReturn {x : Stmt} (h : (x.ctorIdx == 3) = true) : ∃ v p, x = .Return v p := Stmt.Return.elim x (eq_of_beq h) fun v p => ⟨v, p, rfl⟩
theorem e_sAssign {x : Stmt} (h : (x.ctorIdx == 5) = true) : ∃ ts v p, x = .Assign ts v p := Stmt.Assign.elim x (eq_of_beq h) fun ts v p => ⟨ts, v, p, rfl⟩
theorem e_sFor {x : Stmt} (h : (x.ctorIdx == 9) = true) : ∃ t i b el p, x = .For t i b el p := Stmt.For.elim x (eq_of_beq h) fun t i b el p => ⟨t, i, b, el, p, rfl⟩
theorem e_sWhile {x : Stmt} (h : (x.ctorIdx == 11) = true) : ∃ t b el p, x = .While t b el p := Stmt.While.elim x (eq_of_beq h) fun t b el p => ⟨t, b, el, p, rfl⟩
theorem e_sIf {x : Stmt} (h : (x.ctorIdx == 12) = true) : ∃ t a b p, x = .If t a b p := Stmt.If.elim x (eq_of_beq h) fun t a b p => ⟨t, a, b, p, rfl⟩
theorem e_sExpr {x : Stmt} (h : (x.ctorIdx == 24) = true) : ∃ v p, x = .Expr v p := Stmt.Expr.elim x (eq_of_beq h) fun v p => ⟨v, p, rfl⟩
theorem and_tt {a b : Bool} (h : (a && b) = true) : a = true ∧ b = true := Bool.and_eq_true_iff.mp h
theorem empty_nil {α : Type} {l : List α} (h : l.isEmpty = true) : l = [] := List.isEmpty_iff.mp h
theorem i_none {fs : List String} {sc : Scope} {x : Expr} (h : chkE fs sc .none x = true) : ∃ p q, x = .Constant .none p q := by
  obtain ⟨h1, u1⟩ := and_tt h
  obtain ⟨c, k, p, rfl⟩ := e_Constant h1
  cases e_none u1
  exact ⟨_, _, rfl⟩
theorem i_bool {fs : List String} {sc : Scope} {x : Expr} {b : Bool} (h : chkE fs sc (.bool b) x = true) : ∃ c p q, x = .Constant (.bool c) p q ∧ (b == c) = true := by
  obtain ⟨h1, u1⟩ := and_tt h
  obtain ⟨c, k, p, rfl⟩ := e_Constant h1
  obtain ⟨h2, u2⟩ := and_tt u1
  obtain ⟨c, rfl⟩ := e_bool h2
  exact ⟨_, _, _, rfl, u2⟩
theorem i_int {fs : List String} {sc : Scope} {x : Expr} {i : Int} (h : chkE fs sc (.int i) x = true) : ∃ c p q, x = .Constant (.int c) p q ∧ (i == c) = true := by
  obtain ⟨h1, u1⟩ := and_tt h
  obtain ⟨c, k, p, rfl⟩ := e_Constant h1
  obtain ⟨h2, u2⟩ := and_tt u1
  obtain ⟨c, rfl⟩ := e_int h2
  exact ⟨_, _, _, rfl, u2⟩
theorem i_ty {fs : List String} {sc : Scope} {x : Expr} {t : String} (h : chkE fs sc (.ty t) x = true) : ∃ id p, x = .Name id p ∧ (tyNames.contains t && globOk sc t id) = true := by
  obtain ⟨h1, u1⟩ := and_tt h
  obtain ⟨id, p, rfl⟩ := e_Name h1
  exact ⟨_, _, rfl, u1⟩
theorem i_var {fs : List String} {sc : Scope} {x : Expr} {y : String} (h : chkE fs sc (.var y) x = true) : ∃ id p, x = .Name id p ∧ varOk sc y id = true := by
  obtain ⟨h1, u1⟩ := and_tt h
  obtain ⟨id, p, rfl⟩ := e_Name h1
  exact ⟨_, _, rfl, u1⟩
theorem i_glob {fs : List String} {sc : Scope} {x : Expr} {y : String} (h : chkE fs sc (.glob y) x = true) : ∃ id p, x = .Name id p ∧ globOk sc y id = true := by
  obtain ⟨h1, u1⟩ := and_tt h
  obtain ⟨id, p, rfl⟩ := e_Name h1
  exact ⟨_, _, rfl, u1⟩
theorem i_bin {fs : List String} {sc : Scope} {x : Expr} {op : Op} {a b : PE} (h : chkE fs sc (.bin op a b) x = true) : ∃ l o r p, x = .BinOp l o r p ∧ (o == opOf op && chkE fs sc a l && chkE fs sc b r) = true := by
  obtain ⟨h1, u1⟩ := and_tt h
  obtain ⟨l, o, r, p, rfl⟩ := e_BinOp h1
  exact ⟨_, _, _, _, rfl, u1⟩
theorem i_neg {fs : List String} {sc : Scope} {x : Expr} {a : PE} (h : chkE fs sc (.neg a) x = true) : ∃ l p, x = .UnaryOp .USub l p ∧ chkE fs sc a l = true := by
  obtain ⟨h1, u1⟩ := and_tt h
  obtain ⟨o, l, p, rfl⟩ := e_UnaryOp h1
  obtain ⟨h2, u2⟩ := and_tt u1
  cases eq_of_beq h2
  exact ⟨_, _, rfl, u2⟩
theorem i_not {fs : List String} {sc : Scope} {x : Expr} {a : PE} (h : chkE fs sc (.not a) x = true) : ∃ l p, x = .UnaryOp .Not l p ∧ chkE fs sc a l = true := by
  obtain ⟨h1, u1⟩ := and_tt h
  obtain ⟨o, l, p, rfl⟩ := e_UnaryOp h1
  obtain ⟨h2, u2⟩ := and_tt u1
  cases eq_of_beq h2
  exact ⟨_, _, rfl, u2⟩
theorem i_band {fs : List String} {sc : Scope} {x : Expr} {es : PEs} (h : chkE fs sc (.band es) x = true) : ∃ l p, x = .BoolOp .And l p ∧ chkEs fs sc es l = true := by
  obtain ⟨h1, u1⟩ := and_tt h
  obtain ⟨o, l, p, rfl⟩ := e_BoolOp h1
  obtain ⟨h2, u2⟩ := and_tt u1
  cases eq_of_beq h2
  exact ⟨_, _, rfl, u2⟩
theorem i_bor {fs : List String} {sc : Scope} {x : Expr} {es : PEs} (h : chkE fs sc (.bor es) x = true) : ∃ l p, x = .BoolOp .Or l p ∧ chkEs fs sc es l = true := by
  obtain ⟨h1, u1⟩ := and_tt h
  obtain ⟨o, l, p, rfl⟩ := e_BoolOp h1
  obtain ⟨h2, u2⟩ := and_tt u1
  cases eq_of_beq h2
  exact ⟨_, _, rfl, u2⟩
theorem one_of {α : Type} {l : List α} {f : α → Bool} (h : oneB l f = true) : ∃ o, l = [o] ∧ f o = true := by
  rcases l with _ | ⟨o, _ | ⟨_, _⟩⟩
  · exact Bool.noConfusion h
  · exact ⟨o, rfl, h⟩
  · exact Bool.noConfusion h
theorem two_of {α : Type} {l : List α} {f : α → α → Bool} (h : twoB l f = true) : ∃ o p, l = [o, p] ∧ f o p = true := by
  rcases l with _ | ⟨o, _ | ⟨p, _ | ⟨_, _⟩⟩⟩
  · exact Bool.noConfusion h
  · exact Bool.noConfusion h
  · exact ⟨o, p, rfl, h⟩
  · exact Bool.noConfusion h
theorem i_cmp {fs : List String} {sc : Scope} {x : Expr} {op : Cm} {a b : PE} (h : chkE fs sc (.cmp op a b) x = true) : ∃ l o r p, x = .Compare l [o] [r] p ∧ (o == cmOf op && !behindInMarks o r && chkE fs sc a l && chkE fs sc b r) = true := by
  obtain ⟨h1, u1⟩ := and_tt h
  obtain ⟨l, os, rs, p, rfl⟩ := e_Compare h1
  try dsimp only at u1
  obtain ⟨o, rfl, u2⟩ := one_of u1
  try dsimp only at u2
  obtain ⟨r, rfl, u3⟩ := one_of u2
  exact ⟨_, _, _, _, rfl, u3⟩
theorem i_sub {fs : List String} {sc : Scope} {x : Expr} {a i : PE} (h : chkE fs sc (.sub a i) x = true) : ∃ l r p, x = .Subscript l r p ∧ (notSlice r && chkE fs sc a l && chkE fs sc i r) = true := by
  obtain ⟨h1, u1⟩ := and_tt h
  obtain ⟨l, r, p, rfl⟩ := e_Subscript h1
  exact ⟨_, _, _, rfl, u1⟩
theorem none_of {α : Type} {o : Option α} (h : o.isNone = true) : o = none := Option.isNone_iff_eq_none.mp h
theorem some_of {α : Type} {o : Option α} (h : o.isSome = true) : ∃ a, o = some a := Option.isSome_iff_exists.mp h
theorem i_take {fs : List String} {sc : Scope} {x : Expr} {a i : PE} (h : chkE fs sc (.take a i) x = true) : ∃ id p u q pos, x = .Subscript (.Name id p) (.Slice none (some u) none q) pos ∧ (chkE fs sc a (.Name id p) && chkE fs sc i u) = true := by
  obtain ⟨h1, u1⟩ := and_tt h
  obtain ⟨l, r, pos, rfl⟩ := e_Subscript h1
  obtain ⟨h2, u2⟩ := and_tt u1
  obtain ⟨id, p, rfl⟩ := e_Name h2
  obtain ⟨h3, u3⟩ := and_tt u2
  obtain ⟨lo, up, st, q, rfl⟩ := e_Slice h3
  obtain ⟨h4, u4⟩ := and_tt u3
  cases none_of h4
  obtain ⟨h5, u5⟩ := and_tt u4
  cases none_of h5
  obtain ⟨h6, u6⟩ := and_tt u5
  obtain ⟨u, rfl⟩ := some_of h6
  exact ⟨_, _, _, _, _, rfl, u6⟩
theorem i_drop {fs : List String} {sc : Scope} {x : Expr} {a i : PE} (h : chkE fs sc (.drop a i) x = true) : ∃ id p u q pos, x = .Subscript (.Name id p) (.Slice (some u) none none q) pos ∧ (chkE fs sc a (.Name id p) && chkE fs sc i u) = true := by
  obtain ⟨h1, u1⟩ := and_tt h
  obtain ⟨l, r, pos, rfl⟩ := e_Subscript h1
  obtain ⟨h2, u2⟩ := and_tt u1
  obtain ⟨id, p, rfl⟩ := e_Name h2
  obtain ⟨h3, u3⟩ := and_tt u2
  obtain ⟨lo, up, st, q, rfl⟩ := e_Slice h3
  obtain ⟨h4, u4⟩ := and_tt u3
  cases none_of h4
  obtain ⟨h5, u5⟩ := and_tt u4
  cases none_of h5
  obtain ⟨h6, u6⟩ := and_tt u5
  obtain ⟨u, rfl⟩ := some_of h6
  exact ⟨_, _, _, _, _, rfl, u6⟩
theorem i_list {fs : List String} {sc : Scope} {x : Expr} {es : PEs} (h : chkE fs sc (.list es) x = true) : ∃ l p, x = .List l p ∧ (decide (l.length ≤ 1000) && chkEs fs sc es l) = true := by
  obtain ⟨h1, u1⟩ := and_tt h
  obtain ⟨l, p, rfl⟩ := e_List h1
  exact ⟨_, _, rfl, u1⟩
theorem i_tup {fs : List String} {sc : Scope} {x : Expr} {es : PEs} (h : chkE fs sc (.tup es) x = true) : ∃ l p q, x = .Tuple l p q ∧ (decide (l.length ≤ 1000) && chkEs fs sc es l) = true := by
  obtain ⟨h1, u1⟩ := and_tt h
  obtain ⟨l, p, q, rfl⟩ := e_Tuple h1
  exact ⟨_, _, _, rfl, u1⟩
theorem i_call {fs : List String} {sc : Scope} {x : Expr} {f : String} {es : PEs} (h : chkE fs sc (.call f es) x = true) : ∃ id p l pos, x = .Call (.Name id p) l [] pos ∧ (fs.contains f && globOk sc f id && chkEs fs sc es l) = true := by
  obtain ⟨h1, u1⟩ := and_tt h
  obtain ⟨g, l, ks, pos, rfl⟩ := e_Call h1
  obtain ⟨h2, u2⟩ := and_tt u1
  cases empty_nil h2
  obtain ⟨h3, u3⟩ := and_tt u2
  obtain ⟨id, p, rfl⟩ := e_Name h3
  exact ⟨_, _, _, _, rfl, u3⟩
theorem i_bfn {fs : List String} {sc : Scope} {x : Expr} {f : Bf} {es : PEs} (h : chkE fs sc (.bfn f es) x = true) : ∃ id p l pos, x = .Call (.Name id p) l [] pos ∧ (globOk sc (bfName f) id && chkEs fs sc es l) = true := by
  obtain ⟨h1, u1⟩ := and_tt h
  obtain ⟨g, l, ks, pos, rfl⟩ := e_Call h1
  obtain ⟨h2, u2⟩ := and_tt u1
  cases empty_nil h2
  obtain ⟨h3, u3⟩ := and_tt u2
  obtain ⟨id, p, rfl⟩ := e_Name h3
  exact ⟨_, _, _, _, rfl, u3⟩
theorem i_meth {fs : List String} {sc : Scope} {x : Expr} {a : PE} {m : Mt} {es : PEs} (h : chkE fs sc (.meth a m es) x = true) : ∃ o name apos l pos, x = .Call (.Attribute o name apos) l [] pos ∧ (o.ctorIdx == 23 || o.ctorIdx == 21) = true ∧ (name == Str.ofString (mtName m) && apos.endLine == pos.line && decide (l.length < 20) && chkE fs sc a o && chkEs fs sc es l) = true := by
  obtain ⟨h1, u1⟩ := and_tt h
  obtain ⟨g, l, ks, pos, rfl⟩ := e_Call h1
  obtain ⟨h2, u2⟩ := and_tt u1
  cases empty_nil h2
  obtain ⟨h3, u3⟩ := and_tt u2
  obtain ⟨o, n, p, rfl⟩ := e_Attribute h3
  obtain ⟨h4, u4⟩ := and_tt u3
  exact ⟨_, _, _, _, _, rfl, h4, u4⟩
theorem i_dict0 {fs : List String} {sc : Scope} {x : Expr} (h : chkE fs sc .dict0 x = true) : ∃ p, x = .Dict [] [] p := by
  obtain ⟨h1, u1⟩ := and_tt h
  have : ∃ ks vs p, x = .Dict ks vs p := Expr.Dict.elim x (eq_of_beq h1) fun ks vs p => ⟨ks, vs, p, rfl⟩
  obtain ⟨ks, vs, p, rfl⟩ := this
  obtain ⟨h2, u2⟩ := and_tt u1
  cases empty_nil h2
  cases empty_nil u2
  exact ⟨_, rfl⟩
theorem i_getd {fs : List String} {sc : Scope} {x : Expr} {a k d : PE} (h : chkE fs sc (.getd a k d) x = true) : ∃ o apos y z pos, x = .Call (.Attribute o (Str.ofString "get") apos) [y, z] [] pos ∧ (o.ctorIdx == 23 || o.ctorIdx == 21) = true ∧ (apos.endLine == pos.line) = true ∧ chkE fs sc a o = true ∧ (notStar y && notStar z && chkE fs sc k y && chkE fs sc d z) = true := by
  obtain ⟨h1, u1⟩ := and_tt h
  obtain ⟨g, l, ks, pos, rfl⟩ := e_Call h1
  obtain ⟨h2, u2⟩ := and_tt u1
  cases empty_nil h2
  obtain ⟨h3, u3⟩ := and_tt u2
  obtain ⟨o, n, p, rfl⟩ := e_Attribute h3
  obtain ⟨h4, u4⟩ := and_tt u3
  obtain ⟨u5, u6⟩ := and_tt u4
  obtain ⟨u7, u8⟩ := and_tt u5
  obtain ⟨u9, u10⟩ := and_tt u7
  obtain ⟨y, z, rfl, u11⟩ := two_of u6
  have := beq_iff_eq.mp u9
  subst this
  exact ⟨_, _, _, _, _, rfl, h4, u10, u8, u11⟩
theorem i_nm {sc : Scope} {own : Str → Bool} {x : String} {e : Expr} (h : chkNm sc own x e = true) : ∃ id p, e = .Name id p ∧ (id == Str.ofString x && x != ".0" && (match sc.names.lookup id with | some .local => true | some .cell => own id | _ => false)) = true := by
  obtain ⟨h1, u1⟩ := and_tt h
  obtain ⟨id, p, rfl⟩ := e_Name h1
  exact ⟨_, _, rfl, u1⟩
theorem i_comp {fs : List String} {sc : Scope} {x : Expr} {elt : PE} {t : Tg} {src : Src} {ifs : PEs} (h : chkE fs sc (.comp elt t src ifs) x = true) : ∃ el tg it ts csc pos, x = .ListComp el [⟨tg, it, ts, 0⟩] csc pos ∧ (scOk sc csc (tgNames t) && chkTg (compSc sc csc) (compOwn csc) t tg && notSet it && chkSrc fs sc src it && chkEs fs (compSc sc csc) ifs ts && chkE fs (compSc sc csc) elt el) = true := by
  obtain ⟨h1, u1⟩ := and_tt h
  obtain ⟨el, gs, csc, p, rfl⟩ := e_ListComp h1
  try dsimp only at u1
  obtain ⟨⟨tg, it, ts, as⟩, rfl, u2⟩ := one_of u1
  obtain ⟨h2, u3⟩ := and_tt u2
  cases eq_of_beq h2
  exact ⟨_, _, _, _, _, _, rfl, u3⟩
theorem i_up {fs : List String} {sc : Scope} {x : Expr} {a : PE} (h : chkSrc fs sc (.up a) x = true) : ∃ id p y pos, x = .Call (.Name id p) [y] [] pos ∧ (globOk sc "range" id && notStar y && chkE fs sc a y) = true := by
  obtain ⟨h1, u1⟩ := and_tt h
  obtain ⟨g, l, ks, pos, rfl⟩ := e_Call h1
  obtain ⟨h2, u2⟩ := and_tt u1
  cases empty_nil h2
  obtain ⟨h3, u3⟩ := and_tt u2
  obtain ⟨id, p, rfl⟩ := e_Name h3
  try dsimp only at u3
  obtain ⟨y, rfl, u4⟩ := one_of u3
  exact ⟨_, _, _, _, rfl, u4⟩
theorem i_fromTo {fs : List String} {sc : Scope} {x : Expr} {a b : PE} (h : chkSrc fs sc (.fromTo a b) x = true) : ∃ id p y z pos, x = .Call (.Name id p) [y, z] [] pos ∧ (globOk sc "range" id && notStar y && notStar z && chkE fs sc a y && chkE fs sc b z) = true := by
  obtain ⟨h1, u1⟩ := and_tt h
  obtain ⟨g, l, ks, pos, rfl⟩ := e_Call h1
  obtain ⟨h2, u2⟩ := and_tt u1
  cases empty_nil h2
  obtain ⟨h3, u3⟩ := and_tt u2
  obtain ⟨id, p, rfl⟩ := e_Name h3
  try dsimp only at u3
  obtain ⟨y, z, rfl, u4⟩ := two_of u3
  exact ⟨_, _, _, _, _, rfl, u4⟩
theorem i_nil {fs : List String} {sc : Scope} {x : List Expr} (h : chkEs fs sc .nil x = true) : x = [] := by
  cases x with
  | nil => rfl
  | cons _ _ => exact Bool.noConfusion h
theorem i_cons {fs : List String} {sc : Scope} {x : List Expr} {e : PE} {r : PEs} (h : chkEs fs sc (.cons e r) x = true) : ∃ y ys, x = y :: ys ∧ (notStar y && chkE fs sc e y && chkEs fs sc r ys) = true := by
  cases x with
  | nil => exact Bool.noConfusion h
  | cons _ _ => exact ⟨_, _, rfl, h⟩
theorem i_assign {fs : List String} {sc : Scope} {x : Stmt} {y : String} {e : PE} (h : chkS fs sc (.assign (.tg (.name y)) e) x = true) : ∃ id p v q, x = .Assign [.Name id p] v q ∧ (chkTg sc (fun _ => true) (.name y) (.Name id p) && (isComp e || notComp v) && chkE fs sc e v) = true := by
  obtain ⟨h1, u1⟩ := and_tt h
  obtain ⟨ts, v, p, rfl⟩ := e_sAssign h1
  try dsimp only at u1
  obtain ⟨t, rfl, u2⟩ := one_of u1
  obtain ⟨h2, u3⟩ := and_tt u2
  obtain ⟨id, q, rfl⟩ := e_Name h2
  exact ⟨_, _, _, _, rfl, u3⟩
theorem i_set {fs : List String} {sc : Scope} {x : Stmt} {a i e : PE} (h : chkS fs sc (.assign (.sub a i) e) x = true) : ∃ l r p v q, x = .Assign [.Subscript l r p] v q ∧ (chkE fs sc a l && chkE fs sc i r && chkE fs sc e v) = true := by
  obtain ⟨h1, u1⟩ := and_tt h
  obtain ⟨ts, v, p, rfl⟩ := e_sAssign h1
  try dsimp only at u1
  obtain ⟨t, rfl, u2⟩ := one_of u1
  obtain ⟨h2, u3⟩ := and_tt u2
  obtain ⟨l, r, q, rfl⟩ := e_Subscript h2
  exact ⟨_, _, _, _, _, rfl, u3⟩
theorem i_unp {fs : List String} {sc : Scope} {x : Stmt} {ls : List Lv} {e : PE} (h : chkS fs sc (.unp ls e) x = true) : ∃ elts k p v q, x = .Assign [.Tuple elts k p] v q ∧ ((notTup v || twoSub elts) && notComp v && chkLvs fs sc ls elts && chkE fs sc e v) = true := by
  obtain ⟨h1, u1⟩ := and_tt h
  obtain ⟨ts, v, p, rfl⟩ := e_sAssign h1
  try dsimp only at u1
  obtain ⟨t, rfl, u2⟩ := one_of u1
  obtain ⟨h2, u3⟩ := and_tt u2
  obtain ⟨l, k, q, rfl⟩ := e_Tuple h2
  exact ⟨_, _, _, _, _, rfl, u3⟩
theorem i_expr {fs : List String} {sc : Scope} {x : Stmt} {e : PE} (h : chkS fs sc (.expr e) x = true) : ∃ f as ks q p, x = .Expr (.Call f as ks q) p ∧ chkE fs sc e (.Call f as ks q) = true := by
  obtain ⟨h1, u1⟩ := and_tt h
  obtain ⟨v, p, rfl⟩ := e_sExpr h1
  obtain ⟨h2, u2⟩ := and_tt u1
  obtain ⟨f, as, ks, q, rfl⟩ := e_Call h2
  exact ⟨_, _, _, _, _, rfl, u2⟩
theorem i_if {fs : List String} {sc : Scope} {x : Stmt} {c : PE} {a b : PSs} (h : chkS fs sc (.ite c a b) x = true) : ∃ t l r p, x = .If t l r p ∧ (chkE fs sc c t && chkSs fs sc a l && chkSs fs sc b r) = true := by
  obtain ⟨h1, u1⟩ := and_tt h
  obtain ⟨t, l, r, p, rfl⟩ := e_sIf h1
  exact ⟨_, _, _, _, rfl, u1⟩
theorem i_whl {fs : List String} {sc : Scope} {x : Stmt} {c : PE} {b : PSs} (h : chkS fs sc (.whl c b) x = true) : ∃ t l p, x = .While t l [] p ∧ (chkE fs sc c t && chkSs fs sc b l) = true := by
  obtain ⟨h1, u1⟩ := and_tt h
  obtain ⟨t, l, el, p, rfl⟩ := e_sWhile h1
  obtain ⟨h2, u2⟩ := and_tt u1
  cases empty_nil h2
  exact ⟨_, _, _, rfl, u2⟩
theorem i_fr {fs : List String} {sc : Scope} {x : Stmt} {t : Tg} {src : Src} {b : PSs} (h : chkS fs sc (.fr t src b) x = true) : ∃ tg it l p, x = .For tg it l [] p ∧ (chkTg sc (fun _ => true) t tg && notSet it && chkSrc fs sc src it && chkSs fs sc b l) = true := by
  obtain ⟨h1, u1⟩ := and_tt h
  obtain ⟨tg, it, l, el, p, rfl⟩ := e_sFor h1
  obtain ⟨h2, u2⟩ := and_tt u1
  cases empty_nil h2
  exact ⟨_, _, _, _, rfl, u2⟩
theorem i_ret {fs : List String} {sc : Scope} {x : Stmt} {e : PE} (h : chkS fs sc (.ret e) x = true) : ∃ v p, x = .Return (some v) p ∧ chkE fs sc e v = true := by
  obtain ⟨h1, u1⟩ := and_tt h
  obtain ⟨v, p, rfl⟩ := e_sReturn h1
  cases v with
  | none => exact Bool.noConfusion u1
  | some v => exact ⟨_, _, rfl, u1⟩
theorem i_snil {fs : List String} {sc : Scope} {x : List Stmt} (h : chkSs fs sc .nil x = true) : x = [] := by
  cases x with
  | nil => rfl
  | cons _ _ => exact Bool.noConfusion h
theorem i_scons {fs : List String} {sc : Scope} {x : List Stmt} {s : PS} {r : PSs} (h : chkSs fs sc (.cons s r) x = true) : ∃ y ys, x = y :: ys ∧ (chkS fs sc s y && chkSs fs sc r ys) = true := by
  cases x with
  | nil => exact Bool.noConfusion h
  | cons _ _ => exact ⟨_, _, rfl, h⟩
end MP

end
section
/-! A comprehension's loop. -/
namespace MP
open PySem PyProof.Rows

/-- what a call of f does on the machine -/
noncomputable def Valid (prog : Program) (w : World) (K : KK) (Γ : String → List V → H → (V → H → Prop) → Prop) (k : Nat) : Prop :=
  ∀ f vs h Q, Γ f vs h Q → ∃ a, K.mg (Str.ofString f) = some (.ref a) ∧
    ∀ (l : List PySem.Env) (A : Around) (P : Prt) (s : Shared) (rs : List Value) (E : Value → Shared → Prop), Rm A k → A.frames = some l → Rel (K.at l) P h s → VRs (K.at l) vs rs →
      wpAny (model prog w) A (call (.ref a) rs) (fun r s' => ∃ v h', VR (K.at l) v r ∧ Rel (K.at l) P h' s' ∧ Q v h') E s

structure Cx (prog : Program) (w : World) (K : KK) (G : Par) (A : Around) (k : Nat) : Prop where
  ok : KOk K
  ns : G.ns = K.ns
  gc : G.gc = K.gc
  rm : Rm A k
  fr : A.frames = some K.fl
  val : Valid prog w K G.Γ k

section
variable {prog : Program} {w : World} {A : Around} {E : Value → Shared → Prop} {k : Nat}
variable {K : KK} {P : Prt} {own : Str → Bool} {env : PySem.Env} {σ : Env} {h : H} {s : Shared} {G : Par}

/-- a tuple that the iterator kept is let go: not that of a list -/
theorem sndGo {t : Tg} {target : Expr} {sc : Scope} {v : V} {r : Value} {I : Nat} {kp : Option (Nat × List V)} {rest : List V} {Q : Env → Prop} {Q' : Unit → Shared → Prop} (hc : chkTg sc own t target = true) (hv : VR K v r) (hq : tgW t v σ h Q)
    (hI : ItAt I kp rest s) (hn : kp = Option.none → ∃ i, v = .int i) (hQ : Q' () s) : wpAny (model prog w) A (letOwnedTupleGo target (.ref I) r) Q' E s := by
  cases t with
  | name x =>
    obtain ⟨id, p, rfl, _⟩ := i_nm hc
    exact wpAny_of_eq (a := ()) rfl hQ
theorem ItAt.int {I : Nat} {v : V} {rest : List V} {s : Shared} (h : ItAt I Option.none (v :: rest) s) : ∃ i, v = .int i := by
  obtain ⟨x, d, n, _, h2⟩ := h
  cases n with
  | zero => simp [rngL] at h2
  | succ n => simp only [rngL, List.cons.injEq] at h2; exact ⟨x, h2.1⟩

noncomputable abbrev Kept (env : PySem.Env) (s s' : Shared) : Prop :=
  (∀ b o, s.heap.get? b = some o → (∀ es n, o.data ≠ .dict es n) → (∀ v, o.data ≠ .cell v) → s'.heap.get? b = some o) ∧ (∀ b, b ≠ env.locals → ∀ o, s.heap.get? b = some o → (∀ v, o.data ≠ .cell v) → s'.heap.get? b = some o)

theorem sndNm {x : String} {target : Expr} {v : V} {r : Value} {Q' : Unit → Shared → Prop} (hc : chkNm env.scope own x target = true) (X : St K P own env σ h s) (hv : VR K v r)
    (hQ : ∀ s', St K P own env (upd σ x v) h s' → Kept env s s' → Q' () s') : wpAny (model prog w) A (assign target env r) Q' E s := by
  obtain ⟨id, p, rfl, hc'⟩ := i_nm hc
  clear hc
  simp only [Bool.and_eq_true, beq_iff_eq, bne_iff_ne] at hc'
  obtain ⟨⟨rfl, hx⟩, hk⟩ := hc'
  refine wpAny_assign_Name (X.store hx hv ?_ fun s' X' k1 k2 => hQ s' X' ⟨k1, k2⟩)
  show env.scope.names.lookup _ = _ ∨ _
  split at hk
  · rename_i e; exact .inl e
  · rename_i e; exact .inr ⟨e, hk⟩
  · cases hk
theorem sndTg {t : Tg} {target : Expr} {v : V} {r : Value} {Q : Env → Prop} {Q' : Unit → Shared → Prop} (hA : A.handled = none) (hc : chkTg env.scope own t target = true) (X : St K P own env σ h s) (hv : VR K v r) (hq : tgW t v σ h Q)
    (hQ : ∀ σ' s', St K P own env σ' h s' → Q σ' → (∀ b o, s.heap.get? b = some o → (∀ es n, o.data ≠ .dict es n) → (∀ v, o.data ≠ .cell v) → s'.heap.get? b = some o) → (∀ b, b ≠ env.locals → ∀ o, s.heap.get? b = some o → (∀ v, o.data ≠ .cell v) → s'.heap.get? b = some o) → Q' () s') :
    wpAny (model prog w) A (assign target env r) Q' E s := by
  cases t with
  | name x => exact sndNm hc X hv fun s' X' k => hQ _ s' X' hq k.1 k.2

/-- the names of the turn are laid anew in each turn -/
noncomputable def TgEq (t : Tg) (σc σ : Env) : Prop := ∀ v h (Q : Env → Prop), tgW t v σ h Q → tgW t v σc h Q
theorem TgEq.clr (t : Tg) (σ : Env) : TgEq t (MP.clr σ (tgNames t)) σ := by
  intro v h' Q h
  cases t with
  | name x =>
    have : upd (MP.clr σ [x]) x v = upd σ x v := by
      funext y; unfold upd MP.clr; split
      · rfl
      · rename_i q; simp [q]
    show Q (upd (MP.clr σ [x]) x v)
    rw [this]; exact h
theorem TgEq.set {t : Tg} {v : V} {σ : Env} {Q : Env → Prop} (hq : tgW t v σ h Q) : tgW t v σ h fun σ' => Q σ' ∧ TgEq t σ' σ := by
  cases t with
  | name x =>
    refine ⟨hq, fun v' h' Q' hq' => ?_⟩
    have : upd (upd σ x v) x v' = upd σ x v' := by
      funext y; unfold upd; split <;> rfl
    show Q' (upd (upd σ x v) x v')
    rw [this]; exact hq'

theorem St.guard' (X : St K P own env σ h s) {I : Nat} {ob : Obj} (hI : s.heap.get? I = some ob) (hM : NM h I) (hd : ∀ es n, ob.data ≠ .dict es n) (hc : ∀ v, ob.data ≠ .cell v) : St K (P.put I ob) own env σ h s :=
  X.guard hI hM (X.fr.loc_ne hI hd) (fun _ _ hn _ h1 => X.fr.cell_ne hI hc hn h1) fun o e => by
    have := X.rel.base _ _ e
    rw [hI] at this; cases this; rfl

/-- the trees of a comprehension's tests -/
noncomputable abbrev testsT (ifs : List Expr) (env : PySem.Env) : Sem Bool :=
  forIn ifs true fun c r => if r = true then do let ok ← isTrue c env (eval c env); pure (ForInStep.yield ok) else pure (ForInStep.yield r)

/-- the turns of a comprehension, whatever its target -/
theorem comp_turns {el target iter : Expr} {fs : List Expr} {csc : Scope} {pos : Pos} {it acc : Value} {R : Result → Shared → Prop} (I : Nat → Shared → Prop)
    (turn : ∀ n s, I n s → wpAny (model prog w) A (pyNext it) (fun r s₁ => match r with
      | none => R (.ok .next) s₁
      | some v => wpAny (model prog w) A (letOwnedTupleGo target it v) (fun _ s₀ => wpAny (model prog w) A (assign target env v) (fun _ s₂ =>
          wpAny (model prog w) A (testsT fs env) (fun ok s₃ => if ok = true then wpAny (model prog w) A (eval el env) (fun x s₄ =>
            wpAny (model prog w) A (call (.builtin "list.append") [acc, x]) (fun _ s₅ => ∃ m, m < n ∧ I m s₅) (notedBy (model prog w) A env fun e s' => R (.error e) s') s₄) (notedBy (model prog w) A env fun e s' => R (.error e) s') s₃
            else ∃ m, m < n ∧ I m s₃) (notedBy (model prog w) A env fun e s' => R (.error e) s') s₂)
          (notedBy (model prog w) A env fun e s' => R (.error e) s') s₀) (notedBy (model prog w) A env fun e s' => R (.error e) s') s₁) (notedBy (model prog w) A env fun e s' => R (.error e) s') s)
    (n : Nat) (h : I n s) : codeAny (model prog w) A (.compLoop (.ListComp el [⟨target, iter, fs, 0⟩] csc pos) 0 it acc env) R s := by
  refine codeAny_loop rfl I (fun n s hI => ?_) n h
  show wpAny _ A ((compTurn (.ListComp el [⟨target, iter, fs, 0⟩] csc pos) 0 it acc env).onRaise (fun x => do noteFrame x env; theTreesLotGoes x)) _ _ s
  refine wpAny_noted ?_
  rw [compTurn_list]
  refine wpAny_bind (wpAny_standAt (wpAny_bind (wpAny_mono (turn n s hI) (fun r s₁ h₁ => ?_) fun _ _ h' => h')))
  cases r with
  | none => exact wpAny_pure h₁
  | some v =>
    refine wpAny_bind (wpAny_mono h₁ (fun _ s₀ h₀' => ?_) fun _ _ h' => h')
    refine wpAny_bind (wpAny_mono h₀' (fun _ s₂ h₂ => ?_) fun _ _ h' => h')
    refine wpAny_bind (wpAny_mono h₂ (fun ok s₃ h₃ => ?_) fun _ _ h' => h')
    cases ok with
    | false => exact wpAny_pure ⟨rfl, h₃⟩
    | true => exact wpAny_bind (wpAny_bind (wpAny_mono h₃ (fun x s₄ h₄ => wpAny_bind (wpAny_mono h₄ (fun _ s₅ h₅ => wpAny_pure (wpAny_pure ⟨rfl, h₅⟩)) fun _ _ h' => h')) fun _ _ h' => h'))

theorem comp_loop {el target iter : Expr} {fs : List Expr} {csc : Scope} {pos : Pos} {t : Tg} {elt : PE} {ifs : PEs} {kp : Option (Nat × List V)} {I D : Nat} {R : Result → Shared → Prop} {Qe : List V → H → Prop}
    (hA : A.handled = none)
    (htg : chkTg env.scope own t target = true) (hPI : P I = none) (hPD : P D = none)
    (hifs : ∀ (P' : Prt) (σ' : Env) (h' : H) (s' : Shared) (Q' : Bool → H → Prop) (E' : Value → Shared → Prop), St K P' own env σ' h' s' → condAnd G ifs σ' h' Q' → wpAny (model prog w) A (testsT fs env) (BP K P' own env σ' Q') E' s')
    (helt : ∀ (P' : Prt) (σ' : Env) (h' : H) (s' : Shared) (Q' : V → H → Prop) (E' : Value → Shared → Prop), St K P' own env σ' h' s' → ev G elt σ' h' Q' → wpAny (model prog w) A (eval el env) (EP K P' own env σ' Q') E' s')
    (hst : ∀ ys h', Qe ys h' → stays kp h')
    (hend : ∀ σ' h' s' ys items n, St K P own env σ' h' s' → s'.heap.get? D = some (listOb items n) → NM h' D → VRs K ys items.toList → ys.length ≤ lim → Qe ys h' → R (.ok .next) s')
    {σ₀ : Env} {rest ys : List V} {items : Array Value} {n : Nat} (X : St K P own env σ h s) (hI : ItAt I kp rest s) (hD : s.heap.get? D = some (listOb items n)) (hM : NM h D) (hy : VRs K ys items.toList) (hl : ys.length + rest.length ≤ lim)
    (hσ : TgEq t σ σ₀) (hW : compW (fun v h K => tgW t v σ₀ h fun σ' => condAnd G ifs σ' h fun b h' => if b then ev G elt σ' h' fun w h'' => K (some w) h'' else K Option.none h') kp rest ys h Qe) :
    codeAny (model prog w) A (.compLoop (.ListComp el [⟨target, iter, fs, 0⟩] csc pos) 0 (.ref I) (.ref D) env) R s := by
  have hDI : D ≠ I := fun q => by
    obtain ⟨ob, h1, fs', h2⟩ := hI.ob
    rw [← q, hD] at h1; cases h1; cases h2
  refine comp_turns
    (fun j s => ∃ rest ys h σ items n, j = rest.length ∧ St K P own env σ h s ∧ ItAt I kp rest s ∧ s.heap.get? D = some (listOb items n) ∧ NM h D ∧ VRs K ys items.toList ∧ ys.length + rest.length ≤ lim ∧ TgEq t σ σ₀ ∧
      compW (fun v h K => tgW t v σ₀ h fun σ' => condAnd G ifs σ' h fun b h' => if b then ev G elt σ' h' fun w h'' => K (some w) h'' else K Option.none h') kp rest ys h Qe) ?_ rest.length
    ⟨rest, ys, h, σ, items, n, rfl, X, hI, hD, hM, hy, hl, hσ, hW⟩
  clear X hI hD hM hy hl hσ hW
  rintro j s ⟨rest, ys, h, σ, items, n, rfl, X, hI, hD, hM, hy, hl, hσ, hW⟩
  obtain ⟨obI, hI1, hI2⟩ := hI.ob
  cases rest with
  | nil =>
    have hW : Qe ys h := hW
    refine iter_end hA X.rel (hst _ _ hW) hI fun s' k1 k2 k3 => ?_
    exact hend σ h s' ys items n (X.junkF hI1 hI2 hPI k1 k2 k3) (k1 _ _ hDI hD) hM hy (by simpa using hl) hW
  | cons v rest =>
    obtain ⟨hs1, hW⟩ := hW
    refine iter_item X.rel hs1 hI fun rv s₁ hv hI₁ k1 k2 k3 => ?_
    have X₁ := X.junkF hI1 hI2 hPI (fun b o hb e => (k1 b hb).trans e) k2 k3
    have hD₁ := (k1 D hDI).trans hD
    refine sndGo htg hv (hσ _ _ _ (TgEq.set hW)) hI₁ (fun q => by subst q; exact hI.int) ?_
    refine sndTg hA htg X₁ hv (hσ _ _ _ (TgEq.set hW)) fun σ' s₂ X₂ hq k4 _ => ?_
    obtain ⟨hq, hσ'⟩ := hq
    obtain ⟨obI', hI1', fs', hI2'⟩ := hI₁.ob
    have hI₂ := hI₁.at fun o e => k4 _ _ e (fun _ _ q => by rw [hI1'] at e; cases e; rw [hI2'] at q; cases q) (fun _ q => by rw [hI1'] at e; cases e; rw [hI2'] at q; cases q)
    have hIo : s₂.heap.get? I = some obI' := k4 _ _ hI1' (fun _ _ q => by rw [hI2'] at q; cases q) (fun _ q => by rw [hI2'] at q; cases q)
    have hD₂ := k4 _ _ hD₁ (fun _ _ q => by cases q) (fun _ q => by cases q)
    have X₃ := (X₂.guard' hIo (X₂.rel.nm_shape hIo (by rw [hI2']; intros; simp) (by rw [hI2']; intros; simp)) (by rw [hI2']; intros; simp) (by rw [hI2']; intros; simp)).guard' hD₂ hM (by intros; simp) (by intros; simp)
    refine wpAny_mono (hifs _ σ' h s₂ _ _ X₃ hq) (fun b s₃ hx => ?_) fun _ _ e => e
    obtain ⟨h₃, X₄, hq₃⟩ := hx
    have hPD' : (P.put I obI') D = none := by unfold Prt.put; rw [if_neg hDI]; exact hPD
    cases b with
    | false =>
      obtain ⟨Y, hD₃, hM₃⟩ := X₄.unguard (by intro b o e; have := X₂.rel.sub b o e; unfold Prt.put; split; rename_i q; rw [q, hPI] at this; cases this; exact this) hPD' (by intros; simp)
      obtain ⟨Z, hI₃, _⟩ := Y.unguard X₂.rel.sub hPI (by rw [hI2']; intros; simp)
      refine ⟨rest.length, Nat.lt_succ_self _, rest, ys, h₃, σ', items, n, rfl, Z, hI₂.at fun o e => ?_, hD₃, hM₃, hy, by simp only [List.length_cons] at hl; (first | lia | omega), hσ', hq₃⟩
      rw [hIo] at e; cases e; exact hI₃
    | true =>
      refine wpAny_mono (helt _ σ' h₃ s₃ _ _ X₄ hq₃) (fun x s₄ hx => ?_) fun _ _ e => e
      obtain ⟨wv, h₄, hwv, X₅, hq₄⟩ := hx
      obtain ⟨Y, hD₃, hM₃⟩ := X₅.unguard (by intro b o e; have := X₂.rel.sub b o e; unfold Prt.put; split; rename_i q; rw [q, hPI] at this; cases this; exact this) hPD' (by intros; simp)
      obtain ⟨Z, hI₃, _⟩ := Y.unguard X₂.rel.sub hPI (by rw [hI2']; intros; simp)
      have hsz : items.size = ys.length := by rw [← Array.length_toList, hy.length]
      refine append_exact hD₃ (by rw [hsz]; exact sizeLine_lim (by (first | lia | omega))) fun h' n' g1 g2 => ?_
      refine ⟨rest.length, Nat.lt_succ_self _, rest, ys ++ [wv], h₄, σ', _, n', rfl, Z.junkL (s' := { s₄ with heap := h' }) hD₃ hM₃ hPD (fun b o hb e => (g2 b hb).trans e) rfl rfl, hI₂.at fun o e => ?_, g1, hM₃, ?_, by simp only [List.length_cons, List.length_append, List.length_nil] at *; (first | lia | omega), hσ', hq₄⟩
      · rw [hIo] at e; cases e; exact (g2 I (Ne.symm hDI)).trans hI₃
      · rw [Array.toList_push]; exact hy.append (.one hwv)
end
end MP

end
section
namespace MP
open PySem PyProof.Rows
section
variable {prog : Program} {w : World} {A : Around} {E : Value → Shared → Prop} {k : Nat}
variable {K : KK} {P : Prt} {own : Str → Bool} {env : PySem.Env} {σ : Env} {h : H} {s : Shared} {G : Par}

theorem comp_core {el target iter : Expr} {fs : List Expr} {csc : Scope} {pos : Pos} {t : Tg} {elt : PE} {ifs : PEs} {kp : Option (Nat × List V)} {r : Value} {xs : List V} {R : Value → PySem.Addr → Result → Shared → Prop} {Qe : List V → H → Prop}
    (hA : A.handled = none) (hsc : scOk env.scope csc (tgNames t) = true) (htg : chkTg (compSc env.scope csc) (compOwn csc) t target = true)
    (hifs : ∀ (L : Nat) (P' : Prt) (σ' : Env) (h' : H) (s' : Shared) (Q' : Bool → H → Prop) (E' : Value → Shared → Prop), St K P' (compOwn csc) (compEnv env csc L) σ' h' s' → condAnd G ifs σ' h' Q' → wpAny (model prog w) A (testsT fs (compEnv env csc L)) (BP K P' (compOwn csc) (compEnv env csc L) σ' Q') E' s')
    (helt : ∀ (L : Nat) (P' : Prt) (σ' : Env) (h' : H) (s' : Shared) (Q' : V → H → Prop) (E' : Value → Shared → Prop), St K P' (compOwn csc) (compEnv env csc L) σ' h' s' → ev G elt σ' h' Q' → wpAny (model prog w) A (eval el (compEnv env csc L)) (EP K P' (compOwn csc) (compEnv env csc L) σ' Q') E' s')
    (hst : ∀ ys h', Qe ys h' → stays kp h')
    (X : St K P own env σ h s) (hsrc : SrcV prog w A r xs kp s) (hl : xs.length ≤ lim)
    (hW : compW (fun v h K => tgW t v σ h fun σ' => condAnd G ifs σ' h fun b h' => if b then ev G elt σ' h' fun w h'' => K (some w) h'' else K Option.none h') kp xs [] h Qe)
    (hfin : ∀ (D L : Nat) h' s' ys items n m, Rel K (prtOf h s) h' s' → s'.heap.Ns L m → NM h' L → s'.heap.get? D = some (listOb items n) → NM h' D → VRs K ys items.toList → ys.length ≤ lim → s.heap.get? D = none → s.heap.get? L = none → Qe ys h' → R (.ref D) L (.ok .next) s') :
    wpAny (model prog w) A (pyIter r) (fun it s₂ => wpAny (model prog w) A (newList []) (fun acc s₃ =>
      wpAny (model prog w) A (newFunctionEnv csc env.globals (clOf (fun n => env.cells.lookup n) csc.names []) [] env.qual none .none (some env)) (fun cenv s₄ =>
        codeAny (model prog w) A (.compStart (.ListComp el [⟨target, iter, fs, 0⟩] csc pos) 0 it acc { cenv with scope := relabel csc env }) (R acc cenv.locals) s₄) E s₃) E s₂) E s := by
  refine hsrc E _ fun I s₂ g₁ hI0 hI => ?_
  refine wpAny_newList (items := []) ?_ (by simp)
  refine newEnv_comp ?_
  have g₂ : Grown s₂ { s₂ with heap := s₂.heap.push { cls := .type "list", data := .seq ([] : List Value).toArray } } := .push' _ _
  obtain ⟨Y, g₃⟩ := comp_frame X hsc (g₁.trans g₂)
  have sz : ∀ b, s₂.heap.objs.size ≤ b → s.heap.get? b = none := fun b hb => by
    cases q : s.heap.get? b with
    | none => rfl
    | some o => exact absurd (Heap.lt_size (g₁.heap _ _ q)) (Nat.not_lt.mpr hb)
  have hD0 : s.heap.get? s₂.heap.objs.size = none := sz _ (Nat.le_refl _)
  have hL0 : s.heap.get? (s₂.heap.push { cls := .type "list", data := .seq ([] : List Value).toArray }).objs.size = none := sz _ (by rw [Heap.size_push]; exact Nat.le_succ _)
  have hD := g₃.heap s₂.heap.objs.size (listOb ([] : List Value).toArray 0) (Heap.get?_push_size _ rfl)
  have hM : NM h s₂.heap.objs.size := fun o e => by rw [X.rel.none_of hD0] at e; cases e
  have hI' := (hI.at fun o e => g₂.heap _ _ e).at fun o e => g₃.heap _ _ e
  have key : codeAny (model prog w) A (.compLoop (.ListComp el [⟨target, iter, fs, 0⟩] csc pos) 0 (.ref I) (.ref s₂.heap.objs.size) (compEnv env csc (s₂.heap.push { cls := .type "list", data := .seq ([] : List Value).toArray }).objs.size))
      (R (.ref s₂.heap.objs.size) (s₂.heap.push { cls := .type "list", data := .seq ([] : List Value).toArray }).objs.size) _ :=
    comp_loop (G := G) (t := t) (elt := elt) (ifs := ifs) (Qe := Qe) (σ₀ := σ) (ys := []) hA htg (prtOf_none hI0) (prtOf_none hD0) (hifs _) (helt _) hst (fun σ' h' s' ys items n Z h1 h2 h3 h4 h5 => by
      obtain ⟨m, hm, _⟩ := Z.fr.loc
      exact hfin _ _ h' s' ys items n m Z.rel hm Z.fr.locM h1 h2 h3 h4 hD0 hL0 h5) Y hI' hD hM .nil (by simpa using hl) (TgEq.clr t σ) hW
  exact codeAny_compStart_list key (iter_self hI' key)

theorem comp_value {el target iter : Expr} {fs : List Expr} {csc : Scope} {pos : Pos} {t : Tg} {elt : PE} {ifs : PEs} {kp : Option (Nat × List V)} {r : Value} {xs : List V} {Q : V → H → Prop}
    (hA : A.handled = none) (hsc : scOk env.scope csc (tgNames t) = true) (htg : chkTg (compSc env.scope csc) (compOwn csc) t target = true)
    (hifs : ∀ (L : Nat) (P' : Prt) (σ' : Env) (h' : H) (s' : Shared) (Q' : Bool → H → Prop) (E' : Value → Shared → Prop), St K P' (compOwn csc) (compEnv env csc L) σ' h' s' → condAnd G ifs σ' h' Q' → wpAny (model prog w) A (testsT fs (compEnv env csc L)) (BP K P' (compOwn csc) (compEnv env csc L) σ' Q') E' s')
    (helt : ∀ (L : Nat) (P' : Prt) (σ' : Env) (h' : H) (s' : Shared) (Q' : V → H → Prop) (E' : Value → Shared → Prop), St K P' (compOwn csc) (compEnv env csc L) σ' h' s' → ev G elt σ' h' Q' → wpAny (model prog w) A (eval el (compEnv env csc L)) (EP K P' (compOwn csc) (compEnv env csc L) σ' Q') E' s')
    (X : St K P own env σ h s) (hsrc : SrcV prog w A r xs kp s) (hl : xs.length ≤ lim)
    (hW : compW (fun v h K => tgW t v σ h fun σ' => condAnd G ifs σ' h fun b h' => if b then ev G elt σ' h' fun w h'' => K (some w) h'' else K Option.none h') kp xs [] h fun ys h₂ => stays kp h₂ ∧ alloc (.list ys) h₂ Q) :
    wpAny (model prog w) A (pyIter r) (fun it s₂ => wpAny (model prog w) A (newList []) (fun acc s₃ =>
      wpAny (model prog w) A (newFunctionEnv csc env.globals (clOf (fun n => env.cells.lookup n) csc.names []) [] env.qual none .none (some env)) (fun cenv s₄ =>
        codeAny (model prog w) A (.compStart (.ListComp el [⟨target, iter, fs, 0⟩] csc pos) 0 it acc { cenv with scope := relabel csc env }) (compPost (model prog w) A E none (EP K P own env σ Q) acc cenv.locals) s₄) E s₃) E s₂) E s := by
  refine comp_core hA hsc htg hifs helt (fun _ _ hq => hq.1) X hsrc hl hW fun D L h' s' ys items n m hR hm hLM hD hM hy hyl hD0 hL0 hq => ?_
  refine ⟨m, hm, fun hp hs => ?_⟩
  obtain ⟨oL, es, ep, hL1, hL2, _⟩ := hm
  have hDL : D ≠ L := fun q => by rw [q, hL1] at hD; cases hD; cases hL2
  have R' : Rel K (prtOf h s) h' { s' with heap := hp } := hR.junk (hR.none_ns hL1 ⟨_, _, hL2⟩ hLM) (prtOf_none hL0) (.inr (X.rel.fr_ne hL0)) (fun b o hb e => (hs.2 b hb).trans e) rfl rfl
  have hDn := hR.none_list hD hM
  have Z := (X.back R').adopt ((hs.2 D hDL).trans hD) hDn (X.rel.p_none_of hD0) hy hyl
  exact ⟨_, _, .ref D, Z, hq.2 D hDn⟩

/-- the comprehension's list is stored while its own names still stand -/
theorem comp_store {el target iter : Expr} {fs : List Expr} {csc : Scope} {pos : Pos} {t : Tg} {elt : PE} {ifs : PEs} {kp : Option (Nat × List V)} {r : Value} {xs : List V} {u : Tg} {ut : Expr} {Q : Env → H → Prop}
    (hA : A.handled = none) (hsc : scOk env.scope csc (tgNames t) = true) (htg : chkTg (compSc env.scope csc) (compOwn csc) t target = true) (hut : chkTg env.scope own u ut = true)
    (hifs : ∀ (L : Nat) (P' : Prt) (σ' : Env) (h' : H) (s' : Shared) (Q' : Bool → H → Prop) (E' : Value → Shared → Prop), St K P' (compOwn csc) (compEnv env csc L) σ' h' s' → condAnd G ifs σ' h' Q' → wpAny (model prog w) A (testsT fs (compEnv env csc L)) (BP K P' (compOwn csc) (compEnv env csc L) σ' Q') E' s')
    (helt : ∀ (L : Nat) (P' : Prt) (σ' : Env) (h' : H) (s' : Shared) (Q' : V → H → Prop) (E' : Value → Shared → Prop), St K P' (compOwn csc) (compEnv env csc L) σ' h' s' → ev G elt σ' h' Q' → wpAny (model prog w) A (eval el (compEnv env csc L)) (EP K P' (compOwn csc) (compEnv env csc L) σ' Q') E' s')
    (X : St K P own env σ h s) (hsrc : SrcV prog w A r xs kp s) (hl : xs.length ≤ lim)
    (hW : compW (fun v h K => tgW t v σ h fun σ' => condAnd G ifs σ' h fun b h' => if b then ev G elt σ' h' fun w h'' => K (some w) h'' else K Option.none h') kp xs [] h fun ys h₂ => stays kp h₂ ∧ alloc (.list ys) h₂ fun v h₃ => tgW u v σ h₃ fun σ' => Q σ' h₃) :
    wpAny (model prog w) A (pyIter r) (fun it s₂ => wpAny (model prog w) A (newList []) (fun acc s₃ =>
      wpAny (model prog w) A (newFunctionEnv csc env.globals (clOf (fun n => env.cells.lookup n) csc.names []) [] env.qual none .none (some env)) (fun cenv s₄ =>
        codeAny (model prog w) A (.compStart (.ListComp el [⟨target, iter, fs, 0⟩] csc pos) 0 it acc { cenv with scope := relabel csc env })
          (compPost (model prog w) A E (some (assign ut env)) (fun _ s' => ∃ σ' h', St K P own env σ' h' s' ∧ Q σ' h') acc cenv.locals) s₄) E s₃) E s₂) E s := by
  refine comp_core hA hsc htg hifs helt (fun _ _ hq => hq.1) X hsrc hl hW fun D L h' s' ys items n m hR hm hLM hD hM hy hyl hD0 hL0 hq => ?_
  show wpAny _ A (assign ut env (.ref D)) _ E s'
  obtain ⟨oL, es, ep, hL1, hL2, hL3⟩ := hm
  have hDn := hR.none_list hD hM
  have Z := (X.back hR).adopt hD hDn (X.rel.p_none_of hD0) hy hyl
  have hLl : env.locals ≠ L := fun q => by
    obtain ⟨m', hm', _⟩ := X.fr.loc
    obtain ⟨o, _, _, h1, _⟩ := hm'
    rw [q, hL0] at h1; cases h1
  refine sndTg hA hut Z (.ref D) (hq.2 D hDn) fun σ' s₂ Z₂ hq₂ _ k2 => ?_
  have hL4 := k2 L (Ne.symm hLl) oL hL1 (by rw [hL2]; intros; simp)
  refine ⟨m, ⟨oL, es, ep, hL4, hL2, hL3⟩, fun hp hs => ?_⟩
  exact ⟨σ', _, Z₂.junkD (s' := { s₂ with heap := hp }) hL4 ⟨_, _, hL2⟩ (X.rel.p_none_of hL0) hLl (X.rel.fr_ne hL0) (nm_set hLM (fun q => by rw [← q, hL1] at hD; cases hD; cases hL2)) (fun b o hb e => (hs.2 b hb).trans e) rfl rfl, hq₂⟩
end
end MP

end
section
/-! The small language's expressions are the machine's. -/
namespace MP
open PySem PyProof.Rows

section
variable {prog : Program} {w : World} {A : Around} {E : Value → Shared → Prop} {k : Nat}
variable {K : KK} {P : Prt} {own : Str → Bool} {env : PySem.Env} {σ : Env} {h : H} {s : Shared} {G : Par}

theorem loadVar {x : String} {id : Str} {p : Pos} {v : V} {Q : Value → Shared → Prop} (hc : varOk env.scope x id = true) (X : St K P own env σ h s) (e : σ x = some v) (hQ : ∀ r, VR K v r → Q r s) :
    wpAny (model prog w) A (eval (.Name id p) env) Q E s := by
  simp only [varOk, Bool.and_eq_true, beq_iff_eq, bne_iff_ne, Bool.not_eq_true', ne_eq] at hc
  obtain ⟨⟨⟨⟨rfl, hx⟩, hk⟩, hd⟩, hcd⟩ := hc
  refine wpAny_Name ?_ hd
  split at hk
  · rename_i q
    obtain ⟨m, hm, hv⟩ := X.fr.loc
    obtain ⟨rv, h1, h2⟩ := hv x v hx e q
    exact wpAny_loadName_local X.fr.kind q hm h1 (hQ _ h2)
  · rename_i q
    obtain ⟨c, ov, h1, h2, h3, _⟩ := X.fr.cells _ (.inl q)
    obtain ⟨rv, rfl, h4⟩ := h3 x v rfl e
    exact wpAny_loadName_cell X.fr.kind q h1 h2 (hQ _ h4)
  · rename_i q
    obtain ⟨c, ov, h1, h2, h3, _⟩ := X.fr.cells _ (.inr q)
    obtain ⟨rv, rfl, h4⟩ := h3 x v rfl e
    exact wpAny_loadName_free X.fr.kind q h1 h2 (hQ _ h4) hcd
  · cases hk

theorem loadGlob {x : String} {id : Str} {p : Pos} {r : Value} {Q : Value → Shared → Prop} (hK : KOk K) (hc : globOk env.scope x id = true) (X : St K P own env σ h s) (e : K.mg (Str.ofString x) = some r) (hQ : Q r s) :
    wpAny (model prog w) A (eval (.Name id p) env) Q E s := by
  simp only [globOk, Bool.and_eq_true, beq_iff_eq, Bool.not_eq_true'] at hc
  obtain ⟨⟨rfl, hk⟩, hd⟩ := hc
  refine Calls.Name_function_global X.fr.kind hk (Calls.loadGlobal_global (mg := K.mg) ?_ e hQ) hd
  rw [X.fr.glb]; exact hK.nsG.keeps X.rel.base
theorem loadBuiltin {x : String} {id : Str} {p : Pos} {r : Value} {Q : Value → Shared → Prop} (hK : KOk K) (hc : globOk env.scope x id = true) (X : St K P own env σ h s) (e : K.mg (Str.ofString x) = none) (e' : K.mb (Str.ofString x) = some r) (hQ : Q r s) :
    wpAny (model prog w) A (eval (.Name id p) env) Q E s := by
  simp only [globOk, Bool.and_eq_true, beq_iff_eq, Bool.not_eq_true'] at hc
  obtain ⟨⟨rfl, hk⟩, hd⟩ := hc
  refine Calls.Name_function_global X.fr.kind hk (Calls.loadGlobal_builtin (mg := K.mg) (mb := K.mb) ?_ e ?_ e' hQ) hd
  · rw [X.fr.glb]; exact hK.nsG.keeps X.rel.base
  · rw [X.fr.bui]; exact hK.nsB.keeps X.rel.base

theorem starEach_cons {x : Expr} {xs : List Expr} (hx : notStar x = true) : starEach (x :: xs) env = (false, eval x env) :: starEach xs env := by
  cases x <;> first | rfl | cases hx
theorem chkEs_noStar {fns : List String} {sc : Scope} {pos : Pos} : ∀ {es : PEs} {l : List Expr}, chkEs fns sc es l = true → (backTo pos (starEach l env)).any (·.1) = false
  | .nil, l, hc => by
    cases i_nil hc; rfl
  | .cons e r, l, hc => by
    obtain ⟨x, xs, rfl, hc'⟩ := i_cons hc
    simp only [Bool.and_eq_true] at hc'
    rw [starEach_cons hc'.1.1]
    show (false || (backTo pos (starEach xs env)).any (·.1)) = false
    rw [chkEs_noStar hc'.2]; rfl
theorem evalArgs_of {fns : List String} {sc : Scope} {es : PEs} {l : List Expr} {pos : Pos} {f : Value} {Q : Args → Shared → Prop} (hc : chkEs fns sc es l = true)
    (hq : wpAny (model prog w) A (spliced (backTo pos (starEach l env))) (fun vs s' => Q ⟨vs, []⟩ s') E s) : wpAny (model prog w) A (evalArgs f true (backTo pos (starEach l env)) []) Q E s := by
  cases es with
  | nil =>
    cases i_nil hc
    · unfold evalArgs
      show wpAny _ A (spliced [] >>= _) Q E s
      refine wpAny_bind (wpAny_mono hq (fun vs s' h' => ?_) fun _ _ x => x)
      refine wpAny_bind (wpAny_pure ?_)
      refine wpAny_holding ?_
      exact wpAny_bind (wpAny_pure (wpAny_bind (wpAny_pure (wpAny_pure h'))))
  | cons e r =>
    obtain ⟨x, xs, rfl, hc'⟩ := i_cons hc
    simp only [Bool.and_eq_true] at hc'
    rw [starEach_cons hc'.1.1] at hq ⊢
    exact Calls.evalArgs_plain hq

theorem bfn_callWith {f : Bf} {fns : List String} {sc : Scope} {es : PEs} {l : List Expr} {pos : Pos} {Q : Value → Shared → Prop} (hc : chkEs fns sc es l = true)
    (hq : wpAny (model prog w) A (spliced (backTo pos (starEach l env))) (fun vs s' => wpAny (model prog w) A (call (bfVal f) vs) Q E s') E s) : wpAny (model prog w) A (callWith pos (bfVal f) [] (backTo pos (starEach l env)) []) Q E s := by
  cases f
  all_goals first
    | exact Calls.callWith_builtin (chkEs_noStar hc) (evalArgs_of hc hq)
    | exact PySem.callWith_type (chkEs_noStar hc) (evalArgs_of hc hq)

theorem getMeth {m : Mt} {a : Nat} {items : Array Value} {n : Nat} {pl : Sem Bool} {Q : Value × List Value → Shared → Prop} (ho : s.heap.get? a = some (listOb items n)) (hQ : Q (.builtin ("list." ++ mtName m), [.ref a]) s) :
    wpAny (model prog w) A (getMethod (.ref a) (Str.ofString (mtName m)) pl) Q E s := by
  have hl : s.heap.IsList a items := ⟨_, ho, rfl, _, rfl⟩
  cases m with
  | append => exact Calls.getMethod_list_append ho rfl rfl hQ
  | reverse => exact getMethod_builtin hl.typeIs PySem.F.plainAttrs_list PySem.F.slot_list_reverse PySem.F.type_list_reverse (fun b e => by cases e; exact ⟨_, ho, rfl⟩) hQ

theorem isL_list {va : V} (hq : isL va h) : ∃ a xs, va = .ref a ∧ h a = some (.list xs) := by
  cases va <;> (try exact hq.elim)
  rename_i a
  simp only [isL] at hq
  cases q : h a with
  | none => simp only [q] at hq
  | some o =>
    cases o with
    | dict kvs => simp only [q] at hq
    | tup xs => simp only [q] at hq
    | list xs => exact ⟨a, xs, rfl, q⟩
end
end MP

end
section
namespace MP
open PySem PyProof.Rows

section
variable {prog : Program} {w : World} {A : Around} {k : Nat}
variable {K : KK} {G : Par}

theorem wpAny_boolOp_one {pos : Pos} {op : BoolOp} {t : Sem Value} {s : Shared} {Q : Value → Shared → Prop} {E : Value → Shared → Prop} (h : wpAny (model prog w) A t Q E s) : wpAny (model prog w) A (boolOp pos op [t]) Q E s := h
theorem wpAny_boolOp_and {pos : Pos} {t t' : Sem Value} {ts : List (Sem Value)} {s : Shared} {Q : Value → Shared → Prop} {E : Value → Shared → Prop}
    (h : wpAny (model prog w) A t (fun v s₁ => wpAny (model prog w) A (truthy v) (fun b s₂ => if b then wpAny (model prog w) A (boolOp pos .And (t' :: ts)) Q E s₂ else Q v s₂) E s₁) E s) : wpAny (model prog w) A (boolOp pos .And (t :: t' :: ts)) Q E s := by
  show wpAny _ A (do
    let v ← t
    standAt pos
    let b ← holding [v] (truthy v)
    match BoolOp.And, b with
    | .And, false | .Or, true => pure v
    | _, _ => boolOp pos .And (t' :: ts)) Q E s
  refine wpAny_bind (wpAny_mono h (fun v s₁ h₁ => wpAny_bind (wpAny_standAt (wpAny_bind (wpAny_holding (wpAny_mono h₁ (fun b s₂ h₂ => ?_) fun _ _ x => x))))) fun _ _ x => x)
  cases b with
  | false => exact wpAny_pure h₂
  | true => exact h₂
theorem wpAny_boolOp_or {pos : Pos} {t t' : Sem Value} {ts : List (Sem Value)} {s : Shared} {Q : Value → Shared → Prop} {E : Value → Shared → Prop}
    (h : wpAny (model prog w) A t (fun v s₁ => wpAny (model prog w) A (truthy v) (fun b s₂ => if b then Q v s₂ else wpAny (model prog w) A (boolOp pos .Or (t' :: ts)) Q E s₂) E s₁) E s) : wpAny (model prog w) A (boolOp pos .Or (t :: t' :: ts)) Q E s := by
  show wpAny _ A (do
    let v ← t
    standAt pos
    let b ← holding [v] (truthy v)
    match BoolOp.Or, b with
    | .And, false | .Or, true => pure v
    | _, _ => boolOp pos .Or (t' :: ts)) Q E s
  refine wpAny_bind (wpAny_mono h (fun v s₁ h₁ => wpAny_bind (wpAny_standAt (wpAny_bind (wpAny_holding (wpAny_mono h₁ (fun b s₂ h₂ => ?_) fun _ _ x => x))))) fun _ _ x => x)
  cases b with
  | false => exact h₂
  | true => exact wpAny_pure h₂

theorem tests_false {env : PySem.Env} {Q : Bool → Shared → Prop} {E : Value → Shared → Prop} : ∀ {fs : List Expr} {s : Shared}, Q false s →
    wpAny (model prog w) A (forIn fs false fun c r => if r = true then do let ok ← isTrue c env (eval c env); pure (ForInStep.yield ok) else pure (ForInStep.yield r)) Q E s
  | [], _, h => wpAny_pure h
  | c :: fs, s, h => by
    rw [List.forIn_cons, if_neg Bool.false_ne_true]
    exact wpAny_bind (wpAny_pure (tests_false h))
theorem tests_cons {env : PySem.Env} {Q : Bool → Shared → Prop} {E : Value → Shared → Prop} {c : Expr} {fs : List Expr} {s : Shared}
    (h : wpAny (model prog w) A (isTrue c env (eval c env)) (fun b s₁ => if b then wpAny (model prog w) A (testsT fs env) Q E s₁ else Q false s₁) E s) : wpAny (model prog w) A (testsT (c :: fs) env) Q E s := by
  unfold testsT
  rw [List.forIn_cons, if_pos rfl]
  refine wpAny_bind (wpAny_bind (wpAny_mono h (fun b s₁ h₁ => ?_) fun _ _ e => e))
  cases b with
  | false => exact wpAny_pure (tests_false h₁)
  | true => exact wpAny_pure h₁

theorem folded_id {iter : Expr} {env : PySem.Env} (hn : notSet iter = true) : ∀ x, foldedSetIterable iter env x = pure x := by
  intro x
  cases iter <;> first | rfl | cases hn
theorem subscripted_id {slice : Expr} (hn : notSlice slice = true) : ∀ o i, subscripted slice false o i = operate [o, i] (getItem o i) := by
  intro o i
  cases slice <;> first | rfl | cases hn

theorem evAnd_cons2 {e e' : PE} {r : PEs} {σ : Env} {h : H} {Q : V → H → Prop} : evAnd G (.cons e (.cons e' r)) σ h Q = ev G e σ h fun v h₁ => truth v fun b => if b then evAnd G (.cons e' r) σ h₁ Q else Q v h₁ := by
  rfl
theorem evOr_cons2 {e e' : PE} {r : PEs} {σ : Env} {h : H} {Q : V → H → Prop} : evOr G (.cons e (.cons e' r)) σ h Q = ev G e σ h fun v h₁ => truth v fun b => if b then Q v h₁ else evOr G (.cons e' r) σ h₁ Q := by
  rfl

theorem chkEs_cons {fns : List String} {sc : Scope} {e : PE} {r : PEs} {x : Expr} {xs : List Expr} : chkEs fns sc (.cons e r) (x :: xs) = (notStar x && chkE fns sc e x && chkEs fns sc r xs) := rfl

theorem callOf (cx : Cx prog w K G A k) {f : String} {es : PEs} {env : PySem.Env} {P : Prt} {own : Str → Bool} {σ : Env} {s : Shared} {id : Str} {p pos : Pos} {l : List Expr} {h : H} {Q : V → H → Prop} {E : Value → Shared → Prop}
    (hf : K.fns.contains f = true) (hg : globOk env.scope f id = true) (hc : chkEs K.fns env.scope es l = true) (X : St K P own env σ h s)
    (ha : wpAny (model prog w) A (spliced (backTo pos (starEach l env))) (fun rs s' => ∃ vs h', VRs K vs rs ∧ vs.length = l.length ∧ St K P own env σ h' s' ∧ G.Γ f vs h' Q) E s) :
    wpAny (model prog w) A (eval (.Call (.Name id p) l [] pos) env) (EP K P own env σ Q) E s := by
  obtain ⟨a, o, fd, h1, h2, h3⟩ := cx.ok.fn f hf
  refine wpAny_Call_NameR (loadGlob cx.ok hg X h1 (Calls.callWith_function (o := o) (fd := fd) (evalArgs_of hc (wpAny_mono ha (fun rs s₁ hx => ?_) fun _ _ e => e))))
  obtain ⟨vs, h₁, hvs, _, X₁, hq₁⟩ := hx
  obtain ⟨a', h1', hv⟩ := cx.val f vs h₁ Q hq₁
  rw [h1] at h1'; cases h1'
  refine ⟨⟨X₁.rel.base _ _ h2, h3⟩, wpAny_mono (hv K.fl A (prtOf h₁ s₁) s₁ rs E cx.rm cx.fr X₁.rel.enter hvs) (fun r s' hx => ?_) fun _ _ e => e⟩
  obtain ⟨v, h', hr, R, hq'⟩ := hx
  exact ⟨v, h', hr, X₁.back R, hq'⟩

theorem isD_dict {va : V} {h : H} (hq : isD va h) : ∃ a kvs, va = .ref a ∧ h a = some (.dict kvs) ∧ a ≠ 1 := by
  cases va <;> (try exact hq.elim)
  rename_i a
  simp only [isD] at hq
  cases q : h a with
  | none => simp only [q] at hq
  | some o =>
    cases o with
    | tup xs => simp only [q] at hq
    | list xs => simp only [q] at hq
    | dict kvs => simp only [q] at hq; exact ⟨a, kvs, rfl, q, hq⟩
theorem getd_inv {b : Nat} {vk vd : V} {h : H} {Q : V → H → Prop} (hq : getdW (.ref b) vk vd h Q) : ∃ kvs t p, h b = some (.dict kvs) ∧ vk = .ref t ∧ h t = some (.tup [.int p.1, .int p.2]) ∧ keysOk h kvs ∧ (match lookK kvs p with | some x => Q (.int x) h | Option.none => Q vd h) := by
  simp only [getdW] at hq
  cases q : h b with
  | none => simp only [q] at hq
  | some o =>
    cases o with
    | tup xs => simp only [q] at hq
    | list xs => simp only [q] at hq
    | dict kvs =>
      simp only [q] at hq
      cases q2 : pairV h vk with
      | none => simp only [q2] at hq
      | some p =>
        simp only [q2] at hq
        cases vk <;> (try (simp only [pairV] at q2; cases q2))
        rename_i t
        refine ⟨kvs, t, p, rfl, rfl, ?_, hq.1, hq.2⟩
        unfold pairV at q2
        dsimp only at q2
        split at q2
        · rename_i i j hb; cases q2; exact hb
        · cases q2
theorem attrBase_ok {o : Expr} (h : (o.ctorIdx == 23 || o.ctorIdx == 21) = true) {name : Str} {env : PySem.Env} : attributeBase o name env (eval o env) = eval o env := by
  rcases Bool.or_eq_true_iff.mp h with h | h
  · obtain ⟨id, p, rfl⟩ := e_Name h; rfl
  · obtain ⟨l, r, p, rfl⟩ := e_Subscript h; rfl
mutual
theorem sndE (cx : Cx prog w K G A k) : ∀ (e : PE) {env : PySem.Env} {P : Prt} {own : Str → Bool} {σ : Env} {h : H} {s : Shared} {x : Expr} {Q : V → H → Prop} {E : Value → Shared → Prop},
    chkE K.fns env.scope e x = true → St K P own env σ h s → ev G e σ h Q → wpAny (model prog w) A (eval x env) (EP K P own env σ Q) E s
  | .none, env, P, own, σ, h, s, x, Q, E, hc, X, hq => by
    obtain ⟨_, _, rfl⟩ := i_none hc
    · simp only [r_ev_none, r_ev_bool, r_ev_int, r_ev_ty, r_ev_var, r_ev_glob, r_ev_bin, r_ev_neg, r_ev_not, r_ev_cmp, r_ev_band, r_ev_bor, r_ev_sub, r_ev_list, r_ev_tup, r_ev_call, r_ev_bfn, r_ev_meth, r_ev_comp] at hq; exact wpAny_Constant_none ⟨_, _, .none, X, hq⟩
  | .bool b, env, P, own, σ, h, s, x, Q, E, hc, X, hq => by
    obtain ⟨_, _, _, rfl, hc'⟩ := i_bool hc
    · simp only [beq_iff_eq] at hc'
      subst hc'
      simp only [r_ev_none, r_ev_bool, r_ev_int, r_ev_ty, r_ev_var, r_ev_glob, r_ev_bin, r_ev_neg, r_ev_not, r_ev_cmp, r_ev_band, r_ev_bor, r_ev_sub, r_ev_list, r_ev_tup, r_ev_call, r_ev_bfn, r_ev_meth, r_ev_comp] at hq
      exact wpAny_Constant_bool ⟨_, _, .bool _, X, hq⟩
  | .int i, env, P, own, σ, h, s, x, Q, E, hc, X, hq => by
    obtain ⟨_, _, _, rfl, hc'⟩ := i_int hc
    · simp only [beq_iff_eq] at hc'
      subst hc'
      simp only [r_ev_none, r_ev_bool, r_ev_int, r_ev_ty, r_ev_var, r_ev_glob, r_ev_bin, r_ev_neg, r_ev_not, r_ev_cmp, r_ev_band, r_ev_bor, r_ev_sub, r_ev_list, r_ev_tup, r_ev_call, r_ev_bfn, r_ev_meth, r_ev_comp] at hq
      exact wpAny_Constant_int ⟨_, _, .int _ _, X.grow (.tok s _), hq⟩
  | .ty t, env, P, own, σ, h, s, x, Q, E, hc, X, hq => by
    obtain ⟨_, _, rfl, hc'⟩ := i_ty hc
    · simp only [Bool.and_eq_true] at hc'
      simp only [r_ev_none, r_ev_bool, r_ev_int, r_ev_ty, r_ev_var, r_ev_glob, r_ev_bin, r_ev_neg, r_ev_not, r_ev_cmp, r_ev_band, r_ev_bor, r_ev_sub, r_ev_list, r_ev_tup, r_ev_call, r_ev_bfn, r_ev_meth, r_ev_comp] at hq
      have hb := cx.ok.ty t (List.contains_iff_mem.mp hc'.1)
      exact loadBuiltin cx.ok hc'.2 X hb.1 hb.2 ⟨_, _, .ty _, X, hq⟩
  | .var x', env, P, own, σ, h, s, x, Q, E, hc, X, hq => by
    obtain ⟨_, _, rfl, hc'⟩ := i_var hc
    · simp only [r_ev_none, r_ev_bool, r_ev_int, r_ev_ty, r_ev_var, r_ev_glob, r_ev_bin, r_ev_neg, r_ev_not, r_ev_cmp, r_ev_band, r_ev_bor, r_ev_sub, r_ev_list, r_ev_tup, r_ev_call, r_ev_bfn, r_ev_meth, r_ev_comp] at hq
      cases q : σ x' with
      | none => simp only [q] at hq
      | some v =>
        simp only [q] at hq
        exact loadVar hc' X q fun r hr => ⟨_, _, hr, X, hq⟩
  | .glob x', env, P, own, σ, h, s, x, Q, E, hc, X, hq => by
    obtain ⟨_, _, rfl, hc'⟩ := i_glob hc
    · simp only [r_ev_none, r_ev_bool, r_ev_int, r_ev_ty, r_ev_var, r_ev_glob, r_ev_bin, r_ev_neg, r_ev_not, r_ev_cmp, r_ev_band, r_ev_bor, r_ev_sub, r_ev_list, r_ev_tup, r_ev_call, r_ev_bfn, r_ev_meth, r_ev_comp] at hq
      cases q : G.gc x' with
      | none => simp only [q] at hq
      | some v =>
        simp only [q] at hq
        rw [cx.gc] at q
        obtain ⟨rv, h1, h2⟩ := cx.ok.gc _ _ q
        exact loadGlob cx.ok hc' X h1 ⟨_, _, h2, X, hq⟩
  | .bin op a b, env, P, own, σ, h, s, x, Q, E, hc, X, hq => by
    obtain ⟨_, _, _, _, rfl, hc'⟩ := i_bin hc
    · simp only [Bool.and_eq_true, beq_iff_eq] at hc'
      obtain ⟨⟨rfl, h1⟩, h2⟩ := hc'
      simp only [r_ev_none, r_ev_bool, r_ev_int, r_ev_ty, r_ev_var, r_ev_glob, r_ev_bin, r_ev_neg, r_ev_not, r_ev_cmp, r_ev_band, r_ev_bor, r_ev_sub, r_ev_list, r_ev_tup, r_ev_call, r_ev_bfn, r_ev_meth, r_ev_comp] at hq
      refine wpAny_BinOp (wpAny_mono (sndE cx a h1 X hq) (fun ra s₁ hx => ?_) fun _ _ e => e)
      obtain ⟨va, h₁, hva, X₁, hq₁⟩ := hx
      refine wpAny_mono (sndE cx b h2 X₁ hq₁) (fun rb s₂ hx => ?_) fun _ _ e => e
      obtain ⟨vb, h₂, hvb, X₂, hq₂⟩ := hx
      exact snd_binop X₂ hva hvb hq₂
  | .neg a, env, P, own, σ, h, s, x, Q, E, hc, X, hq => by
    obtain ⟨_, _, rfl, hc'⟩ := i_neg hc
    · simp only [r_ev_none, r_ev_bool, r_ev_int, r_ev_ty, r_ev_var, r_ev_glob, r_ev_bin, r_ev_neg, r_ev_not, r_ev_cmp, r_ev_band, r_ev_bor, r_ev_sub, r_ev_list, r_ev_tup, r_ev_call, r_ev_bfn, r_ev_meth, r_ev_comp] at hq
      refine wpAny_UnaryOp (wpAny_mono (sndE cx a hc' X hq) (fun ra s₁ hx => ?_) fun _ _ e => e)
      obtain ⟨va, h₁, hva, X₁, hq₁⟩ := hx
      exact snd_neg X₁ hva hq₁
  | .not a, env, P, own, σ, h, s, x, Q, E, hc, X, hq => by
    obtain ⟨_, _, rfl, hc'⟩ := i_not hc
    · simp only [r_ev_none, r_ev_bool, r_ev_int, r_ev_ty, r_ev_var, r_ev_glob, r_ev_bin, r_ev_neg, r_ev_not, r_ev_cmp, r_ev_band, r_ev_bor, r_ev_sub, r_ev_list, r_ev_tup, r_ev_call, r_ev_bfn, r_ev_meth, r_ev_comp] at hq
      refine wpAny_UnaryOp (wpAny_mono (sndE cx a hc' X hq) (fun ra s₁ hx => ?_) fun _ _ e => e)
      obtain ⟨va, h₁, hva, X₁, hq₁⟩ := hx
      refine not_value (wpAny_mono (snd_truth (Q := fun b h₁ => Q (.bool (!b)) h₁) X₁ hva hq₁) (fun b s₂ hx => ?_) fun _ _ e => e)
      obtain ⟨h₂, X₂, hq₂⟩ := hx
      exact ⟨_, _, .bool _, X₂, hq₂⟩
  | .cmp op a b, env, P, own, σ, h, s, x, Q, E, hc, X, hq => by
    obtain ⟨_, _, _, _, rfl, hc'⟩ := i_cmp hc
    · simp only [Bool.and_eq_true, beq_iff_eq, Bool.not_eq_true'] at hc'
      obtain ⟨⟨⟨rfl, hm⟩, h1⟩, h2⟩ := hc'
      simp only [r_ev_none, r_ev_bool, r_ev_int, r_ev_ty, r_ev_var, r_ev_glob, r_ev_bin, r_ev_neg, r_ev_not, r_ev_cmp, r_ev_band, r_ev_bor, r_ev_sub, r_ev_list, r_ev_tup, r_ev_call, r_ev_bfn, r_ev_meth, r_ev_comp] at hq
      refine wpAny_Compare1 (wpAny_mono (sndE cx a h1 X hq) (fun ra s₁ hx => ?_) fun _ _ e => e) hm
      obtain ⟨va, h₁, hva, X₁, hq₁⟩ := hx
      refine wpAny_mono (sndE cx b h2 X₁ hq₁) (fun rb s₂ hx => ?_) fun _ _ e => e
      obtain ⟨vb, h₂, hvb, X₂, hq₂⟩ := hx
      exact snd_cmp X₂ cx.rm hva hvb hq₂
  | .band es, env, P, own, σ, h, s, x, Q, E, hc, X, hq => by
    obtain ⟨_, _, rfl, hc'⟩ := i_band hc
    · simp only [r_ev_none, r_ev_bool, r_ev_int, r_ev_ty, r_ev_var, r_ev_glob, r_ev_bin, r_ev_neg, r_ev_not, r_ev_cmp, r_ev_band, r_ev_bor, r_ev_sub, r_ev_list, r_ev_tup, r_ev_call, r_ev_bfn, r_ev_meth, r_ev_comp] at hq
      rw [arm_eval_BoolOp]
      exact sndAnd cx es hc' X hq
  | .bor es, env, P, own, σ, h, s, x, Q, E, hc, X, hq => by
    obtain ⟨_, _, rfl, hc'⟩ := i_bor hc
    · simp only [r_ev_none, r_ev_bool, r_ev_int, r_ev_ty, r_ev_var, r_ev_glob, r_ev_bin, r_ev_neg, r_ev_not, r_ev_cmp, r_ev_band, r_ev_bor, r_ev_sub, r_ev_list, r_ev_tup, r_ev_call, r_ev_bfn, r_ev_meth, r_ev_comp] at hq
      rw [arm_eval_BoolOp]
      exact sndOr cx es hc' X hq
  | .sub a i, env, P, own, σ, h, s, x, Q, E, hc, X, hq => by
    obtain ⟨_, _, _, rfl, hc'⟩ := i_sub hc
    · simp only [Bool.and_eq_true] at hc'
      simp only [r_ev_none, r_ev_bool, r_ev_int, r_ev_ty, r_ev_var, r_ev_glob, r_ev_bin, r_ev_neg, r_ev_not, r_ev_cmp, r_ev_band, r_ev_bor, r_ev_sub, r_ev_list, r_ev_tup, r_ev_call, r_ev_bfn, r_ev_meth, r_ev_comp] at hq
      refine Subscript_ (wpAny_mono (sndE cx a hc'.1.2 X hq) (fun ra s₁ hx => ?_) fun _ _ e => e)
      obtain ⟨va, h₁, hva, X₁, hq₁⟩ := hx
      refine wpAny_mono (sndE cx i hc'.2 X₁ hq₁) (fun rb s₂ hx => ?_) fun _ _ e => e
      obtain ⟨vb, h₂, hvb, X₂, hq₂⟩ := hx
      exact snd_sub X₂ cx.ok cx.ns hva hvb hq₂ (subscripted_id hc'.1.1)
  | .take a e, env, P, own, σ, h, s, x, Q, E, hc, X, hq => by
    obtain ⟨id, p, u, q, pos, rfl, hc'⟩ := i_take hc
    simp only [Bool.and_eq_true] at hc'
    simp only [r_ev_take] at hq
    refine wpAny_Subscript_list_slice (wpAny_mono (sndE cx a hc'.1 X hq) (fun ra s₁ hx => ?_) fun _ _ e => e)
    obtain ⟨va, h₁, hva, X₁, hq₁⟩ := hx
    rw [evalPart_none, evalPart_some]
    refine wpAny_pure (wpAny_mono (sndE cx e hc'.2 X₁ hq₁) (fun rb s₂ hx => ?_) fun _ _ e => e)
    obtain ⟨vb, h₂, hvb, X₂, hq₂⟩ := hx
    obtain ⟨b, xs, rfl, hb, hq₃⟩ := ofL_list hq₂
    obtain ⟨m, rfl, hq₄⟩ := natI_int hq₃
    cases hva
    cases hvb
    rename_i tk
    obtain ⟨items, n, g1, g2, g3⟩ := X₂.rel.list hb
    have e1 : items.size = xs.length := by rw [← Array.length_toList, g2.length]
    refine ⟨_, items, _, _, rfl, ⟨_, g1, rfl, _, rfl⟩, by rw [e1]; exact sizeLine_lim g3, .none, .int _ _, ?_⟩
    rw [slicePick_upto']
    have X₃ := X₂.grow (.push s₂ { cls := .type "slice", data := .fields #[Value.none, Value.int m tk, Value.none] } s₂.toks)
    obtain ⟨k1, k2⟩ := X₃.addPush (o := .list (xs.take m)) (ob := listOb (items.toList.take m).toArray 0) (t := s₂.toks) (.list (by simpa using g2.take m) (by simp; (first | lia | omega)))
    rw [Heap.size_push] at k1 k2
    exact ⟨_, _, .ref _, k2, hq₄ _ k1⟩
  | .drop a e, env, P, own, σ, h, s, x, Q, E, hc, X, hq => by
    obtain ⟨id, p, u, q, pos, rfl, hc'⟩ := i_drop hc
    simp only [Bool.and_eq_true] at hc'
    simp only [r_ev_drop] at hq
    refine wpAny_Subscript_list_slice (wpAny_mono (sndE cx a hc'.1 X hq) (fun ra s₁ hx => ?_) fun _ _ e => e)
    obtain ⟨va, h₁, hva, X₁, hq₁⟩ := hx
    rw [evalPart_none, evalPart_some]
    refine wpAny_mono (sndE cx e hc'.2 X₁ hq₁) (fun rb s₂ hx => wpAny_pure ?_) fun _ _ e => e
    obtain ⟨vb, h₂, hvb, X₂, hq₂⟩ := hx
    obtain ⟨b, xs, rfl, hb, hq₃⟩ := ofL_list hq₂
    obtain ⟨m, rfl, hq₄⟩ := natI_int hq₃
    cases hva
    cases hvb
    rename_i tk
    obtain ⟨items, n, g1, g2, g3⟩ := X₂.rel.list hb
    have e1 : items.size = xs.length := by rw [← Array.length_toList, g2.length]
    refine ⟨_, items, _, _, rfl, ⟨_, g1, rfl, _, rfl⟩, by rw [e1]; exact sizeLine_lim g3, .int _ _, .none, ?_⟩
    rw [slicePick_from']
    have X₃ := X₂.grow (.push s₂ { cls := .type "slice", data := .fields #[Value.int m tk, Value.none, Value.none] } s₂.toks)
    obtain ⟨k1, k2⟩ := X₃.addPush (o := .list (xs.drop m)) (ob := listOb (items.toList.drop m).toArray 0) (t := s₂.toks) (.list (by simpa using g2.drop m) (by simp; (first | lia | omega)))
    rw [Heap.size_push] at k1 k2
    exact ⟨_, _, .ref _, k2, hq₄ _ k1⟩
  | .dict0, env, P, own, σ, h, s, x, Q, E, hc, X, hq => by
    obtain ⟨p, rfl⟩ := i_dict0 hc
    simp only [r_ev_dict0] at hq
    refine wpAny_Dict_empty ?_
    have hlow := modules_low (cx.ok.noLim.keeps X.rel.base)
    obtain ⟨k1, k2⟩ := X.addPush (o := .dict []) (ob := dictOb #[] 0) (t := s.toks) (.dict .nil rfl List.nodup_nil (Nat.zero_le _))
    exact ⟨_, _, .ref _, k2, hq _ k1 (fun q => by rw [q] at hlow; exact absurd hlow (by decide))⟩
  | .getd a k d, env, P, own, σ, h, s, x, Q, E, hc, X, hq => by
    obtain ⟨o, apos, y, z, pos, rfl, ho, hl, h1, h2⟩ := i_getd hc
    simp only [Bool.and_eq_true] at h2
    obtain ⟨⟨⟨h3, h4⟩, h5⟩, h6⟩ := h2
    simp only [r_ev_getd] at hq
    rw [arm_eval_Call]
    refine wpAny_bind ?_
    rw [attrBase_ok ho]
    refine wpAny_mono (sndE cx a h1 X hq) (fun ra s₁ hx => ?_) fun _ _ e => e
    obtain ⟨va, h₁, hva, X₁, hD, hq₁⟩ := hx
    obtain ⟨b, kvs, rfl, hb, hne⟩ := isD_dict hD
    cases hva
    obtain ⟨ob, g1, g2, _⟩ := X₁.rel.objs _ _ hb
    have hT : s₁.TypeIs (.ref b) "dict" := by cases g2; exact ⟨_, g1, rfl⟩
    refine wpAny_bind (wpAny_standAt ?_)
    unfold methodCall
    have hst : starEach [y, z] env = [(false, eval y env), (false, eval z env)] := by rw [starEach_cons h3, starEach_cons h4]; rfl
    have hform : methodCallForm ([y, z].length + ([] : List Keyword).length) (backTo pos (starEach [y, z] env)) (backToKw pos (keywordEach [] env)) = true := by
      rw [hst]; rfl
    rw [hform]
    refine wpAny_bind (wpAny_holding ?_)
    show wpAny _ A (getMethod (.ref b) _ _) _ E s₁
    refine getMethod_builtin hT PySem.F.plainAttrs_dict PySem.F.slot_dict_get PySem.F.type_dict_get (fun b' e => by cases e; cases g2; exact ⟨_, g1, rfl⟩) ?_
    dsimp only
    refine wpAny_bind (m := methodCallPos true _ _ _ _) ?_
    unfold methodCallPos
    rw [if_pos (by rw [hl]; simp)]
    refine wpAny_pure ?_
    rw [hst]
    show wpAny _ A (callWith pos (.builtin "dict.get") [.ref b] [(false, eval y env), (false, eval z env)] []) _ E s₁
    refine wpAny_dict_get2_heap (knd := tupleKind (intKind prog w)) (by have := cx.rm.un; show A.units + 1 < cLine; (first | lia | omega)) (beq_eq_false_iff_ne.mpr hne) (wpAny_mono (sndE cx k h5 X₁ hq₁) (fun rk s₂ hx => ?_) fun _ _ e => e)
    obtain ⟨vk, h₂, hvk, X₂, hq₂⟩ := hx
    refine wpAny_mono (sndE cx d h6 X₂ hq₂) (fun rd s₃ hx => ?_) fun _ _ e => e
    obtain ⟨vd, h₃, hvd, X₃, hq₃⟩ := hx
    obtain ⟨kvs', t, p, k1, rfl, k2, k3, k4⟩ := getd_inv hq₃
    cases hvk
    obtain ⟨xs, m1, m2, m3⟩ := dict_of (prog := prog) (w := w) X₃.rel k1 k3
    refine ⟨t, [p.1, p.2], xs, rfl, pair_is X₃.rel k2, m1, ?_⟩
    have hl := m2.look p
    unfold lookK at k4
    unfold atKey
    cases q : kvs'.find? (fun e => decide (e.1 = p)) with
    | none =>
      rw [q] at hl k4
      dsimp only at hl
      rw [hl]
      exact ⟨_, _, hvd, X₃.grow (.tok s₃ _), k4⟩
    | some e =>
      rw [q] at hl k4
      obtain ⟨tt, hl⟩ := hl
      rw [hl]
      exact ⟨_, _, .int _ _, X₃.grow (.tok s₃ _), k4⟩
  | .list es, env, P, own, σ, h, s, x, Q, E, hc, X, hq => by
    obtain ⟨_, _, rfl, hc'⟩ := i_list hc
    · simp only [Bool.and_eq_true, decide_eq_true_eq] at hc'
      simp only [r_ev_none, r_ev_bool, r_ev_int, r_ev_ty, r_ev_var, r_ev_glob, r_ev_bin, r_ev_neg, r_ev_not, r_ev_cmp, r_ev_band, r_ev_bor, r_ev_sub, r_ev_list, r_ev_tup, r_ev_call, r_ev_bfn, r_ev_meth, r_ev_comp] at hq
      refine wpAny_List (wpAny_mono (sndEs cx es hc'.2 X hq) (fun rs s₁ hx => ?_) fun _ _ e => e)
      obtain ⟨vs, h₁, hvs, hlen, X₁, hq₁⟩ := hx
      have hl : vs.length ≤ lim := by have := hc'.1; unfold lim; (first | lia | omega)
      refine ⟨by rw [← hvs.length]; exact sizeLine_lim hl, ?_⟩
      obtain ⟨g1, g2⟩ := X₁.addPush (o := .list vs) (ob := listOb rs.toArray 0) (t := s₁.toks) (.list (by simpa using hvs) hl)
      exact ⟨_, _, .ref _, g2, hq₁ _ g1⟩
  | .tup es, env, P, own, σ, h, s, x, Q, E, hc, X, hq => by
    obtain ⟨_, _, _, rfl, hc'⟩ := i_tup hc
    · simp only [Bool.and_eq_true, decide_eq_true_eq] at hc'
      simp only [r_ev_none, r_ev_bool, r_ev_int, r_ev_ty, r_ev_var, r_ev_glob, r_ev_bin, r_ev_neg, r_ev_not, r_ev_cmp, r_ev_band, r_ev_bor, r_ev_sub, r_ev_list, r_ev_tup, r_ev_call, r_ev_bfn, r_ev_meth, r_ev_comp] at hq
      refine wpAny_Tuple (wpAny_mono (sndEs cx es hc'.2 X hq) (fun rs s₁ hx => ?_) fun _ _ e => e)
      obtain ⟨vs, h₁, hvs, hlen, X₁, hq₁⟩ := hx
      have hl : vs.length ≤ lim := by have := hc'.1; unfold lim; (first | lia | omega)
      refine ⟨by rw [← hvs.length]; exact sizeLine_lim hl, ?_⟩
      obtain ⟨g1, g2⟩ := X₁.addPush (o := .tup vs) (ob := tupOb rs.toArray 0) (t := s₁.toks) (.tup (by simpa using hvs) hl)
      exact ⟨_, _, .ref _, g2, hq₁ _ g1⟩
  | .call f es, env, P, own, σ, h, s, x, Q, E, hc, X, hq => by
    obtain ⟨_, _, _, _, rfl, hc'⟩ := i_call hc
    · simp only [Bool.and_eq_true] at hc'
      simp only [r_ev_none, r_ev_bool, r_ev_int, r_ev_ty, r_ev_var, r_ev_glob, r_ev_bin, r_ev_neg, r_ev_not, r_ev_cmp, r_ev_band, r_ev_bor, r_ev_sub, r_ev_list, r_ev_tup, r_ev_call, r_ev_bfn, r_ev_meth, r_ev_comp] at hq
      exact callOf cx hc'.1.1 hc'.1.2 hc'.2 X (sndEs cx es hc'.2 X hq)
  | .bfn f es, env, P, own, σ, h, s, x, Q, E, hc, X, hq => by
    obtain ⟨_, _, _, _, rfl, hc'⟩ := i_bfn hc
    · simp only [Bool.and_eq_true] at hc'
      simp only [r_ev_none, r_ev_bool, r_ev_int, r_ev_ty, r_ev_var, r_ev_glob, r_ev_bin, r_ev_neg, r_ev_not, r_ev_cmp, r_ev_band, r_ev_bor, r_ev_sub, r_ev_list, r_ev_tup, r_ev_call, r_ev_bfn, r_ev_meth, r_ev_comp] at hq
      have hb := cx.ok.bf f
      refine wpAny_Call_NameR (loadBuiltin cx.ok hc'.1 X hb.1 hb.2 (bfn_callWith hc'.2 (wpAny_mono (sndEs cx es hc'.2 X hq) (fun rs s₁ hx => ?_) fun _ _ e => e)))
      obtain ⟨vs, h₁, hvs, hlen, X₁, hq₁⟩ := hx
      exact snd_bfn X₁ cx.ok cx.ns cx.rm hvs hq₁
  | .meth a m es, env, P, own, σ, h, s, x, Q, E, hc, X, hq => by
    obtain ⟨o, name, apos, l, pos, rfl, ho, hc'⟩ := i_meth hc
    · simp only [Bool.and_eq_true, beq_iff_eq, decide_eq_true_eq] at hc'
      obtain ⟨⟨⟨⟨rfl, hln⟩, hn⟩, h1⟩, h2⟩ := hc'
      simp only [r_ev_none, r_ev_bool, r_ev_int, r_ev_ty, r_ev_var, r_ev_glob, r_ev_bin, r_ev_neg, r_ev_not, r_ev_cmp, r_ev_band, r_ev_bor, r_ev_sub, r_ev_list, r_ev_tup, r_ev_call, r_ev_bfn, r_ev_meth, r_ev_comp] at hq
      rw [arm_eval_Call]
      refine wpAny_bind ?_
      rw [attrBase_ok ho]
      refine wpAny_mono (sndE cx a h1 X hq) (fun ra s₁ hx => ?_) fun _ _ e => e
      obtain ⟨va, h₁, hva, X₁, hL, hq₁⟩ := hx
      obtain ⟨b, ys, rfl, hb⟩ := isL_list hL
      cases hva
      obtain ⟨items, n, g1, g2, g3⟩ := X₁.rel.list hb
      refine wpAny_bind (wpAny_standAt ?_)
      unfold methodCall
      have hform : methodCallForm (l.length + ([] : List Keyword).length) (backTo pos (starEach l env)) (backToKw pos (keywordEach [] env)) = true := by
        unfold methodCallForm
        have h3 := chkEs_noStar (env := env) (pos := pos) h2
        have h4 : (backTo pos (starEach l env)).all (!·.1) = true := by
          rw [List.all_eq_true]
          intro p hp
          rw [List.any_eq_false] at h3
          have := h3 p hp
          simpa using this
        rw [h4]
        simp [keywordEach, backToKw]; (first | lia | omega)
      rw [hform]
      refine wpAny_bind (wpAny_holding ?_)
      show wpAny _ A (getMethod (.ref b) _ _) _ E s₁
      refine getMeth g1 ?_
      dsimp only
      refine wpAny_bind (m := methodCallPos true _ _ _ _) ?_
      unfold methodCallPos
      rw [if_pos (by rw [hln]; simp)]
      refine wpAny_pure ?_
      refine Calls.callWith_builtin (chkEs_noStar h2) (evalArgs_of h2 (wpAny_mono (sndEs cx es h2 X₁ hq₁) (fun rs s₂ hx => ?_) fun _ _ e => e))
      obtain ⟨vs, h₂, hvs, hlen, X₂, hq₂⟩ := hx
      exact snd_meth X₂ (.ref b) hvs hq₂
  | .comp elt t src ifs, env, P, own, σ, h, s, x, Q, E, hc, X, hq => by
    obtain ⟨el, tg, it, fs, csc, pos, rfl, hc'⟩ := i_comp hc
    · simp only [Bool.and_eq_true] at hc'
      obtain ⟨⟨⟨⟨⟨h1, h2⟩, h3⟩, h4⟩, h5⟩, h6⟩ := hc'
      simp only [r_ev_none, r_ev_bool, r_ev_int, r_ev_ty, r_ev_var, r_ev_glob, r_ev_bin, r_ev_neg, r_ev_not, r_ev_cmp, r_ev_band, r_ev_bor, r_ev_sub, r_ev_list, r_ev_tup, r_ev_call, r_ev_bfn, r_ev_meth, r_ev_comp] at hq
      rw [eval_ListComp]
      refine wpAny_comprehension_free rfl (folded_id h3) (closureFor_eq (comp_frees X h1)) (scOk.kind h1) (fun p hp hl => by rw [scOk.same h1 p hp, hl]) ?_
      refine wpAny_mono (sndSrc cx src h4 X hq) (fun r s₁ hx => ?_) fun _ _ e => e
      obtain ⟨xs, kp, h₁, X₁, hxl, hv, hq₁⟩ := hx
      exact comp_value cx.rm.hd h1 h2 (fun L P' σ' h' s' Q' E' Y hy => sndIfs cx ifs h5 Y hy) (fun L P' σ' h' s' Q' E' Y hy => sndE cx elt h6 Y hy) X₁ hv hxl hq₁
theorem sndEs (cx : Cx prog w K G A k) : ∀ (es : PEs) {env : PySem.Env} {P : Prt} {own : Str → Bool} {σ : Env} {h : H} {s : Shared} {pos : Pos} {l : List Expr} {Q : List V → H → Prop} {E : Value → Shared → Prop},
    chkEs K.fns env.scope es l = true → St K P own env σ h s → evs G es σ h Q → wpAny (model prog w) A (spliced (backTo pos (starEach l env))) (fun rs s' => ∃ vs h', VRs K vs rs ∧ vs.length = l.length ∧ St K P own env σ h' s' ∧ Q vs h') E s
  | .nil, env, P, own, σ, h, s, pos, l, Q, E, hc, X, hq => by
    cases i_nil hc
    · simp only [r_evs_nil, r_evs_cons] at hq; exact wpAny_items_nil ⟨[], h, .nil, rfl, X, hq⟩
  | .cons e r, env, P, own, σ, h, s, pos, l, Q, E, hc, X, hq => by
    obtain ⟨_, _, rfl, hc'⟩ := i_cons hc
    · simp only [Bool.and_eq_true] at hc'
      simp only [r_evs_nil, r_evs_cons] at hq
      refine wpAny_items_cons (wpAny_mono (sndE cx e hc'.1.2 X hq) (fun ra s₁ hx => ?_) fun _ _ e => e) (starEach_cons hc'.1.1)
      obtain ⟨va, h₁, hva, X₁, hq₁⟩ := hx
      refine wpAny_mono (sndEs cx r hc'.2 X₁ hq₁) (fun rs s₂ hx => ?_) fun _ _ e => e
      obtain ⟨vs, h₂, hvs, hlen, X₂, hq₂⟩ := hx
      exact ⟨_, _, .cons hva hvs, by simp [hlen], X₂, hq₂⟩
theorem sndAnd (cx : Cx prog w K G A k) : ∀ (es : PEs) {env : PySem.Env} {P : Prt} {own : Str → Bool} {σ : Env} {h : H} {s : Shared} {pos : Pos} {l : List Expr} {Q : V → H → Prop} {E : Value → Shared → Prop},
    chkEs K.fns env.scope es l = true → St K P own env σ h s → evAnd G es σ h Q → wpAny (model prog w) A (boolOp pos .And (evalEach l env)) (EP K P own env σ Q) E s
  | .nil, env, P, own, σ, h, s, pos, l, Q, E, hc, X, hq => by exact False.elim hq
  | .cons e .nil, env, P, own, σ, h, s, pos, l, Q, E, hc, X, hq => by
    obtain ⟨_, _, rfl, hc'⟩ := i_cons hc
    · simp only [Bool.and_eq_true] at hc'
      cases i_nil hc'.2
      exact wpAny_boolOp_one (sndE cx e hc'.1.2 X hq)
  | .cons e (.cons e' r), env, P, own, σ, h, s, pos, l, Q, E, hc, X, hq => by
    cases l with
    | nil => exact Bool.noConfusion hc
    | cons x xs =>
      rw [chkEs_cons] at hc
      simp only [Bool.and_eq_true] at hc
      obtain ⟨⟨h0, h1⟩, h2⟩ := hc
      cases xs with
      | nil => exact Bool.noConfusion h2
      | cons y ys =>
        rw [evAnd_cons2] at hq
        refine wpAny_boolOp_and (wpAny_mono (sndE cx e h1 X hq) (fun ra s₁ hx => ?_) fun _ _ e => e)
        obtain ⟨va, h₁, hva, X₁, hq₁⟩ := hx
        refine wpAny_mono (snd_truth (Q := fun b h₁ => if b then evAnd G (.cons e' r) σ h₁ Q else Q va h₁) X₁ hva hq₁) (fun b s₂ hx => ?_) fun _ _ e => e
        obtain ⟨h₂, X₂, hq₂⟩ := hx
        cases b with
        | true => exact sndAnd cx (.cons e' r) h2 X₂ hq₂
        | false => exact ⟨_, _, hva, X₂, hq₂⟩
theorem sndOr (cx : Cx prog w K G A k) : ∀ (es : PEs) {env : PySem.Env} {P : Prt} {own : Str → Bool} {σ : Env} {h : H} {s : Shared} {pos : Pos} {l : List Expr} {Q : V → H → Prop} {E : Value → Shared → Prop},
    chkEs K.fns env.scope es l = true → St K P own env σ h s → evOr G es σ h Q → wpAny (model prog w) A (boolOp pos .Or (evalEach l env)) (EP K P own env σ Q) E s
  | .nil, env, P, own, σ, h, s, pos, l, Q, E, hc, X, hq => by exact False.elim hq
  | .cons e .nil, env, P, own, σ, h, s, pos, l, Q, E, hc, X, hq => by
    obtain ⟨_, _, rfl, hc'⟩ := i_cons hc
    · simp only [Bool.and_eq_true] at hc'
      cases i_nil hc'.2
      exact wpAny_boolOp_one (sndE cx e hc'.1.2 X hq)
  | .cons e (.cons e' r), env, P, own, σ, h, s, pos, l, Q, E, hc, X, hq => by
    cases l with
    | nil => exact Bool.noConfusion hc
    | cons x xs =>
      rw [chkEs_cons] at hc
      simp only [Bool.and_eq_true] at hc
      obtain ⟨⟨h0, h1⟩, h2⟩ := hc
      cases xs with
      | nil => exact Bool.noConfusion h2
      | cons y ys =>
        rw [evOr_cons2] at hq
        refine wpAny_boolOp_or (wpAny_mono (sndE cx e h1 X hq) (fun ra s₁ hx => ?_) fun _ _ e => e)
        obtain ⟨va, h₁, hva, X₁, hq₁⟩ := hx
        refine wpAny_mono (snd_truth (Q := fun b h₁ => if b then Q va h₁ else evOr G (.cons e' r) σ h₁ Q) X₁ hva hq₁) (fun b s₂ hx => ?_) fun _ _ e => e
        obtain ⟨h₂, X₂, hq₂⟩ := hx
        cases b with
        | false => exact sndOr cx (.cons e' r) h2 X₂ hq₂
        | true => exact ⟨_, _, hva, X₂, hq₂⟩
theorem sndC (cx : Cx prog w K G A k) : ∀ (e : PE) {env : PySem.Env} {P : Prt} {own : Str → Bool} {σ : Env} {h : H} {s : Shared} {x : Expr} {Q : Bool → H → Prop} {E : Value → Shared → Prop},
    chkE K.fns env.scope e x = true → St K P own env σ h s → cond G e σ h Q → wpAny (model prog w) A (isTrue x env (eval x env)) (BP K P own env σ Q) E s
  | .not a, env, P, own, σ, h, s, x, Q, E, hc, X, hq => by
    obtain ⟨_, _, rfl, hc'⟩ := i_not hc
    · simp only [r_cond_not, r_cond_band, r_cond_bor, r_cond_cmp, r_cond_none, r_cond_bool, r_cond_int, r_cond_ty, r_cond_var, r_cond_glob, r_cond_bin, r_cond_neg, r_cond_sub, r_cond_list, r_cond_tup, r_cond_call, r_cond_bfn, r_cond_meth, r_cond_comp] at hq
      exact wpAny_isTrue_Not (sndC cx a hc' X hq)
  | .band es, env, P, own, σ, h, s, x, Q, E, hc, X, hq => by
    obtain ⟨_, _, rfl, hc'⟩ := i_band hc
    · simp only [r_cond_not, r_cond_band, r_cond_bor, r_cond_cmp, r_cond_none, r_cond_bool, r_cond_int, r_cond_ty, r_cond_var, r_cond_glob, r_cond_bin, r_cond_neg, r_cond_sub, r_cond_list, r_cond_tup, r_cond_call, r_cond_bfn, r_cond_meth, r_cond_comp] at hq
      exact wpAny_isTrue_BoolOp (sndCAnd cx es hc' X hq)
  | .bor es, env, P, own, σ, h, s, x, Q, E, hc, X, hq => by
    obtain ⟨_, _, rfl, hc'⟩ := i_bor hc
    · simp only [r_cond_not, r_cond_band, r_cond_bor, r_cond_cmp, r_cond_none, r_cond_bool, r_cond_int, r_cond_ty, r_cond_var, r_cond_glob, r_cond_bin, r_cond_neg, r_cond_sub, r_cond_list, r_cond_tup, r_cond_call, r_cond_bfn, r_cond_meth, r_cond_comp] at hq
      exact wpAny_isTrue_BoolOp (sndCOr cx es hc' X hq)
  | .cmp op a b, env, P, own, σ, h, s, x, Q, E, hc, X, hq => by
    obtain ⟨_, _, _, _, rfl, hc'⟩ := i_cmp hc
    · simp only [Bool.and_eq_true, beq_iff_eq, Bool.not_eq_true'] at hc'
      obtain ⟨⟨⟨rfl, hm⟩, h1⟩, h2⟩ := hc'
      simp only [r_cond_not, r_cond_band, r_cond_bor, r_cond_cmp, r_cond_none, r_cond_bool, r_cond_int, r_cond_ty, r_cond_var, r_cond_glob, r_cond_bin, r_cond_neg, r_cond_sub, r_cond_list, r_cond_tup, r_cond_call, r_cond_bfn, r_cond_meth, r_cond_comp] at hq
      refine wpAny_isTrue_Compare1 (wpAny_mono (sndE cx a h1 X hq) (fun ra s₁ hx => ?_) fun _ _ e => e) hm
      obtain ⟨va, h₁, hva, X₁, hq₁⟩ := hx
      refine wpAny_mono (sndE cx b h2 X₁ hq₁) (fun rb s₂ hx => ?_) fun _ _ e => e
      obtain ⟨vb, h₂, hvb, X₂, hq₂⟩ := hx
      refine wpAny_mono (snd_cmp X₂ cx.rm hva hvb hq₂) (fun r s₃ hx => ?_) fun _ _ e => e
      obtain ⟨v, h₃, hv, X₃, hq₃⟩ := hx
      exact snd_truth X₃ hv hq₃
  | .none, env, P, own, σ, h, s, x, Q, E, hc, X, hq => by exact False.elim hq
  | .bool b, env, P, own, σ, h, s, x, Q, E, hc, X, hq => by
    obtain ⟨_, _, _, rfl, hc'⟩ := i_bool hc
    · simp only [beq_iff_eq] at hc'
      subst hc'
      simp only [r_cond_not, r_cond_band, r_cond_bor, r_cond_cmp, r_cond_none, r_cond_bool, r_cond_int, r_cond_ty, r_cond_var, r_cond_glob, r_cond_bin, r_cond_neg, r_cond_sub, r_cond_list, r_cond_tup, r_cond_call, r_cond_bfn, r_cond_meth, r_cond_comp] at hq
      exact wpAny_isTrue_value (wpAny_Constant_bool (wpAny_truthy_bool ⟨_, X, hq⟩))
  | .int _, env, P, own, σ, h, s, x, Q, E, hc, X, hq => by exact False.elim hq
  | .ty _, env, P, own, σ, h, s, x, Q, E, hc, X, hq => by exact False.elim hq
  | .var x', env, P, own, σ, h, s, x, Q, E, hc, X, hq => by
    obtain ⟨_, _, rfl, hc'⟩ := i_var hc
    · simp only [r_cond_not, r_cond_band, r_cond_bor, r_cond_cmp, r_cond_none, r_cond_bool, r_cond_int, r_cond_ty, r_cond_var, r_cond_glob, r_cond_bin, r_cond_neg, r_cond_sub, r_cond_list, r_cond_tup, r_cond_call, r_cond_bfn, r_cond_meth, r_cond_comp] at hq
      cases q : σ x' with
      | none => simp only [q] at hq
      | some v =>
        simp only [q] at hq
        exact wpAny_isTrue_value (loadVar hc' X q fun r hr => snd_truth X hr hq)
  | .glob _, env, P, own, σ, h, s, x, Q, E, hc, X, hq => by exact False.elim hq
  | .bin _ _ _, env, P, own, σ, h, s, x, Q, E, hc, X, hq => by exact False.elim hq
  | .neg _, env, P, own, σ, h, s, x, Q, E, hc, X, hq => by exact False.elim hq
  | .sub a i, env, P, own, σ, h, s, x, Q, E, hc, X, hq => by
    obtain ⟨_, _, _, rfl, hc'⟩ := i_sub hc
    · simp only [Bool.and_eq_true] at hc'
      simp only [r_cond_not, r_cond_band, r_cond_bor, r_cond_cmp, r_cond_none, r_cond_bool, r_cond_int, r_cond_ty, r_cond_var, r_cond_glob, r_cond_bin, r_cond_neg, r_cond_sub, r_cond_list, r_cond_tup, r_cond_call, r_cond_bfn, r_cond_meth, r_cond_comp] at hq
      refine wpAny_isTrue_value (Subscript_ (wpAny_mono (sndE cx a hc'.1.2 X hq) (fun ra s₁ hx => ?_) fun _ _ e => e))
      obtain ⟨va, h₁, hva, X₁, hq₁⟩ := hx
      refine wpAny_mono (sndE cx i hc'.2 X₁ hq₁) (fun rb s₂ hx => ?_) fun _ _ e => e
      obtain ⟨vb, h₂, hvb, X₂, hq₂⟩ := hx
      refine wpAny_mono (snd_sub X₂ cx.ok cx.ns hva hvb hq₂ (subscripted_id hc'.1.1)) (fun r s₃ hx => ?_) fun _ _ e => e
      obtain ⟨v, h₃, hv, X₃, hq₃⟩ := hx
      exact snd_truth X₃ hv hq₃
  | .take _ _, env, P, own, σ, h, s, x, Q, E, hc, X, hq => by exact False.elim hq
  | .drop _ _, env, P, own, σ, h, s, x, Q, E, hc, X, hq => by exact False.elim hq
  | .dict0, env, P, own, σ, h, s, x, Q, E, hc, X, hq => by exact False.elim hq
  | .getd _ _ _, env, P, own, σ, h, s, x, Q, E, hc, X, hq => by exact False.elim hq
  | .list _, env, P, own, σ, h, s, x, Q, E, hc, X, hq => by exact False.elim hq
  | .tup _, env, P, own, σ, h, s, x, Q, E, hc, X, hq => by exact False.elim hq
  | .call f es, env, P, own, σ, h, s, x, Q, E, hc, X, hq => by
    obtain ⟨_, _, _, _, rfl, hc'⟩ := i_call hc
    · simp only [Bool.and_eq_true] at hc'
      simp only [r_cond_not, r_cond_band, r_cond_bor, r_cond_cmp, r_cond_none, r_cond_bool, r_cond_int, r_cond_ty, r_cond_var, r_cond_glob, r_cond_bin, r_cond_neg, r_cond_sub, r_cond_list, r_cond_tup, r_cond_call, r_cond_bfn, r_cond_meth, r_cond_comp] at hq
      refine wpAny_isTrue_value (wpAny_mono (callOf cx hc'.1.1 hc'.1.2 hc'.2 X (sndEs cx es hc'.2 X hq)) (fun r s₃ hx => ?_) fun _ _ e => e)
      obtain ⟨v, h₃, hv, X₃, hq₃⟩ := hx
      exact snd_truth X₃ hv hq₃
  | .bfn f es, env, P, own, σ, h, s, x, Q, E, hc, X, hq => by
    obtain ⟨_, _, _, _, rfl, hc'⟩ := i_bfn hc
    · simp only [Bool.and_eq_true] at hc'
      simp only [r_cond_not, r_cond_band, r_cond_bor, r_cond_cmp, r_cond_none, r_cond_bool, r_cond_int, r_cond_ty, r_cond_var, r_cond_glob, r_cond_bin, r_cond_neg, r_cond_sub, r_cond_list, r_cond_tup, r_cond_call, r_cond_bfn, r_cond_meth, r_cond_comp] at hq
      have hb := cx.ok.bf f
      refine wpAny_isTrue_value (wpAny_Call_NameR (loadBuiltin cx.ok hc'.1 X hb.1 hb.2 (bfn_callWith hc'.2 (wpAny_mono (sndEs cx es hc'.2 X hq) (fun rs s₁ hx => ?_) fun _ _ e => e))))
      obtain ⟨vs, h₁, hvs, hlen, X₁, hq₁⟩ := hx
      refine wpAny_mono (snd_bfn X₁ cx.ok cx.ns cx.rm hvs hq₁) (fun r s₃ hx => ?_) fun _ _ e => e
      obtain ⟨v, h₃, hv, X₃, hq₃⟩ := hx
      exact snd_truth X₃ hv hq₃
  | .meth _ _ _, env, P, own, σ, h, s, x, Q, E, hc, X, hq => by exact False.elim hq
  | .comp _ _ _ _, env, P, own, σ, h, s, x, Q, E, hc, X, hq => by exact False.elim hq
theorem sndCAnd (cx : Cx prog w K G A k) : ∀ (es : PEs) {env : PySem.Env} {P : Prt} {own : Str → Bool} {σ : Env} {h : H} {s : Shared} {l : List Expr} {Q : Bool → H → Prop} {E : Value → Shared → Prop},
    chkEs K.fns env.scope es l = true → St K P own env σ h s → condAnd G es σ h Q → wpAny (model prog w) A (allTrue .And l env) (BP K P own env σ Q) E s
  | .nil, env, P, own, σ, h, s, l, Q, E, hc, X, hq => by
    cases i_nil hc
    · simp only [r_condAnd_nil, r_condAnd_cons] at hq; exact wpAny_allTrue_And_nil ⟨_, X, hq⟩
  | .cons e r, env, P, own, σ, h, s, l, Q, E, hc, X, hq => by
    obtain ⟨_, _, rfl, hc'⟩ := i_cons hc
    · simp only [Bool.and_eq_true] at hc'
      simp only [r_condAnd_nil, r_condAnd_cons] at hq
      refine wpAny_allTrue_And_cons (wpAny_mono (sndC cx e hc'.1.2 X hq) (fun b s₁ hx => ?_) fun _ _ e => e)
      obtain ⟨h₁, X₁, hq₁⟩ := hx
      cases b with
      | true => exact sndCAnd cx r hc'.2 X₁ hq₁
      | false => exact ⟨_, X₁, hq₁⟩
theorem sndCOr (cx : Cx prog w K G A k) : ∀ (es : PEs) {env : PySem.Env} {P : Prt} {own : Str → Bool} {σ : Env} {h : H} {s : Shared} {l : List Expr} {Q : Bool → H → Prop} {E : Value → Shared → Prop},
    chkEs K.fns env.scope es l = true → St K P own env σ h s → condOr G es σ h Q → wpAny (model prog w) A (allTrue .Or l env) (BP K P own env σ Q) E s
  | .nil, env, P, own, σ, h, s, l, Q, E, hc, X, hq => by
    cases i_nil hc
    · simp only [r_condOr_nil, r_condOr_cons] at hq; exact wpAny_allTrue_Or_nil ⟨_, X, hq⟩
  | .cons e r, env, P, own, σ, h, s, l, Q, E, hc, X, hq => by
    obtain ⟨_, _, rfl, hc'⟩ := i_cons hc
    · simp only [Bool.and_eq_true] at hc'
      simp only [r_condOr_nil, r_condOr_cons] at hq
      refine wpAny_allTrue_Or_cons (wpAny_mono (sndC cx e hc'.1.2 X hq) (fun b s₁ hx => ?_) fun _ _ e => e)
      obtain ⟨h₁, X₁, hq₁⟩ := hx
      cases b with
      | false => exact sndCOr cx r hc'.2 X₁ hq₁
      | true => exact ⟨_, X₁, hq₁⟩
theorem sndIfs (cx : Cx prog w K G A k) : ∀ (es : PEs) {env : PySem.Env} {P : Prt} {own : Str → Bool} {σ : Env} {h : H} {s : Shared} {l : List Expr} {Q : Bool → H → Prop} {E : Value → Shared → Prop},
    chkEs K.fns env.scope es l = true → St K P own env σ h s → condAnd G es σ h Q → wpAny (model prog w) A (testsT l env) (BP K P own env σ Q) E s
  | .nil, env, P, own, σ, h, s, l, Q, E, hc, X, hq => by
    cases i_nil hc
    · simp only [r_condAnd_nil, r_condAnd_cons] at hq; exact wpAny_pure ⟨_, X, hq⟩
  | .cons e r, env, P, own, σ, h, s, l, Q, E, hc, X, hq => by
    obtain ⟨_, _, rfl, hc'⟩ := i_cons hc
    · simp only [Bool.and_eq_true] at hc'
      simp only [r_condAnd_nil, r_condAnd_cons] at hq
      refine tests_cons (wpAny_mono (sndC cx e hc'.1.2 X hq) (fun b s₁ hx => ?_) fun _ _ e => e)
      obtain ⟨h₁, X₁, hq₁⟩ := hx
      cases b with
      | true => exact sndIfs cx r hc'.2 X₁ hq₁
      | false => exact ⟨_, X₁, hq₁⟩
theorem sndSrc (cx : Cx prog w K G A k) : ∀ (src : Src) {env : PySem.Env} {P : Prt} {own : Str → Bool} {σ : Env} {h : H} {s : Shared} {x : Expr} {Q : SrcK} {E : Value → Shared → Prop},
    chkSrc K.fns env.scope src x = true → St K P own env σ h s → evSrc G src σ h Q →
    wpAny (model prog w) A (eval x env) (fun r s' => ∃ xs kp h', St K P own env σ h' s' ∧ xs.length ≤ lim ∧ SrcV prog w A r xs kp s' ∧ Q xs kp h') E s
  | .up a, env, P, own, σ, h, s, x, Q, E, hc, X, hq => by
    obtain ⟨id, p, y, pos, rfl, hc'⟩ := i_up hc
    · simp only [Bool.and_eq_true] at hc'
      simp only [r_evSrc_up, r_evSrc_fromTo, r_evSrc_seq] at hq
      have hr := cx.ok.rng
      refine wpAny_Call_NameR (loadBuiltin cx.ok hc'.1.1 X hr.1 hr.2 ?_)
      rw [starEach_cons hc'.1.2]
      refine PySem.callWith_type rfl (Calls.evalArgs_plain (Calls.spliced_cons (wpAny_mono (sndE cx a hc'.2 X hq) (fun ra s₁ hx => ?_) fun _ _ e => e)))
      obtain ⟨va, h₁, hva, X₁, hq₁⟩ := hx
      refine Calls.spliced_nil ?_
      cases hva <;> (try exact hq₁.elim)
      rename_i n t
      refine call_range_1 ⟨_, Option.none, h₁, X₁.grow (.push s₁ _ _), ?_, srcV_range (n := (n - 0).toNat) (IsRange.new ..) (small_up (a := 0) (by unfold inLim; (first | lia | omega)) hq₁.1).1 (small_up (a := 0) (by unfold inLim; (first | lia | omega)) hq₁.1).2, by rw [← upTo_rngL]; exact hq₁.2⟩
      rw [rngL_length]; have := hq₁.1; unfold inLim at this; unfold lim; (first | lia | omega)
  | .fromTo a b, env, P, own, σ, h, s, x, Q, E, hc, X, hq => by
    obtain ⟨id, p, y, z, pos, rfl, hc'⟩ := i_fromTo hc
    · simp only [Bool.and_eq_true] at hc'
      obtain ⟨⟨⟨⟨h0, h1⟩, h2⟩, h3⟩, h4⟩ := hc'
      simp only [r_evSrc_up, r_evSrc_fromTo, r_evSrc_seq] at hq
      have hr := cx.ok.rng
      refine wpAny_Call_NameR (loadBuiltin cx.ok h0 X hr.1 hr.2 ?_)
      rw [starEach_cons h1, starEach_cons h2]
      refine PySem.callWith_type rfl (Calls.evalArgs_plain (Calls.spliced_cons (wpAny_mono (sndE cx a h3 X hq) (fun ra s₁ hx => ?_) fun _ _ e => e)))
      obtain ⟨va, h₁, hva, X₁, hq₁⟩ := hx
      refine Calls.spliced_cons (wpAny_mono (sndE cx b h4 X₁ hq₁) (fun rb s₂ hx => ?_) fun _ _ e => e)
      obtain ⟨vb, h₂, hvb, X₂, hq₂⟩ := hx
      refine Calls.spliced_nil ?_
      cases hva <;> (try exact hq₂.elim)
      cases hvb <;> (try exact hq₂.elim)
      rename_i m t n u
      refine call_range_2 ⟨_, Option.none, h₂, X₂.grow (.push s₂ _ _), ?_, srcV_range (n := (n - m).toNat) (IsRange.new ..) (small_up hq₂.1 hq₂.2.1).1 (small_up hq₂.1 hq₂.2.1).2, by rw [← upTo_rngL]; exact hq₂.2.2⟩
      rw [rngL_length]; have := hq₂.1; have := hq₂.2.1; unfold inLim at *; unfold lim; (first | lia | omega)
  | .seq e, env, P, own, σ, h, s, x, Q, E, hc, X, hq => by
    simp only [chkSrc] at hc
    simp only [r_evSrc_up, r_evSrc_fromTo, r_evSrc_seq] at hq
    refine wpAny_mono (sndE cx e hc X hq) (fun ra s₁ hx => ?_) fun _ _ e => e
    obtain ⟨va, h₁, hva, X₁, hq₁⟩ := hx
    cases hva <;> (try exact hq₁.elim)
    rename_i a
    cases q : h₁ a with
    | none => simp only [q] at hq₁
    | some o =>
      cases o with
      | dict kvs => simp only [q] at hq₁
      | tup xs => simp only [q] at hq₁
      | list xs =>
        simp only [q] at hq₁
        obtain ⟨_, _, _, _, hl⟩ := X₁.rel.list q
        exact ⟨xs, _, h₁, X₁, hl, srcV_list X₁.rel q, hq₁⟩
end
end
end MP

end
section
namespace MP
open PySem PyProof.Rows

theorem zip_lookup_isSome : ∀ (ns : List Str) (rs : List Value), rs.length = ns.length → ∀ n ∈ ns, ((ns.zip rs).lookup n).isNone = false
  | [], _, _, _, h => nomatch h
  | m :: ns, [], hl, _, _ => by simp at hl
  | m :: ns, r :: rs, hl, n, hn => by
    simp only [List.zip_cons_cons, List.lookup_cons]
    cases q : n == m with
    | true => rfl
    | false =>
      refine zip_lookup_isSome ns rs (by simpa using hl) n ?_
      rcases List.mem_cons.mp hn with rfl | h
      · simp at q
      · exact h
theorem zip_filterMap : ∀ (ns : List Str) (rs : List Value), rs.length = ns.length → ns.Nodup → ∀ (L : List (Str × Value)), (∀ n ∈ ns, L.lookup n = (ns.zip rs).lookup n) → ns.filterMap (fun n => (L.lookup n).map fun x => (n, x)) = ns.zip rs
  | [], _, _, _, _, _ => rfl
  | m :: ns, [], hl, _, _, _ => by simp at hl
  | m :: ns, r :: rs, hl, hn, L, hL => by
    obtain ⟨hm, hn'⟩ := List.nodup_cons.mp hn
    have h0 := hL m List.mem_cons_self
    simp only [List.zip_cons_cons, List.lookup_cons, beq_self_eq_true] at h0
    rw [List.filterMap_cons, h0]
    simp only [Option.map_some, List.zip_cons_cons]
    rw [zip_filterMap ns rs (by simpa using hl) hn' L fun n hn2 => by
      have := hL n (List.mem_cons_of_mem _ hn2)
      rw [this, List.zip_cons_cons, List.lookup_cons]
      have q : (n == m) = false := by
        cases q : n == m with
        | false => rfl
        | true => exact absurd (beq_iff_eq.mp q ▸ hn2) hm
      rw [q]]

theorem bind_plain {fd : FuncData} {as : List Arg} (hp : fd.params = ⟨[], as, none, [], [], none, []⟩) (hd : fd.defaults = .none) {rs : List Value} (hl : rs.length = as.length) (hn : (as.map (·.arg)).Nodup) :
    bindArgs fd ⟨rs, []⟩ = pure ((as.map (·.arg)).zip rs) := by
  have h1 : rs.length = (as.map (·.arg)).length := by simpa using hl
  have h2 := zip_lookup_isSome _ _ h1
  have h3 := zip_filterMap _ _ h1 hn _ fun n _ => rfl
  have h4 : ((as.map (·.arg)).filter fun n => (((as.map (·.arg)).zip rs).lookup n).isNone) = [] := by
    rw [List.filter_eq_nil_iff]
    intro n hn; rw [h2 n hn]; simp
  unfold bindArgs
  simp only [hp, hd]
  generalize as.map (·.arg) = ns at *
  have h5 : ¬ (rs.length > ns.length) := by (first | lia | omega)
  have e1 : seqItems? Value.none = pure none := rfl
  have e2 : ns.take (ns.length - (List.drop ((#[] : Array Value).toList.length - ns.length) (#[] : Array Value).toList).length) = ns := by simp
  simp only [List.forIn_nil, pure_bind, e1, List.map_nil, List.nil_append, decide_eq_false h5, Bool.false_and, Bool.false_eq_true, if_false, Option.getD_none, e2, h4, List.isEmpty_nil, Bool.not_true]
  simp [h3]
end MP

end
section
namespace MP
open PySem PyProof.Rows

inductive FL (K : KK) : Flow → PySem.Flow → Prop
  | next : FL K .next .next
  | ret {v : V} {r : Value} : VR K v r → FL K (.ret v) (.ret r)

noncomputable abbrev SP (K : KK) (P : Prt) (own : Str → Bool) (env : PySem.Env) (Q : Flow → Env → H → Prop) : PySem.Flow → Shared → Prop :=
  fun f s' => ∃ fl σ' h', FL K fl f ∧ St K P own env σ' h' s' ∧ Q fl σ' h'

noncomputable abbrev allOwn : Str → Bool := fun _ => true

theorem swaps_no {v : Expr} {t : Option Expr} {line : Nat} {env : PySem.Env} (h : notComp v = true) : swapsWith v t line env = pure false := by
  cases v <;> first | rfl | cases h
theorem swaps_sub {v o i : Expr} {p : Pos} {line : Nat} {env : PySem.Env} : swapsWith v (some (.Subscript o i p)) line env = pure false := by
  cases v <;> rfl

theorem ofU_seq {va : V} {h : H} {K : List V → Prop} (hq : ofU va h K) : ∃ a xs, va = .ref a ∧ (h a = some (.tup xs) ∨ h a = some (.list xs)) ∧ K xs := by
  cases va <;> (try exact hq.elim)
  rename_i a
  conv at hq => whnf
  cases q : h a with
  | none => simp only [q] at hq
  | some o =>
    cases o with
    | dict xs => simp only [q] at hq
    | list xs => simp only [q] at hq; exact ⟨_, _, rfl, .inr q, hq⟩
    | tup xs => simp only [q] at hq; exact ⟨_, _, rfl, .inl q, hq⟩
theorem assign_Tuple_list {prog : Program} {w : World} {A : Around} {E : Value → Shared → Prop} {s : Shared} {env : PySem.Env} {elts : List Expr} {kk : Nat} {pos : Pos} {l : PySem.Addr} {items : Array Value} {Q : Unit → Shared → Prop} (hh : A.handled = none) (hl : s.heap.IsList l items)
    (hn : (assignEach elts env).length = items.size) (hstar : (assignEach elts env).findIdx? (·.1) = none)
    (h : ∀ h', PySem.Heap.ExtBut s.heap.objs.size s.heap h' → wpAny (model prog w) A (assignInOrder ((assignEach elts env).map (·.2)) items.toList) Q E { s with heap := h' }) :
    wpAny (model prog w) A (assign (.Tuple elts kk pos) env (.ref l)) Q E s := by
  rw [assign_Tuple]
  refine wpAny_bind (wpAny_standAt ?_)
  unfold unpack
  rw [hn, hstar]
  exact wpAny_bind (wpAny_holding (PySem.W.kun_itemsOf hh hl h))
theorem sw_notTup {elts : List Expr} {kk : Nat} {p : Pos} {v : Expr} {env : PySem.Env} (h : notTup v = true) : swappedStores [.Tuple elts kk p] v env = pure none := by
  cases v <;> first | rfl | exact Bool.noConfusion h
theorem sw_twoSub {elts : List Expr} {kk : Nat} {p : Pos} {v : Expr} {env : PySem.Env} (h : twoSub elts = true) : swappedStores [.Tuple elts kk p] v env = pure none := by
  obtain ⟨a, b, rfl, h⟩ := two_of h
  obtain ⟨h1, h2⟩ := and_tt h
  obtain ⟨a1, a2, a3, rfl⟩ := e_Subscript h1
  obtain ⟨b1, b2, b3, rfl⟩ := e_Subscript h2
  by_cases q : notTup v = true
  · exact sw_notTup q
  · have q : (v.ctorIdx == 25) = true := by simpa [notTup] using q
    obtain ⟨l, k, p', rfl⟩ := e_Tuple q
    unfold swappedStores
    simp
theorem swaps_tup {v : Expr} {elts : List Expr} {kk : Nat} {p : Pos} {line : Nat} {env : PySem.Env} (h : notComp v = true) : swapsWithSole [.Tuple elts kk p] v line env = pure false := by
  cases v <;> first | rfl | exact Bool.noConfusion h
section
variable {prog : Program} {w : World} {A : Around} {k : Nat}
variable {K : KK} {G : Par}

theorem chkLvs_len {fs : List String} {sc : Scope} {env : PySem.Env} : ∀ {ls : List Lv} {l : List Expr}, chkLvs fs sc ls l = true → (assignEach l env).length = ls.length ∧ (assignEach l env).findIdx? (·.1) = none ∧ l.length = ls.length
  | [], l, h => by cases empty_nil h; exact ⟨rfl, rfl, rfl⟩
  | v :: vs, l, h => by
    cases l with
    | nil => exact Bool.noConfusion h
    | cons x xs =>
      obtain ⟨h1, h2⟩ := and_tt h
      obtain ⟨g1, g2, g3⟩ := chkLvs_len (env := env) h2
      have e : assignEach (x :: xs) env = (false, assign x env) :: assignEach xs env := by
        cases v with
        | tg t =>
          cases t with
          | name y =>
            obtain ⟨h3, _⟩ := and_tt h1
            obtain ⟨id, p, rfl⟩ := e_Name h3
            rfl
        | sub a i =>
          obtain ⟨h3, _⟩ := and_tt h1
          obtain ⟨l, r, p, rfl⟩ := e_Subscript h3
          rfl
      rw [e]
      exact ⟨by simp [g1], by simp [List.findIdx?_cons, g2], by simp [g3]⟩
theorem sndStores (cx : Cx prog w K G A k) {env : PySem.Env} {P : Prt} {E : Value → Shared → Prop} : ∀ {ls : List Lv} {l : List Expr} {vs : List V} {rs : List Value} {σ : Env} {h : H} {s : Shared} {Q : Env → H → Prop}, chkLvs K.fns env.scope ls l = true → VRs K vs rs → St K P allOwn env σ h s → storeAll G ls vs σ h Q →
    wpAny (model prog w) A (assignInOrder ((assignEach l env).map (·.2)) rs) (fun _ s' => ∃ σ' h', St K P allOwn env σ' h' s' ∧ Q σ' h') E s
  | [], l, vs, rs, σ, h, s, Q, hc, hv, X, hq => by
    cases empty_nil hc
    cases hv with
    | nil => exact wpAny_pure ⟨σ, h, X, hq⟩
    | cons _ _ => exact False.elim hq
  | v :: ls, l, vs, rs, σ, h, s, Q, hc, hv, X, hq => by
    cases l with
    | nil => exact Bool.noConfusion hc
    | cons x xs =>
      cases hv with
      | nil => exact False.elim hq
      | cons ha hr =>
        obtain ⟨h1, h2⟩ := and_tt hc
        cases v with
        | tg t =>
          cases t with
          | name y =>
            obtain ⟨h3, h4⟩ := and_tt h1
            obtain ⟨id, p, rfl⟩ := e_Name h3
            refine wpAny_bind (wpAny_holding (sndTg cx.rm.hd h4 X ha (Q := fun σ' => storeAll G ls _ σ' h Q) hq fun σ' s' X' hq' _ _ => ?_))
            exact sndStores cx h2 hr X' hq'
        | sub a i =>
          obtain ⟨h3, h4⟩ := and_tt h1
          obtain ⟨o, i', p, rfl⟩ := e_Subscript h3
          simp only [Bool.and_eq_true] at h4
          have hq : ev G a σ h fun va h₁ => ev G i σ h₁ fun vi h₂ => setSub va vi _ h₂ fun h₃ => storeAll G ls _ σ h₃ Q := hq
          refine wpAny_bind (wpAny_holding ?_)
          show wpAny _ A (assign (.Subscript o i' p) env _) _ E s
          rw [assign_Subscript]
          refine wpAny_bind (wpAny_holding (wpAny_mono (sndE cx a h4.1.2 X hq) (fun ro s₁ hx => ?_) fun _ _ e => e))
          obtain ⟨va, h₁, hva, X₁, hq₁⟩ := hx
          refine wpAny_bind (wpAny_holding (wpAny_mono (sndE cx i h4.2 X₁ hq₁) (fun ri s₂ hx => ?_) fun _ _ e => e))
          obtain ⟨vi, h₂, hvi, X₂, hq₂⟩ := hx
          refine wpAny_bind (wpAny_standAt (wpAny_bind (wpAny_holding (wpAny_mono (snd_setSub X₂ (by have := cx.rm.un; (first | lia | omega)) hva hvi ha hq₂) (fun _ s₃ hx => ?_) fun _ _ e => e))))
          obtain ⟨h₃, X₃, hq₃⟩ := hx
          exact wpAny_release' (sndStores cx h2 hr X₃ hq₃)

mutual
theorem sndS (cx : Cx prog w K G A k) : ∀ (st : PS) {env : PySem.Env} {P : Prt} {σ : Env} {h : H} {s : Shared} {x : Stmt} {Q : Flow → Env → H → Prop} {E : Value → Shared → Prop},
    chkS K.fns env.scope st x = true → St K P allOwn env σ h s → exec G st σ h Q → wpAny (model prog w) A (PySem.exec x env) (SP K P allOwn env Q) E s
  | .assign (.tg (.name y)) e, env, P, σ, h, s, x, Q, E, hc, X, hq => by
    obtain ⟨id, p, v, pos, rfl, hc'⟩ := i_assign hc
    · simp only [Bool.and_eq_true] at hc'
      obtain ⟨⟨h1, h2⟩, h3⟩ := hc'
      simp only [r_exec_assign_tg, r_exec_assign_sub, r_exec_expr, r_exec_ite, r_exec_whl, r_exec_fr, r_exec_ret] at hq
      have h1' := h1
      obtain ⟨_, _, qn, h1⟩ := i_nm (show chkNm env.scope (fun _ => true) y (.Name id p) = true from h1)
      cases qn
      simp only [Bool.and_eq_true, beq_iff_eq, bne_iff_ne] at h1
      obtain ⟨⟨rfl, hx⟩, hk⟩ := h1
      have hk' : env.kindOf (Str.ofString y) = some .local ∨ (env.kindOf (Str.ofString y) = some .cell ∧ allOwn (Str.ofString y) = true) := by
        show env.scope.names.lookup _ = _ ∨ _
        split at hk
        · rename_i e; exact .inl e
        · rename_i e; exact .inr ⟨e, rfl⟩
        · cases hk
      have plain : swapsWith v (some (.Name (Str.ofString y) p)) pos.line env = pure false → wpAny (model prog w) A (PySem.exec (.Assign [.Name (Str.ofString y) p] v pos) env) (SP K P allOwn env Q) E s := fun hs => by
        refine wpAny_Assign_Name (wpAny_mono (sndE cx e h3 X hq) (fun r s₁ hx' => ?_) fun _ _ e => e) hs
        obtain ⟨va, h₁, hva, X₁, hq₁⟩ := hx'
        exact X₁.store hx hva hk' fun s' X' _ _ => ⟨_, _, _, .next, X', hq₁⟩
      by_cases hn : notComp v = true
      · exact plain (swaps_no hn)
      · have hce : isComp e = true := by
          rcases Bool.or_eq_true_iff.mp h2 with q | q
          · exact q
          · exact absurd q hn
        cases e <;> (try cases hce)
        rename_i elt t src ifs
        have h3' := h3
        obtain ⟨el, tg, it, ts, csc, cpos, rfl, h9⟩ := i_comp h3
        · simp only [Bool.and_eq_true] at h9
          obtain ⟨⟨⟨⟨⟨g1, g2⟩, g3⟩, g4⟩, g5⟩, g6⟩ := h9
          have hsw : swapsWith (.ListComp el [⟨tg, it, ts, 0⟩] csc cpos) (some (.Name (Str.ofString y) p)) pos.line env = pure (env.blockKind == .function && env.kindOf (Str.ofString y) == some .local && p.line == (Expr.ListComp el [⟨tg, it, ts, 0⟩] csc cpos).pos.line
      && !(csc.names.any fun (n, k) => n == Str.ofString y && (k == .local || k == .cell))) := rfl
          cases hb : (env.blockKind == .function && env.kindOf (Str.ofString y) == some .local && p.line == (Expr.ListComp el [⟨tg, it, ts, 0⟩] csc cpos).pos.line
      && !(csc.names.any fun (n, k) => n == Str.ofString y && (k == .local || k == .cell))) with
          | false => rw [hb] at hsw; exact plain hsw
          | true =>
            rw [hb] at hsw
            rw [exec_Assign_Name_used _ _ _ _ hsw, arm_evalThenUse_ListComp]
            refine wpAny_bind (wpAny_standAt (wpAny_bind (wpAny_bind ?_)))
            simp only [r_ev_none, r_ev_bool, r_ev_int, r_ev_ty, r_ev_var, r_ev_glob, r_ev_bin, r_ev_neg, r_ev_not, r_ev_cmp, r_ev_band, r_ev_bor, r_ev_sub, r_ev_list, r_ev_tup, r_ev_call, r_ev_bfn, r_ev_meth, r_ev_comp] at hq
            refine wpAny_comprehension_free rfl (folded_id g3) (closureFor_eq (comp_frees X g1)) (scOk.kind g1) (fun p hp hl => by rw [scOk.same g1 p hp, hl]) ?_
            refine wpAny_mono (sndSrc cx src g4 X hq) (fun r s₁ hx => ?_) fun _ _ e => e
            obtain ⟨xs, kp, h₁, X₁, hxl, hv, hq₁⟩ := hx
            have := comp_store (E := E) (pos := cpos) (iter := it) cx.rm.hd g1 g2 h1' (fun L P' σ' h' s' Q' E' Y hy => sndIfs cx ifs g5 Y hy) (fun L P' σ' h' s' Q' E' Y hy => sndE cx elt g6 Y hy) X₁ hv hxl hq₁
            refine wpAny_mono this (fun it' s₂ hx => wpAny_mono hx (fun acc s₃ hx => wpAny_mono hx (fun cenv s₄ hx => codeAny_mono hx fun r s' hx => ?_) fun _ _ e => e) fun _ _ e => e) fun _ _ e => e
            cases r with
            | error x => exact hx
            | ok f =>
              refine wpAny_mono hx (fun _ s'' hx => ?_) fun _ _ e => e
              obtain ⟨m, hm, hx⟩ := hx
              refine ⟨m, hm, fun hp hs => ?_⟩
              obtain ⟨σ', h', X', hq'⟩ := hx hp hs
              exact wpAny_pure (wpAny_pure ⟨_, _, _, .next, X', hq'⟩)
  | .assign (.sub a i) e, env, P, σ, h, s, x, Q, E, hc, X, hq => by
    obtain ⟨_, _, _, _, _, rfl, hc'⟩ := i_set hc
    · simp only [Bool.and_eq_true] at hc'
      simp only [r_exec_assign_tg, r_exec_assign_sub, r_exec_expr, r_exec_ite, r_exec_whl, r_exec_fr, r_exec_ret] at hq
      refine wpAny_Assign_Subscript (wpAny_mono (sndE cx e hc'.2 X hq) (fun r s₁ hx => ?_) fun _ _ e => e) swaps_sub
      obtain ⟨v, h₁, hv, X₁, hq₁⟩ := hx
      refine wpAny_mono (sndE cx a hc'.1.1 X₁ hq₁) (fun r s₁ hx => ?_) fun _ _ e => e
      obtain ⟨va, h₂, hva, X₂, hq₂⟩ := hx
      refine wpAny_mono (sndE cx i hc'.1.2 X₂ hq₂) (fun r s₁ hx => ?_) fun _ _ e => e
      obtain ⟨vi, h₃, hvi, X₃, hq₃⟩ := hx
      refine wpAny_mono (snd_setSub X₃ (by have := cx.rm.un; (first | lia | omega)) hva hvi hv hq₃) (fun _ s₄ hx => ?_) fun _ _ e => e
      obtain ⟨h₄, X₄, hq₄⟩ := hx
      exact ⟨_, _, _, .next, X₄, hq₄⟩
  | .unp ls e, env, P, σ, h, s, x, Q, E, hc, X, hq => by
    obtain ⟨elts, kk, p, v, q, rfl, hc'⟩ := i_unp hc
    simp only [Bool.and_eq_true] at hc'
    obtain ⟨⟨⟨h1, h2⟩, h3⟩, h4⟩ := hc'
    simp only [r_exec_unp] at hq
    obtain ⟨c1, c2, c3⟩ := chkLvs_len (env := env) h3
    refine Assign_Tuple (wpAny_mono (sndE cx e h4 X hq) (fun r s₁ hx => ?_) fun _ _ e => e) (swaps_tup h2) (by
      rcases Bool.or_eq_true_iff.mp h1 with g | g
      · exact sw_notTup g
      · exact sw_twoSub g)
    obtain ⟨va, h₁, hva, X₁, hq₁⟩ := hx
    obtain ⟨b, xs, rfl, hb, hl, hq₂⟩ := ofU_seq hq₁
    cases hva
    rcases hb with hb | hb
    · obtain ⟨items, n, g1, g2, g3⟩ := X₁.rel.tup hb
      refine assign_Tuple_tuple cx.rm.hd ⟨_, g1, rfl, _, rfl⟩ (by rw [c1, ← hl, g2.length]; simp) c2 fun h' he => ?_
      have X₂ := X₁.grow (s' := { s₁ with heap := h' }) (.of' fun b o e => he b o (Nat.ne_of_lt (Heap.lt_size e)) e)
      refine wpAny_mono (sndStores cx h3 g2 X₂ hq₂) (fun _ s₃ hx => ?_) fun _ _ e => e
      obtain ⟨σ', h₃, X₃, hq₃⟩ := hx
      exact ⟨_, _, _, .next, X₃, hq₃⟩
    · obtain ⟨items, n, g1, g2, g3⟩ := X₁.rel.list hb
      refine assign_Tuple_list cx.rm.hd ⟨_, g1, rfl, _, rfl⟩ (by rw [c1, ← hl, g2.length]; simp) c2 fun h' he => ?_
      have X₂ := X₁.grow (s' := { s₁ with heap := h' }) (.of' fun b o e => he b o (Nat.ne_of_lt (Heap.lt_size e)) e)
      refine wpAny_mono (sndStores cx h3 g2 X₂ hq₂) (fun _ s₃ hx => ?_) fun _ _ e => e
      obtain ⟨σ', h₃, X₃, hq₃⟩ := hx
      exact ⟨_, _, _, .next, X₃, hq₃⟩
  | .expr e, env, P, σ, h, s, x, Q, E, hc, X, hq => by
    obtain ⟨_, _, _, _, _, rfl, hc'⟩ := i_expr hc
    · simp only [r_exec_assign_tg, r_exec_assign_sub, r_exec_expr, r_exec_ite, r_exec_whl, r_exec_fr, r_exec_ret] at hq
      refine wpAny_Expr (wpAny_mono (sndE cx e hc' X hq) (fun r s₁ hx => ?_) fun _ _ e => e) (by unfold interactive; rw [X.fr.kind]; rfl) rfl
      obtain ⟨v, h₁, hv, X₁, hq₁⟩ := hx
      cases hv <;> (try exact hq₁.elim)
      exact ⟨_, _, _, .next, X₁, hq₁⟩
  | .ite c a b, env, P, σ, h, s, x, Q, E, hc, X, hq => by
    obtain ⟨_, _, _, _, rfl, hc'⟩ := i_if hc
    · simp only [Bool.and_eq_true] at hc'
      simp only [r_exec_assign_tg, r_exec_assign_sub, r_exec_expr, r_exec_ite, r_exec_whl, r_exec_fr, r_exec_ret] at hq
      refine wpAny_If (wpAny_mono (sndC cx c hc'.1.1 X hq) (fun r s₁ hx => ?_) fun _ _ e => e)
      obtain ⟨h₁, X₁, hq₁⟩ := hx
      cases r with
      | true => exact sndSs cx a hc'.1.2 X₁ hq₁
      | false => exact sndSs cx b hc'.2 X₁ hq₁
  | .whl c b, env, P, σ, h, s, x, Q, E, hc, X, hq => by
    obtain ⟨_, _, _, rfl, hc'⟩ := i_whl hc
    · simp only [Bool.and_eq_true] at hc'
      simp only [r_exec_assign_tg, r_exec_assign_sub, r_exec_expr, r_exec_ite, r_exec_whl, r_exec_fr, r_exec_ret] at hq
      obtain ⟨n, hq⟩ := hq
      refine wpAny_While (codeAny_whileLoop (fun j s => ∃ σ h, St K P allOwn env σ h s ∧ whileW (fun σ h K => cond G c σ h K) (fun σ h K => execs G b σ h K) j σ h Q) (fun j s hI => ?_) n ⟨σ, h, X, hq⟩)
      obtain ⟨σ, h, X, hq⟩ := hI
      cases j with
      | zero => exact hq.elim
      | succ j =>
        simp only [whileW] at hq
        refine wpAny_mono (sndC cx c hc'.1 X hq) (fun r s₁ hx => ?_) fun _ _ e => e
        obtain ⟨h₁, X₁, hq₁⟩ := hx
        cases r with
        | false => exact wpAny_execs_nil ⟨_, _, _, .next, X₁, hq₁⟩
        | true =>
          refine wpAny_mono (sndSs cx b hc'.2 X₁ hq₁) (fun f s₂ hx => ?_) fun _ _ e => e
          obtain ⟨fl, σ₂, h₂, hf, X₂, hq₂⟩ := hx
          cases hf with
          | next => exact ⟨j, Nat.lt_succ_self _, σ₂, h₂, X₂, hq₂⟩
          | ret hv => exact ⟨_, _, _, .ret hv, X₂, hq₂⟩
  | .fr t src b, env, P, σ, h, s, x, Q, E, hc, X, hq => by
    obtain ⟨tg, it, l, pos, rfl, hc'⟩ := i_fr hc
    · simp only [Bool.and_eq_true] at hc'
      obtain ⟨⟨⟨h1, h2⟩, h3⟩, h4⟩ := hc'
      simp only [r_exec_assign_tg, r_exec_assign_sub, r_exec_expr, r_exec_ite, r_exec_whl, r_exec_fr, r_exec_ret] at hq
      refine wpAny_For (wpAny_mono (sndSrc cx src h3 X hq) (fun r s₁ hx => ?_) fun _ _ e => e) (folded_id h2)
      obtain ⟨xs, kp, h₁, X₁, hxl, hv, hq₁⟩ := hx
      refine hv E _ fun I s₂ g hI0 hI => ?_
      have X₂ := X₁.grow g
      have hPI : P I = none := X₁.rel.p_none_of hI0
      clear X hq hv X₁ hxl hI0 g
      refine codeAny_forLoop_any (fun j s => ∃ rest σ h, j = rest.length ∧ St K P allOwn env σ h s ∧ ItAt I kp rest s ∧ forW (fun v σ h K => tgW t v σ h fun σ' => execs G b σ' h K) kp rest σ h Q) (fun j s hJ => ?_) xs.length ⟨xs, σ, h₁, rfl, X₂, hI, hq₁⟩
      clear hI X₂ hq₁
      obtain ⟨rest, σ, h, rfl, X, hI, hq⟩ := hJ
      obtain ⟨obI, hI1, hI2⟩ := hI.ob
      cases rest with
      | nil =>
        simp only [forW] at hq
        refine iter_end cx.rm.hd X.rel hq.1 hI fun s' k1 k2 k3 => ?_
        exact wpAny_execs_nil ⟨_, _, _, .next, X.junkF hI1 hI2 hPI k1 k2 k3, hq.2⟩
      | cons v rest =>
        simp only [forW] at hq
        refine iter_item X.rel hq.1 hI fun rv s₁ hv hI₁ k1 k2 k3 => ?_
        have X₁ := X.junkF hI1 hI2 hPI (fun b o hb e => (k1 b hb).trans e) k2 k3
        refine sndGo h1 hv hq.2 hI₁ (fun q => by subst q; exact hI.int) ?_
        refine sndTg cx.rm.hd h1 X₁ hv hq.2 fun σ' s₂ X₂ hq₂ k4 _ => ?_
        obtain ⟨obI', hI1', fs', hI2'⟩ := hI₁.ob
        have hIo : s₂.heap.get? I = some obI' := k4 _ _ hI1' (fun _ _ q => by rw [hI2'] at q; cases q) (fun _ q => by rw [hI2'] at q; cases q)
        have hI₂ := hI₁.at fun o e => by rw [hI1'] at e; cases e; exact hIo
        have X₃ := X₂.guard' hIo (X₂.rel.nm_shape hIo (by rw [hI2']; intros; simp) (by rw [hI2']; intros; simp)) (by rw [hI2']; intros; simp) (by rw [hI2']; intros; simp)
        refine wpAny_mono (sndSs cx b h4 X₃ hq₂) (fun f s₃ hx => ?_) fun _ _ e => e
        obtain ⟨fl, σ₃, h₃, hf, X₄, hq₃⟩ := hx
        obtain ⟨Z, hI₃, _⟩ := X₄.unguard X₂.rel.sub hPI (by rw [hI2']; intros; simp)
        cases hf with
        | next => exact ⟨rest.length, Nat.lt_succ_self _, rest, σ₃, h₃, rfl, Z, hI₂.at fun o e => by rw [hIo] at e; cases e; exact hI₃, hq₃⟩
        | ret hv => exact ⟨_, _, _, .ret hv, Z, hq₃⟩
  | .stop, env, P, σ, h, s, x, Q, E, hc, X, hq => by exact False.elim hq
  | .ret e, env, P, σ, h, s, x, Q, E, hc, X, hq => by
    obtain ⟨_, _, rfl, hc'⟩ := i_ret hc
    · simp only [r_exec_assign_tg, r_exec_assign_sub, r_exec_expr, r_exec_ite, r_exec_whl, r_exec_fr, r_exec_ret] at hq
      refine wpAny_Return_some (wpAny_mono (sndE cx e hc' X hq) (fun r s₁ hx => ?_) fun _ _ e => e)
      obtain ⟨v, h₁, hv, X₁, hq₁⟩ := hx
      exact ⟨_, _, _, .ret hv, X₁, hq₁⟩
theorem sndSs (cx : Cx prog w K G A k) : ∀ (st : PSs) {env : PySem.Env} {P : Prt} {σ : Env} {h : H} {s : Shared} {x : List Stmt} {Q : Flow → Env → H → Prop} {E : Value → Shared → Prop},
    chkSs K.fns env.scope st x = true → St K P allOwn env σ h s → execs G st σ h Q → wpAny (model prog w) A (PySem.execs x env) (SP K P allOwn env Q) E s
  | .nil, env, P, σ, h, s, x, Q, E, hc, X, hq => by
    cases i_snil hc
    · simp only [r_execs_nil, r_execs_cons] at hq
      exact wpAny_execs_nil ⟨_, _, _, .next, X, hq⟩
  | .cons st r, env, P, σ, h, s, x, Q, E, hc, X, hq => by
    obtain ⟨_, _, rfl, hc'⟩ := i_scons hc
    · simp only [Bool.and_eq_true] at hc'
      simp only [r_execs_nil, r_execs_cons] at hq
      refine wpAny_execs_cons (wpAny_mono (sndS cx st hc'.1 X hq) (fun f s₁ hx => ?_) fun _ _ e => e)
      obtain ⟨fl, σ₁, h₁, hf, X₁, hq₁⟩ := hx
      cases hf with
      | next => exact sndSs cx r hc'.2 X₁ hq₁
      | ret hv => exact ⟨_, _, _, .ret hv, X₁, hq₁⟩
end
end
end MP

end
section
namespace MP
open PySem PyProof.Rows

theorem bindL_other (kindOf : Str → Option NameKind) (n : Str) : ∀ (binds : List (Str × Value)) (m : Str → Option Value), (∀ p ∈ binds, p.1 ≠ n) → bindL kindOf binds m n = m n
  | [], _, _ => rfl
  | (y, v) :: r, m, h => by
    unfold bindL
    rw [bindL_other kindOf n r _ fun p hp => h p (List.mem_cons_of_mem _ hp)]
    have := h (y, v) List.mem_cons_self
    split
    · exact if_neg (Ne.symm this)
    · rfl
theorem bindC_other (kindOf : Str → Option NameKind) (n : Str) : ∀ (binds : List (Str × Value)) (m : Str → Option Value), (∀ p ∈ binds, p.1 ≠ n) → bindC kindOf binds m n = m n
  | [], _, _ => rfl
  | (y, v) :: r, m, h => by
    unfold bindC
    rw [bindC_other kindOf n r _ fun p hp => h p (List.mem_cons_of_mem _ hp)]
    have := h (y, v) List.mem_cons_self
    split
    · rfl
    · exact if_neg (Ne.symm this)

theorem zip_fst_mem : ∀ {xs : List String} {rs : List Value} {p : Str × Value}, p ∈ (xs.map Str.ofString).zip rs → ∃ x ∈ xs, p.1 = Str.ofString x
  | x :: xs, r :: rs, p, h => by
    simp only [List.map_cons, List.zip_cons_cons] at h
    rcases List.mem_cons.mp h with rfl | h
    · exact ⟨x, List.mem_cons_self, rfl⟩
    · obtain ⟨y, hy, e⟩ := zip_fst_mem h
      exact ⟨y, List.mem_cons_of_mem _ hy, e⟩
  | [], _, _, h => by simp at h
  | _ :: _, [], _, h => by simp at h

theorem bindL_spec {K : KK} (kindOf : Str → Option NameKind) : ∀ (xs : List String) (vs : List V) (rs : List Value) (m : Str → Option Value), VRs K vs rs → xs.length = vs.length → xs.Nodup → ∀ x v, bindP xs vs x = some v → kindOf (Str.ofString x) = some .local →
    ∃ rv, bindL kindOf ((xs.map Str.ofString).zip rs) m (Str.ofString x) = some rv ∧ VR K v rv
  | [], _, _, _, _, _, _, x, v, e, _ => by simp [bindP] at e
  | y :: xs, [], _, _, _, hl, _, _, _, _, _ => by simp at hl
  | y :: xs, v0 :: vs, _, m, hv, hl, hn, x, v, e, hk => by
    cases hv with
    | cons a b =>
      rename_i r rs
      obtain ⟨hy, hn'⟩ := List.nodup_cons.mp hn
      simp only [List.map_cons, List.zip_cons_cons]
      unfold bindL
      simp only [bindP, upd] at e
      split at e
      · rename_i q; subst q; cases e
        rw [if_pos hk, bindL_other _ _ _ _ fun p hp q => by
          obtain ⟨z, hz, e⟩ := zip_fst_mem hp
          rw [e] at q
          exact hy (ofString_inj q ▸ hz)]
        exact ⟨r, by simp, a⟩
      · exact bindL_spec kindOf xs vs rs _ b (by simpa using hl) hn' x v e hk
theorem bindC_spec {K : KK} (kindOf : Str → Option NameKind) : ∀ (xs : List String) (vs : List V) (rs : List Value) (m : Str → Option Value), VRs K vs rs → xs.length = vs.length → xs.Nodup → ∀ x v, bindP xs vs x = some v → kindOf (Str.ofString x) ≠ some .local →
    ∃ rv, bindC kindOf ((xs.map Str.ofString).zip rs) m (Str.ofString x) = some rv ∧ VR K v rv
  | [], _, _, _, _, _, _, x, v, e, _ => by simp [bindP] at e
  | y :: xs, [], _, _, _, hl, _, _, _, _, _ => by simp at hl
  | y :: xs, v0 :: vs, _, m, hv, hl, hn, x, v, e, hk => by
    cases hv with
    | cons a b =>
      rename_i r rs
      obtain ⟨hy, hn'⟩ := List.nodup_cons.mp hn
      simp only [List.map_cons, List.zip_cons_cons]
      unfold bindC
      simp only [bindP, upd] at e
      split at e
      · rename_i q; subst q; cases e
        rw [if_neg hk, bindC_other _ _ _ _ fun p hp q => by
          obtain ⟨z, hz, e⟩ := zip_fst_mem hp
          rw [e] at q
          exact hy (ofString_inj q ▸ hz)]
        exact ⟨r, by simp, a⟩
      · exact bindC_spec kindOf xs vs rs _ b (by simpa using hl) hn' x v e hk

/-- a look at a def of the text, but for its body -/
noncomputable def chkHead (fd : FuncData) (ps : List String) : Bool :=
  fd.closure.isEmpty && fd.globals == mainGlobals && fd.builtins == builtinsNs && fd.defaults == .none && !fd.scope.isCoroutine && !fd.scope.isGenerator && fd.scope.kind == .function &&
  (match fd.params with
    | ⟨[], as, none, [], [], none, []⟩ => as.map (·.arg) == ps.map Str.ofString
    | _ => false) &&
  decide ps.Nodup &&
  ps.all (fun x => match fd.scope.names.lookup (Str.ofString x) with | some .local => true | some .cell => true | _ => false) &&
  fd.scope.names.all (fun p => p.2 != .free)
/-- a look at a def of the text -/
noncomputable def chkFn (fns : List String) (fd : FuncData) (d : Fn) : Bool :=
  (match fd.body with
    | .stmts b => chkSs fns fd.scope d.body b
    | _ => false) && chkHead fd d.params

structure FnAt (K : KK) (f : String) (d : Fn) : Prop where
  at' : ∃ a o fd, K.mg (Str.ofString f) = some (.ref a) ∧ K.base.get? a = some o ∧ o.data = .func fd ∧ K.base.CodeRec fd.code fd.qualname ∧ chkFn K.fns fd d = true

theorem nodup_map {xs : List String} (h : xs.Nodup) : (xs.map Str.ofString).Nodup := by
  induction xs with
  | nil => exact List.nodup_nil
  | cons x xs ih =>
    obtain ⟨h1, h2⟩ := List.nodup_cons.mp h
    simp only [List.map_cons]
    refine List.nodup_cons.mpr ⟨fun hm => ?_, ih h2⟩
    obtain ⟨y, hy, e⟩ := List.mem_map.mp hm
    exact h1 (ofString_inj e ▸ hy)

theorem KOk.at {K : KK} (hK : KOk K) (l : List PySem.Env) : KOk (K.at l) :=
  ⟨hK.noLim, hK.nsG, hK.nsB, hK.bf, hK.rng, hK.ty, let ⟨items, h1, h2⟩ := hK.scr; ⟨items, h1, VRs.at (K := K) (l := K.fl) h2 l⟩, hK.scrL, hK.fn, fun x v e => let ⟨rv, h1, h2⟩ := hK.gc x v e; ⟨rv, h1, VR.at (K := K) (l := K.fl) h2 l⟩⟩

section
variable {prog : Program} {w : World} {k : Nat} {K : KK}

theorem fn_enter {a : PySem.Addr} {o : Obj} {fd : FuncData} {ps : List String} {body : List Stmt} (hK : KOk K) (h2 : K.base.get? a = some o) (h3 : o.data = .func fd) (h4 : K.base.CodeRec fd.code fd.qualname) (h5 : chkHead fd ps = true) (hb : fd.body = .stmts body)
    {vs : List V} {h : H} (hlen : ps.length = vs.length) {l : List PySem.Env} {A : Around} {P : Prt} {s : Shared} {rs : List Value} {Q : Value → Shared → Prop} {E : Value → Shared → Prop} (hdp : A.depth < recursionLimit) (R : Rel (K.at l) P h s) (hvs : VRs (K.at l) vs rs)
    (hB : ∀ env s', env.scope = fd.scope → env.frame = some env.locals → St (K.at (env :: l)) P allOwn env (bindP ps vs) h s' →
      wpAny (model prog w) (A.deeper env) (PySem.execs body env) (fun fl s₂ => Q (match fl with | .ret v => v | _ => .none) s₂) (fun e s₂ => wpAny (model prog w) (A.deeper env) (leaving env e) (fun _ s₃ => E e s₃) (fun e' s₃ => E e' s₃) s₂) s') :
    wpAny (model prog w) A (call (.ref a) rs) Q E s := by
  simp only [chkHead, Bool.and_eq_true] at h5
  obtain ⟨⟨⟨⟨⟨⟨⟨⟨⟨⟨c2, c3⟩, c4⟩, c5⟩, c6⟩, c7⟩, c8⟩, c9⟩, c10⟩, c11⟩, c12⟩ := h5
  simp only [List.isEmpty_iff, beq_iff_eq, Bool.not_eq_true', decide_eq_true_eq, List.all_eq_true, bne_iff_ne] at c2 c3 c4 c5 c6 c7 c8 c10 c11 c12
  obtain ⟨as, hp, ha⟩ : ∃ as, fd.params = ⟨[], as, none, [], [], none, []⟩ ∧ as.map (·.arg) = ps.map Str.ofString := by
    split at c9
    · rename_i as q; exact ⟨as, q, beq_iff_eq.mp c9⟩
    · cases c9
  have hlen' : rs.length = as.length := by
    have := congrArg List.length ha
    simp only [List.length_map] at this
    rw [this, hlen, hvs.length]
  refine wpAny_call (codeAny_call_function hdp (R.base _ _ h2) h3 c6 c7 hb (h4.keeps R.base) ?_)
  rw [bind_plain hp c5 hlen' (by rw [ha]; exact nodup_map c10), ha]
  refine wpAny_pure ?_
  rw [c2, c3, c4]
  have hkinds : ∀ x ∈ ps, fd.scope.names.lookup (Str.ofString x) = some .local ∨ fd.scope.names.lookup (Str.ofString x) = some .cell := fun x hx => by
    have := c11 x hx
    split at this
    · exact .inl (by assumption)
    · exact .inr (by assumption)
    · cases this
  refine wpAny_newFunctionEnv_cells c8 (fun p hp => ?_) fun env he s' hin => ?_
  · obtain ⟨x, hx, e⟩ := zip_fst_mem hp
    rw [e]
    rcases hkinds x hx with q | q
    · exact .inl q
    · obtain ⟨c, g1, _⟩ := cellsFrom_new (Str.ofString x) 0 fd.scope.names (s.heap.objs.size + 1) [] (Nat.zero_le _) (.inl (lookup_mem q))
      exact .inr ⟨q, by rw [g1]; rfl⟩
  subst he
  obtain ⟨hp', tk, rfl, hkeep⟩ := hin.done
  have g : Grown s { s with heap := hp', toks := tk } := .of hkeep
  have R' := R.grow g
  refine ⟨hK.noLim.keeps R'.base, codeAny_func ?_⟩
  have szn : ∀ b, s.heap.objs.size ≤ b → s.heap.get? b = none := fun b hb => by
    cases q : s.heap.get? b with
    | none => rfl
    | some o => exact absurd (Heap.lt_size q) (Nat.not_lt.mpr hb)
  generalize henv : newEnv fd.scope s.heap.objs.size mainGlobals (cellsFrom (s.heap.objs.size + 1) fd.scope.names []) (fd.qualname ++ ".<locals>.") (some a) fd.code none builtinsNs = env at *
  have e1 : env.scope = fd.scope := by subst henv; rfl
  have e2 : env.locals = s.heap.objs.size := by subst henv; rfl
  have e3 : env.cells = cellsFrom (s.heap.objs.size + 1) fd.scope.names [] := by subst henv; rfl
  have e4 : env.globals = mainGlobals := by subst henv; rfl
  have e5 : env.builtins = builtinsNs := by subst henv; rfl
  have e6 : env.frame = some s.heap.objs.size := by subst henv; rfl
  have hfr : FrAt K.base hp' env := ⟨by rw [e1]; exact c8, s.heap.objs.size, _, e6, (by
    cases q : K.base.get? s.heap.objs.size with
    | none => rfl
    | some o => have := R.base _ _ q; rw [szn _ (Nat.le_refl _)] at this; cases this), by rw [← e2]; exact hin.toInCall.ns⟩
  replace R' := R'.at (env :: l) (fun e he => by
    rcases List.mem_cons.mp he with rfl | he
    · exact hfr
    · exact R'.frs e he) (fun e he L hL => by
    rcases List.mem_cons.mp he with rfl | he
    · rw [e6] at hL; cases hL
      exact fun o eo => by rw [R.none_of (szn _ (Nat.le_refl _))] at eo; cases eo
    · exact R'.frm e he L hL)
  replace hvs := hvs.at (env :: l)
  have hinj := cellsFrom_inj fd.scope.names (s.heap.objs.size + 1) [] fun p hp => nomatch hp
  have X : St (K.at (env :: l)) P allOwn env (bindP ps vs) h { s with heap := hp', toks := tk } := by
    refine ⟨R', ⟨by rw [e1]; exact c8, e4, e5, ⟨_, hin.toInCall.ns, fun x v _ e hk => bindL_spec _ _ _ _ _ hvs hlen c10 x v e hk⟩, ?_, fun o e => ?_, fun n hn => ?_, fun n n' c hn hn' g1 g2 => ?_⟩⟩
    · rw [e2]; exact R.p_none_of (szn _ (Nat.le_refl _))
    · rw [e2] at e; rw [R.none_of (szn _ (Nat.le_refl _))] at e; cases e
    · have hn' : fd.scope.names.lookup n = some .cell := by
        have hn : isCF (fd.scope.names.lookup n) := by rw [← e1]; exact hn
        rcases hn with hn | hn
        · exact hn
        · exact absurd rfl (c12 _ (lookup_mem hn))
      obtain ⟨c, g1, g2⟩ := cellsFrom_new n (s.heap.objs.size + 1) fd.scope.names (s.heap.objs.size + 1) [] (Nat.le_refl _) (.inl (lookup_mem hn'))
      rw [← e3] at g1
      refine ⟨c, _, g1, hin.cell n c g1, fun x v hx e => ?_, fun _ => R.p_none_of (szn _ (Nat.le_of_succ_le g2))⟩
      subst hx
      exact bindC_spec _ _ _ _ _ hvs hlen c10 x v e (by show env.scope.names.lookup _ ≠ _; rw [e1, hn']; simp)
    · rw [e3] at g1 g2
      rcases hinj _ (lookup_mem g1) _ (lookup_mem g2) rfl with q | ⟨q, _⟩
      · exact congrArg Prod.fst q
      · cases q
  exact hB env _ e1 (by rw [e6, e2]) X

theorem fn_call {G : Par} {f : String} {d : Fn} (hK : KOk K) (hns : G.ns = K.ns) (hgc : G.gc = K.gc) (hV : Valid prog w K G.Γ k) (hf : FnAt K f d) {vs : List V} {h : H} {Q : V → H → Prop} (hq : runFn G d vs h Q) :
    ∃ a, K.mg (Str.ofString f) = some (.ref a) ∧
    ∀ (l : List PySem.Env) (A : Around) (P : Prt) (s : Shared) (rs : List Value) (E : Value → Shared → Prop), Rm A (k + 1) → A.frames = some l → Rel (K.at l) P h s → VRs (K.at l) vs rs →
      wpAny (model prog w) A (call (.ref a) rs) (fun r s' => ∃ v h', VR (K.at l) v r ∧ Rel (K.at l) P h' s' ∧ Q v h') E s := by
  obtain ⟨a, o, fd, h1, h2, h3, h4, h5⟩ := hf.at'
  refine ⟨a, h1, fun l A P s rs E hR hA R hvs => ?_⟩
  simp only [chkFn, Bool.and_eq_true] at h5
  obtain ⟨c1, h5⟩ := h5
  obtain ⟨body, hb⟩ : ∃ b, fd.body = .stmts b := by
    split at c1
    · exact ⟨_, by assumption⟩
    · cases c1
  rw [hb] at c1
  obtain ⟨hlen, hq⟩ := hq
  refine fn_enter hK h2 h3 h4 h5 hb hlen (by have := hR.dp; (first | lia | omega)) R hvs fun env s' e1 _ X => ?_
  have cx : Cx prog w (K.at (env :: l)) G (A.deeper env) k := ⟨hK.at _, hns, hgc, ⟨hR.hd, by have := hR.dp; show A.depth + 1 + k < _; (first | lia | omega), by have := hR.un; show A.units + 3 + 4 * k + 100 < _; (first | lia | omega)⟩, Around.frames_deeper hA, hV⟩
  have hb' : chkSs K.fns env.scope d.body body = true := by rw [e1]; exact c1
  refine wpAny_mono (sndSs cx d.body hb' X hq) (fun fl s₂ hx => ?_) fun _ _ e => e
  obtain ⟨fl', σ', h', hfl, X', hq'⟩ := hx
  cases hfl with
  | next => exact ⟨_, _, .none, X'.rel.at l (fun e he => X'.rel.frs e (List.mem_cons_of_mem _ he)) (fun e he => X'.rel.frm e (List.mem_cons_of_mem _ he)), hq'⟩
  | ret hv => exact ⟨_, _, hv.at l, X'.rel.at l (fun e he => X'.rel.frs e (List.mem_cons_of_mem _ he)) (fun e he => X'.rel.frm e (List.mem_cons_of_mem _ he)), hq'⟩

theorem valid_table (hK : KOk K) : ∀ (fs : List (String × Fn)), (∀ p ∈ fs, FnAt K p.1 p.2) → Valid prog w K (table K.ns K.gc fs) fs.length
  | [], _ => fun f vs h Q hq => by simp [table] at hq
  | (g, d) :: r, hf => fun f vs h Q hq => by
    have ih := valid_table hK r fun p hp => hf p (List.mem_cons_of_mem _ hp)
    simp only [table] at hq
    split at hq
    · rename_i q; subst q
      exact fn_call (G := ⟨K.ns, K.gc, table K.ns K.gc r⟩) hK rfl rfl ih (hf (f, d) List.mem_cons_self) hq
    · obtain ⟨a, h1, h2⟩ := ih f vs h Q hq
      exact ⟨a, h1, fun l A P s rs E hR => h2 l A P s rs E ⟨hR.hd, by have := hR.dp; simp only [List.length_cons] at this; (first | lia | omega), by have := hR.un; simp only [List.length_cons] at this; (first | lia | omega)⟩⟩
end
end MP

end
section
namespace MP
open PySem PySem.W PyProof.Rows

noncomputable def codeB (F : Frag) (cd : Value) (q : Str) : Bool :=
  match cd with
  | .ref c => (match F.lookup c with
    | some o => (match o.data with
      | PySem.Data.fields (vs : Array Value) => (match (vs[1]? : Option Value) with
        | some (Value.str p _) => p == q
        | _ => false)
      | _ => false)
    | none => false)
  | _ => false
noncomputable def fnB (F : Frag) (fns : List String) (f : String) (d : Fn) : Bool :=
  match nsIn F mainGlobals (Str.ofString f) with
  | some (some (.ref a)) => (match F.lookup a with
    | some o => (match o.data with
      | .func fd => chkFn fns fd d && codeB F fd.code fd.qualname
      | _ => false)
    | none => false)
  | _ => false

theorem codeB_rec {F : Frag} {h : Heap} (KX : F.In h) {cd : Value} {q : Str} (e : codeB F cd q = true) : h.CodeRec cd q := by
  unfold codeB at e
  split at e
  · rename_i c
    split at e
    · rename_i o ho
      split at e
      · rename_i vs hv
        split at e
        · rename_i p t hp
          rw [beq_iff_eq.mp e] at hp
          exact ⟨c, o, vs, t, rfl, KX _ _ ho, hv, hp⟩
        · cases e
      · cases e
    · cases e
  · cases e

theorem fnB_at {K : KK} {F : Frag} (KX : F.In K.base) (hg : K.base.Ns mainGlobals K.mg) {f : String} {d : Fn} (e : fnB F K.fns f d = true) : FnAt K f d := by
  unfold fnB at e
  split at e
  · rename_i a hn
    split at e
    · rename_i o ho
      split at e
      · rename_i fd hd
        simp only [Bool.and_eq_true] at e
        exact ⟨a, o, fd, mg_of KX hg hn, KX _ _ ho, hd, codeB_rec KX e.2, e.1⟩
      · cases e
    · cases e
  · cases e

theorem vrs_ints {K : KK} : ∀ {vs : List Value} {ns : List Int}, IntsAre vs ns → VRs K (ns.map V.int) vs
  | _, _, .nil => .nil
  | _, _, .cons n t h => .cons (.int n t) (vrs_ints h)

/-- the top's own tables -/
noncomputable def toV : Value → Option V
  | .none => some .none
  | .bool b => some (.bool b)
  | .int i _ => some (.int i)
  | .ref a => some (.ref a)
  | _ => Option.none
noncomputable def toVs : List Value → Option (List V)
  | [] => some []
  | r :: rs => match toV r, toVs rs with
    | some v, some vs => some (v :: vs)
    | _, _ => Option.none
theorem toV_vr {K : KK} {r : Value} {v : V} (e : toV r = some v) : VR K v r := by
  cases r <;> simp only [toV, Option.some.injEq, reduceCtorEq] at e <;> subst e <;> constructor
theorem toVs_vrs {K : KK} : ∀ {rs : List Value} {vs : List V}, toVs rs = some vs → VRs K vs rs
  | [], vs, e => by cases e; exact .nil
  | r :: rs, vs, e => by
    unfold toVs at e
    split at e
    · rename_i v vs' h1 h2
      cases e
      exact .cons (toV_vr h1) (toVs_vrs h2)
    · cases e
noncomputable def tupOf (o : Obj) : Option O :=
  match o with
  | ⟨.type "tuple", none, .seq items _, ⟨[]⟩⟩ => (match toVs items.toList with
    | some vs => if vs.length ≤ lim then some (.tup vs) else Option.none
    | Option.none => Option.none)
  | _ => Option.none
theorem tupOf_or {K : KK} {ob : Obj} {o : O} (e : tupOf ob = some o) : OR K o ob ∧ o.isMut = false := by
  unfold tupOf at e
  split at e
  · rename_i items n
    split at e
    · rename_i vs hv
      split at e
      · rename_i hl
        cases e
        exact ⟨.tup (toVs_vrs hv) hl, rfl⟩
      · cases e
    · cases e
  · cases e
noncomputable def h0Of (F : Frag) : H := fun a => match F.lookup a with
  | some ob => tupOf ob
  | none => Option.none
theorem h0Of_ok {K : KK} {F : Frag} {h : Heap} (KX : F.In h) : ∀ a o, h0Of F a = some o → ∃ ob, h.get? a = some ob ∧ OR K o ob ∧ o.isMut = false := fun a o e => by
  unfold h0Of at e
  split at e
  · rename_i ob ho
    obtain ⟨h1, h2⟩ := tupOf_or (K := K) e
    exact ⟨ob, KX _ _ ho, h1, h2⟩
  · cases e
noncomputable def gcOf (F : Frag) (cs : List String) (x : String) : Option V :=
  if cs.contains x then (match nsIn F mainGlobals (Str.ofString x) with
    | some (some (.ref a)) => some (.ref a)
    | _ => Option.none) else Option.none
theorem gcOf_ok {K : KK} {F : Frag} {cs : List String} {h : Heap} {mg : Str → Option Value} (KX : F.In h) (hg : h.Ns mainGlobals mg) : ∀ x v, gcOf F cs x = some v → ∃ rv, mg (Str.ofString x) = some rv ∧ VR K v rv := fun x v e => by
  unfold gcOf at e
  split at e
  · split at e
    · rename_i a hn
      cases e
      exact ⟨_, mg_of KX hg hn, .ref a⟩
    · cases e
  · cases e
/-- the names of the built-ins -/
noncomputable def bfB (F : Frag) : Bool := ([Bf.len, .list, .min, .max, .sum, .type].all fun f => nsIn F mainGlobals (Str.ofString (bfName f)) == some none) && nsIn F mainGlobals (Str.ofString "range") == some none && (tyNames.all fun t => nsIn F mainGlobals (Str.ofString t) == some none)
theorem bf_all (f : Bf) : f ∈ [Bf.len, .list, .min, .max, .sum, .type] := by cases f <;> simp
theorem bf_boot (f : Bf) : bootBuiltins (Str.ofString (bfName f)) = some (bfVal f) ∧ Str.ofString (bfName f) ≠ "__name__" := by
  cases f <;> exact ⟨by kernel_rfl, by decide +kernel⟩
theorem ty_boot : ∀ t ∈ tyNames, bootBuiltins (Str.ofString t) = some (.type t) ∧ Str.ofString t ≠ "__name__" := by
  intro t ht
  simp only [tyNames, List.mem_cons, List.not_mem_nil, or_false] at ht
  rcases ht with rfl | rfl | rfl | rfl <;> exact ⟨by kernel_rfl, by decide +kernel⟩
theorem range_boot : bootBuiltins (Str.ofString "range") = some (.type "range") ∧ Str.ofString "range" ≠ "__name__" := ⟨by kernel_rfl, by decide +kernel⟩

theorem kok_of {F : Frag} {h : Heap} {mg mb : Str → Option Value} {p : Program} {loose : List Str} {mean : ExcName → Option Value} {os : OsState} {ns : List Int} {scr : PySem.Addr} {items : List Value} {fs : List (String × Fn)} {cs : List String}
    (T : Top p loose mean mg mb h) (KX : F.In h) (hb : bfB F = true) (hl : h.IsList scr items.toArray) (hi : IntsAre items ns) (hn : ns.length ≤ lim) (hf : (fs.all fun p => fnB F (fs.map (·.1)) p.1 p.2) = true) :
    KOk { scr := scr, os := os, base := h, mg := mg, mb := mb, ns := ns, gc := gcOf F cs, fns := fs.map (·.1), fl := [] } ∧
    ∀ p ∈ fs, FnAt { scr := scr, os := os, base := h, mg := mg, mb := mb, ns := ns, gc := gcOf F cs, fns := fs.map (·.1), fl := [] } p.1 p.2 := by
  have hf' : ∀ p ∈ fs, FnAt { scr := scr, os := os, base := h, mg := mg, mb := mb, ns := ns, gc := gcOf F cs, fns := fs.map (·.1), fl := [] } p.1 p.2 := fun p hp => fnB_at (K := { scr := scr, os := os, base := h, mg := mg, mb := mb, ns := ns, gc := gcOf F cs, fns := fs.map (·.1), fl := [] }) KX T.g (List.all_eq_true.mp hf p hp)
  simp only [bfB, Bool.and_eq_true, List.all_eq_true, beq_iff_eq] at hb
  refine ⟨⟨T.nolimit, T.g, T.b, fun f => ⟨mg_none_of KX T.g (hb.1.1 f (bf_all f)), (T.builtins _ (bf_boot f).2).trans (bf_boot f).1⟩, ⟨mg_none_of KX T.g hb.1.2, (T.builtins _ range_boot.2).trans range_boot.1⟩, fun t ht => ⟨mg_none_of KX T.g (hb.2 t ht), (T.builtins _ (ty_boot t ht).2).trans (ty_boot t ht).1⟩, ⟨_, hl, by simpa using vrs_ints hi⟩, hn, fun f hfn => ?_, gcOf_ok KX T.g⟩, hf'⟩
  obtain ⟨p, hp, e⟩ := List.mem_map.mp (List.contains_iff_mem.mp hfn)
  obtain ⟨a, o, fd, h1, h2, h3, _⟩ := (hf' p hp).at'
  rw [e] at h1
  exact ⟨a, o, fd, h1, h2, h3⟩

/-- the law's call, from the law's proof -/
theorem mp_run {prog : Program} {w : World} {K : KK} {fs : List (String × Fn)} {h0 : H} {s₁ : Shared} {fa : PySem.Addr} {E : Value → Shared → Prop} (hK : KOk K) (hf : ∀ p ∈ fs, FnAt K p.1 p.2) (hb : K.base = s₁.heap) (hos : K.os = s₁.os) (hgens : s₁.gens = #[])
    (hmg : K.mg (Str.ofString "law") = some (.ref fa)) (hn : fs.length ≤ 100)
    (h0o : ∀ a o, h0 a = some o → ∃ ob, s₁.heap.get? a = some ob ∧ OR K o ob ∧ o.isMut = false)
    (law : table K.ns K.gc fs "law" [.scr] h0 fun v _ => v = .bool true) :
    wpAny (model prog w) callerA (call (.ref fa) [.ref K.scr]) (fun v s' => v = .bool true ∧ (∀ b o, s₁.heap.get? b = some o → s'.heap.get? b = some o) ∧ s'.os = s₁.os ∧ AllBare s'.gens) E s₁ := by
  obtain ⟨a, h1, h2⟩ := valid_table (prog := prog) (w := w) hK fs hf _ _ _ _ law
  rw [hmg] at h1; cases h1
  have R : Rel (K.at []) (fun b => s₁.heap.get? b) h0 s₁ := ⟨fun b o e => by rw [← hb]; exact e, fun b o e => by rw [← hb]; exact e, fun _ _ e => ⟨_, e, .refl _⟩, fun e he => (nomatch he), fun e he => (nomatch he), fun a o e => by
    obtain ⟨ob, g1, g2, g3⟩ := h0o a o e
    exact ⟨ob, g1, OR.at (K := K) (l := K.fl) g2 [], fun q => by rw [g3] at q; cases q⟩, hos.symm, .of_eq hgens⟩
  refine wpAny_mono (h2 [] callerA _ s₁ [.ref K.scr] E ⟨rfl, ?_, ?_⟩ rfl R (.cons (VR.scr (K := K.at [])) .nil)) (fun r s' hx => ?_) fun _ _ e => e
  · show 1 + claimMargin + fs.length < recursionLimit
    unfold claimMargin recursionLimit; (first | lia | omega)
  · show 4 + 4 * fs.length + 100 < cLine
    unfold cLine; (first | lia | omega)
  · obtain ⟨v, h', hv, R', rfl⟩ := hx
    cases hv
    exact ⟨rfl, fun b o e => R'.base b o (by rw [← hb] at e; exact e), R'.os.trans hos, R'.gens⟩
end MP

end
section
/-! Loops, heaps, arrays in plain Lean. -/
namespace MP
open PySem (PyData)

/-- h' knows all that h knows -/
noncomputable def Ext (h h' : H) : Prop := ∀ a o, h a = some o → h' a = some o
theorem Ext.refl (h : H) : Ext h h := fun _ _ e => e
theorem Ext.trans {a b c : H} (x : Ext a b) (y : Ext b c) : Ext a c := fun _ _ e => y _ _ (x _ _ e)
theorem Ext.new {h : H} {a : Nat} (o : O) (e : h a = Option.none) : Ext h (h.set a o) := fun b o' e' => by
  unfold H.set; split
  · rename_i q; rw [q, e] at e'; cases e'
  · exact e'
theorem Ext.set {h h' : H} {a : Nat} (x : Ext h h') (o : O) (e : h a = Option.none) : Ext h (h'.set a o) := fun b o' e' => by
  unfold H.set; split
  · rename_i q; rw [q, e] at e'; cases e'
  · exact x _ _ e'
theorem Ext.none {h h' : H} (x : Ext h h') {a : Nat} (e : h' a = Option.none) : h a = Option.none := by
  cases q : h a with
  | none => rfl
  | some o => rw [x _ _ q] at e; cases e
@[simp] theorem H.set_self (h : H) (a : Nat) (o : O) : h.set a o a = some o := by simp [H.set]
theorem H.set_other (h : H) {a b : Nat} (o : O) (hb : b ≠ a) : h.set a o b = h b := by simp [H.set, hb]

@[simp] theorem upd_self (σ : Env) (x : String) (v : V) : upd σ x v x = some v := by simp [upd]
mutual
theorem Rd.mono {h h' : H} (x : Ext h h') : ∀ {v : V} {d : PyData}, Rd h v d → Rd h' v d
  | _, _, .none => .none
  | _, _, .bool b => .bool b
  | _, _, .int i => .int i
  | _, _, .list e r => .list (x _ _ e) (RdAll.mono x r)
  | _, _, .tup e r => .tup (x _ _ e) (RdAll.mono x r)
theorem RdAll.mono {h h' : H} (x : Ext h h') : ∀ {vs : List V} {ds : List PyData}, RdAll h vs ds → RdAll h' vs ds
  | _, _, .nil => .nil
  | _, _, .cons a b => .cons (Rd.mono x a) (RdAll.mono x b)
end

theorem RdAll.length {h : H} : ∀ {vs : List V} {ds : List PyData}, RdAll h vs ds → vs.length = ds.length
  | _, _, .nil => rfl
  | _, _, .cons _ b => by simp [RdAll.length b]
theorem RdAll.get {h : H} : ∀ {vs : List V} {ds : List PyData}, RdAll h vs ds → ∀ {i : Nat} {d : PyData}, ds[i]? = some d → ∃ v, vs[i]? = some v ∧ Rd h v d
  | _, _, .nil, _, _, e => by simp at e
  | _, _, .cons a b, 0, _, e => by simp at e; subst e; exact ⟨_, rfl, a⟩
  | _, _, .cons a b, i + 1, _, e => by simp at e; simpa using b.get e
theorem RdAll.append {h : H} : ∀ {vs : List V} {ds : List PyData}, RdAll h vs ds → ∀ {ws : List V} {es : List PyData}, RdAll h ws es → RdAll h (vs ++ ws) (ds ++ es)
  | _, _, .nil, _, _, r => r
  | _, _, .cons a b, _, _, r => .cons a (b.append r)
theorem RdAll.of_get {h : H} : ∀ {vs : List V} {ds : List PyData}, vs.length = ds.length → (∀ (i : Nat) v d, vs[i]? = some v → ds[i]? = some d → Rd h v d) → RdAll h vs ds
  | [], [], _, _ => .nil
  | [], _ :: _, e, _ => by simp at e
  | _ :: _, [], e, _ => by simp at e
  | v :: vs, d :: ds, e, f => .cons (f 0 v d rfl rfl) (RdAll.of_get (by simpa using e) fun i v' d' h1 h2 => f (i + 1) v' d' (by simpa using h1) (by simpa using h2))

/-- n places, the i-th holding f i -/
noncomputable def arr (n : Nat) (f : Nat → V) : List V := (List.range n).map f
@[simp] theorem arr_length (n : Nat) (f : Nat → V) : (arr n f).length = n := by simp [arr]
theorem arr_get {n i : Nat} (f : Nat → V) (h : i < n) : (arr n f)[i]? = some (f i) := by simp [arr, h]
theorem arr_set {n i : Nat} (f : Nat → V) (v : V) : (arr n f).set i v = arr n fun j => if j = i then v else f j := by
  apply List.ext_getElem?
  intro j
  rw [List.getElem?_set]
  by_cases hj : j < n
  · by_cases q : i = j
    · subst q; simp [arr, hj]
    · rw [if_neg q, arr_get _ hj, arr_get _ hj, if_neg (fun e => q e.symm)]
  · have h1 : (arr n f)[j]? = Option.none := List.getElem?_eq_none (by simp; (first | lia | omega))
    have h2 : (arr n fun j => if j = i then v else f j)[j]? = Option.none := List.getElem?_eq_none (by simp; (first | lia | omega))
    rw [h1, h2]
    split
    · simp; (first | lia | omega)
    · rfl
theorem arr_congr {n : Nat} {f g : Nat → V} (h : ∀ i < n, f i = g i) : arr n f = arr n g := by
  unfold arr
  apply List.map_congr_left
  intro i hi; exact h i (by simpa using hi)
theorem getIdx_arr {n i : Nat} (f : Nat → V) (h : i < n) : getIdx (arr n f) (i : Nat) = some (f i) := by
  unfold getIdx; rw [if_pos (by (first | lia | omega)), Int.toNat_natCast, arr_get f h]
theorem getIdx_nat {xs : List V} {i : Nat} : getIdx xs (i : Nat) = xs[i]? := by
  unfold getIdx; rw [if_pos (by (first | lia | omega)), Int.toNat_natCast]

@[simp] theorem intsOf_map {α : Type} (f : α → Int) (l : List α) : intsOf (l.map fun x => V.int (f x)) = some (l.map f) := by
  induction l with
  | nil => rfl
  | cons a r ih => simp [intsOf, ih]
@[simp] theorem intsOf_arr (n : Nat) (f : Nat → Int) : intsOf (arr n fun i => .int (f i)) = some ((List.range n).map f) := by
  unfold arr; exact intsOf_map f _

theorem upTo_zero (n : Nat) : upTo 0 n = (List.range n).map fun i : Nat => (i : Int) := by
  unfold upTo; simp
theorem upTo_nat (m n : Nat) : upTo m n = (List.range (n - m)).map fun i => ((m + i : Nat) : Int) := by
  unfold upTo
  rw [show ((n : Int) - (m : Int)).toNat = n - m by (first | lia | omega)]
  simp

/-- a for that never returns -/
theorem forW_inv {turn : V → Env → H → (Flow → Env → H → Prop) → Prop} {kp : Option (Nat × List V)} {Q : Flow → Env → H → Prop} (I : List V → List V → Env → H → Prop)
    (hst : ∀ d r σ h, I d r σ h → stays kp h) (step : ∀ d v r σ h K, I d (v :: r) σ h → (∀ σ' h', I (d ++ [v]) r σ' h' → K Flow.next σ' h') → turn v σ h K) :
    ∀ (xs d : List V) (σ : Env) (h : H), I d xs σ h → (∀ σ' h', I (d ++ xs) [] σ' h' → Q .next σ' h') → forW turn kp xs σ h Q
  | [], d, σ, h, hI, fin => ⟨hst _ _ _ _ hI, fin _ _ (by simpa using hI)⟩
  | v :: r, d, σ, h, hI, fin => by
    refine ⟨hst _ _ _ _ hI, step d v r σ h _ hI fun σ' h' hI' => ?_⟩
    exact forW_inv I hst step r (d ++ [v]) σ' h' hI' (by simpa using fin)

theorem forW_from {turn : V → Env → H → (Flow → Env → H → Prop) → Prop} {Q : Flow → Env → H → Prop} {n : Nat} (I : Nat → Env → H → Prop)
    (step : ∀ i σ h K, i < n → I i σ h → (∀ σ' h', I (i + 1) σ' h' → K Flow.next σ' h') → turn (.int (i : Nat)) σ h K) (fin : ∀ σ h, I n σ h → Q .next σ h) :
    ∀ (k i : Nat) (σ : Env) (h : H), i + k = n → I i σ h → forW turn Option.none ((List.range k).map fun j => V.int ((i + j : Nat) : Int)) σ h Q
  | 0, i, σ, h, e, hI => ⟨trivial, fin _ _ (by rw [← e]; exact hI)⟩
  | k + 1, i, σ, h, e, hI => by
    rw [List.range_succ_eq_map, List.map_cons]
    refine ⟨trivial, step i σ h _ (by (first | lia | omega)) hI fun σ' h' hI' => ?_⟩
    have := forW_from I step fin k (i + 1) σ' h' (by (first | lia | omega)) hI'
    rw [List.map_map]
    have e2 : ((fun j => V.int ((i + j : Nat) : Int)) ∘ Nat.succ) = fun j => V.int ((i + 1 + j : Nat) : Int) := by
      funext j; simp only [Function.comp, Nat.succ_eq_add_one]; congr 1; (first | lia | omega)
    rw [e2]; exact this
theorem forW_range {turn : V → Env → H → (Flow → Env → H → Prop) → Prop} {Q : Flow → Env → H → Prop} {n : Nat} (I : Nat → Env → H → Prop) {σ : Env} {h : H} (h0 : I 0 σ h)
    (step : ∀ i σ h K, i < n → I i σ h → (∀ σ' h', I (i + 1) σ' h' → K Flow.next σ' h') → turn (.int (i : Nat)) σ h K) (fin : ∀ σ h, I n σ h → Q .next σ h) :
    forW turn Option.none ((upTo 0 n).map .int) σ h Q := by
  have := forW_from I step fin n 0 σ h (by (first | lia | omega)) h0
  rw [upTo_zero, List.map_map]
  have e : (V.int ∘ fun i : Nat => (i : Int)) = fun j : Nat => V.int ((0 + j : Nat) : Int) := by funext j; simp
  rw [e]; exact this
theorem while_of {test : Env → H → (Bool → H → Prop) → Prop} {turn : Env → H → (Flow → Env → H → Prop) → Prop} {Q : Flow → Env → H → Prop} (I : Nat → Env → H → Prop)
    (step : ∀ j σ h (K : Env → H → Prop), I j σ h → (∀ j' σ' h', j' < j → I j' σ' h' → K σ' h') → test σ h fun b h' => if b then turn σ h' fun f σ' h'' => (match f with
      | .next => K σ' h''
      | .ret w => Q (.ret w) σ' h'') else Q .next σ h') :
    ∀ (n j : Nat) (σ : Env) (h : H), j ≤ n → I j σ h → whileW test turn (n + 1) σ h Q
  | 0, j, σ, h, hj, hI => by
    have := step j σ h (fun σ' h' => whileW test turn 0 σ' h' Q) hI fun j' _ _ hj' _ => by (first | lia | omega)
    exact this
  | n + 1, j, σ, h, hj, hI => by
    have := step j σ h (fun σ' h' => whileW test turn (n + 1) σ' h' Q) hI fun j' σ' h' hj' hI' => while_of I step n j' σ' h' (by (first | lia | omega)) hI'
    exact this
theorem while_inv {test : Env → H → (Bool → H → Prop) → Prop} {turn : Env → H → (Flow → Env → H → Prop) → Prop} {Q : Flow → Env → H → Prop} (I : Nat → Env → H → Prop)
    (step : ∀ j σ h (K : Env → H → Prop), I j σ h → (∀ j' σ' h', j' < j → I j' σ' h' → K σ' h') → test σ h fun b h' => if b then turn σ h' fun f σ' h'' => (match f with
      | .next => K σ' h''
      | .ret w => Q (.ret w) σ' h'') else Q .next σ h') {j : Nat} {σ : Env} {h : H} (hI : I j σ h) : ∃ n, whileW test turn n σ h Q :=
  ⟨j + 1, while_of I step j j σ h (Nat.le_refl _) hI⟩

/-- a comprehension that leaves the heap -/
theorem compW_pure {turn : V → H → (Option V → H → Prop) → Prop} {kp : Option (Nat × List V)} {Q : List V → H → Prop} {h : H} (g : V → Option V) (hst : stays kp h) :
    ∀ (xs ys : List V), (∀ v ∈ xs, ∀ K : Option V → H → Prop, K (g v) h → turn v h K) → Q (ys ++ xs.filterMap g) h → compW turn kp xs ys h Q
  | [], ys, _, hQ => by simpa [compW] using hQ
  | v :: r, ys, step, hQ => by
    refine ⟨hst, step v List.mem_cons_self _ ?_⟩
    cases q : g v with
    | none => exact compW_pure g hst r ys (fun v hv => step v (List.mem_cons_of_mem _ hv)) (by simpa [q] using hQ)
    | some w => exact compW_pure g hst r (ys ++ [w]) (fun v hv => step v (List.mem_cons_of_mem _ hv)) (by simpa [q] using hQ)

theorem compW_range {turn : V → H → (Option V → H → Prop) → Prop} {Q : List V → H → Prop} {h : H} {n : Nat} (g : Nat → V) (step : ∀ i < n, ∀ K : Option V → H → Prop, K (some (g i)) h → turn (.int (i : Nat)) h K) (hQ : Q (arr n g) h) :
    compW turn Option.none ((upTo 0 n).map .int) [] h Q := by
  refine compW_pure (kp := Option.none) (fun v => match v with | .int i => some (g i.toNat) | _ => Option.none) trivial _ _ (fun v hv K hK => ?_) ?_
  · obtain ⟨i, hi, rfl⟩ := List.mem_map.mp hv
    rw [upTo_zero] at hi
    obtain ⟨j, hj, rfl⟩ := List.mem_map.mp hi
    exact step j (by simpa using hj) K (by simpa using hK)
  · rw [upTo_zero, List.map_map, List.nil_append, List.filterMap_map]
    have : (List.range n).filterMap ((fun v => match v with | V.int i => some (g i.toNat) | _ => Option.none) ∘ V.int ∘ fun i : Nat => (i : Int)) = arr n g := by
      unfold arr
      rw [← List.filterMap_eq_map]
      apply congrFun; apply congrArg
      funext i; simp
    rw [this]; exact hQ
end MP

end
section
/-! The rules by which simp walks a text of the small language. -/
namespace MP
variable {G : Par} {σ : Env} {h : H}

noncomputable def optK (o : Option V) (K : V → Prop) : Prop := match o with
  | some v => K v
  | Option.none => False
@[simp] theorem optK_some (v : V) (K : V → Prop) : optK (some v) K = K v := rfl
noncomputable def listK (o : Option O) (K : List V → Prop) : Prop := match o with
  | some (.list xs) => K xs
  | _ => False
@[simp] theorem listK_some (xs : List V) (K : List V → Prop) : listK (some (.list xs)) K = K xs := rfl
noncomputable def seqsK (o : Option O) (K : List V → Prop) : Prop := match o with
  | some (.list xs) => K xs
  | some (.tup xs) => K xs
  | _ => False
@[simp] theorem seqsK_list (xs : List V) (K : List V → Prop) : seqsK (some (.list xs)) K = K xs := rfl
@[simp] theorem seqsK_tup (xs : List V) (K : List V → Prop) : seqsK (some (.tup xs)) K = K xs := rfl
noncomputable def intsK (o : Option (List Int)) (K : List Int → Prop) : Prop := match o with
  | some is => K is
  | _ => False
@[simp] theorem intsK_some (is : List Int) (K : List Int → Prop) : intsK (some is) K = K is := rfl
noncomputable def ints1K (o : Option (List Int)) (K : List Int → Prop) : Prop := match o with
  | some (i :: is) => K (i :: is)
  | _ => False
theorem ints1K_some (is : List Int) (K : List Int → Prop) (hne : is ≠ []) (hK : K is) : ints1K (some is) K := by
  cases is with
  | nil => exact absurd rfl hne
  | cons i r => exact hK

@[simp] theorem upd_apply (σ : Env) (x : String) (v : V) (y : String) : upd σ x v y = if y = x then some v else σ y := rfl
@[simp] theorem H.set_apply (h : H) (a : Nat) (o : O) (b : Nat) : h.set a o b = if b = a then some o else h b := rfl
@[simp] theorem tgW_name (x : String) (v : V) (Q : Env → Prop) : tgW (.name x) v σ h Q = Q (upd σ x v) := rfl
@[simp] theorem truth_bool (b : Bool) (Q : Bool → Prop) : truth (.bool b) Q = Q b := rfl
@[simp] theorem negW_int (i : Int) (Q : V → H → Prop) : negW (.int i) h Q = Q (.int (-i)) h := rfl
@[simp] theorem binop_add (i j : Int) (Q : V → H → Prop) : binop .add (.int i) (.int j) h Q = Q (.int (i + j)) h := rfl
@[simp] theorem binop_sub (i j : Int) (Q : V → H → Prop) : binop .sub (.int i) (.int j) h Q = Q (.int (i - j)) h := rfl
@[simp] theorem binop_mul (i j : Int) (Q : V → H → Prop) : binop .mul (.int i) (.int j) h Q = (inLim i ∧ inLim j ∧ Q (.int (i * j)) h) := rfl
@[simp] theorem binop_div (i j : Int) (Q : V → H → Prop) : binop .div (.int i) (.int j) h Q = (0 < j ∧ j ≤ lim ∧ Q (.int (i / j)) h) := rfl
@[simp] theorem binop_mod (i j : Int) (Q : V → H → Prop) : binop .mod (.int i) (.int j) h Q = (0 < j ∧ Q (.int (i % j)) h) := rfl
@[simp] theorem cmpop_lt (i j : Int) (Q : V → H → Prop) : cmpop .lt (.int i) (.int j) h Q = Q (.bool (decide (i < j))) h := rfl
@[simp] theorem cmpop_le (i j : Int) (Q : V → H → Prop) : cmpop .le (.int i) (.int j) h Q = Q (.bool (decide (i ≤ j))) h := rfl
@[simp] theorem cmpop_gt (i j : Int) (Q : V → H → Prop) : cmpop .gt (.int i) (.int j) h Q = Q (.bool (decide (j < i))) h := rfl
@[simp] theorem cmpop_ge (i j : Int) (Q : V → H → Prop) : cmpop .ge (.int i) (.int j) h Q = Q (.bool (decide (j ≤ i))) h := rfl
@[simp] theorem cmpop_eq (a b : V) (Q : V → H → Prop) : cmpop .eq a b h Q = eqW a b h fun r => Q (.bool r) h := rfl
@[simp] theorem cmpop_ne (a b : V) (Q : V → H → Prop) : cmpop .ne a b h Q = eqW a b h fun r => Q (.bool (!r)) h := rfl
@[simp] theorem eqW_int (i j : Int) (Q : Bool → Prop) : eqW (.int i) (.int j) h Q = Q (decide (i = j)) := rfl
@[simp] theorem cmpop_is_none (a : V) (Q : V → H → Prop) : cmpop .is a .none h Q = Q (.bool (decide (a = .none))) h := rfl
@[simp] theorem cmpop_isnt_none (a : V) (Q : V → H → Prop) : cmpop .isnt a .none h Q = Q (.bool (!decide (a = .none))) h := rfl
@[simp] theorem bfn_len_scr (Q : V → H → Prop) : bfnW G .len [.scr] h Q = Q (.int G.ns.length) h := rfl
@[simp] theorem bfn_len (a : Nat) (Q : V → H → Prop) : bfnW G .len [.ref a] h Q = seqsK (h a) fun xs => Q (.int xs.length) h := rfl
@[simp] theorem binop_mulL (a : Nat) (k : Int) (Q : V → H → Prop) : binop .mul (.ref a) (.int k) h Q = listK (h a) fun xs => 0 ≤ k ∧ k ≤ lim ∧ xs.length * k.toNat ≤ lim ∧ alloc (.list (List.replicate k.toNat xs).flatten) h Q := rfl
@[simp] theorem ofU_t (a : Nat) (xs : List V) (K : List V → Prop) (e : h a = some (.tup xs)) : ofU (.ref a) h K = K xs := by
  show (match h a with | some (.tup xs) => K xs | some (.list xs) => K xs | _ => False) = K xs
  rw [e]
@[simp] theorem ofU_l (a : Nat) (xs : List V) (K : List V → Prop) (e : h a = some (.list xs)) : ofU (.ref a) h K = K xs := by
  show (match h a with | some (.tup xs) => K xs | some (.list xs) => K xs | _ => False) = K xs
  rw [e]
@[simp] theorem ev_dict0 (Q : V → H → Prop) : ev G .dict0 σ h Q = ∀ a, h a = Option.none → a ≠ 1 → Q (.ref a) (h.set a (.dict [])) := rfl
@[simp] theorem ev_getd (a k d : PE) (Q : V → H → Prop) : ev G (.getd a k d) σ h Q = ev G a σ h fun va h₁ => isD va h₁ ∧ ev G k σ h₁ fun vk h₂ => ev G d σ h₂ fun vd h₃ => getdW va vk vd h₃ Q := rfl
theorem isD_ref {a : Nat} {kvs : List ((Int × Int) × Nat × Int)} (e : h a = some (.dict kvs)) (hne : a ≠ 1) : isD (.ref a) h := by
  show (match h a with | some (.dict _) => a ≠ 1 | _ => False)
  rw [e]; exact hne
theorem getdW_of {a t : Nat} {kvs : List ((Int × Int) × Nat × Int)} {i j : Int} {vd : V} {Q : V → H → Prop} (e : h a = some (.dict kvs)) (et : h t = some (.tup [.int i, .int j])) (hk : keysOk h kvs)
    (hQ : match lookK kvs (i, j) with | some x => Q (.int x) h | Option.none => Q vd h) : getdW (.ref a) (.ref t) vd h Q := by
  have hp : pairV h (.ref t) = some (i, j) := by unfold pairV; simp [et]
  show (match h a with | some (.dict kvs) => (match pairV h (.ref t) with | some p => keysOk h kvs ∧ (match lookK kvs p with | some x => Q (.int x) h | Option.none => Q vd h) | Option.none => False) | _ => False)
  rw [e, hp]; exact ⟨hk, hQ⟩
theorem setSub_dict {a t : Nat} {kvs : List ((Int × Int) × Nat × Int)} {i j x : Int} {Q : H → Prop} (e : h a = some (.dict kvs)) (et : h t = some (.tup [.int i, .int j])) (hk : keysOk h kvs) (hl : kvs.length < lim)
    (hQ : Q (h.set a (.dict (putK kvs (i, j) t x)))) : setSub (.ref a) (.ref t) (.int x) h Q := by
  have hp : pairV h (.ref t) = some (i, j) := by unfold pairV; simp [et]
  show (match h a with | some (.dict kvs) => (match pairV h (.ref t) with | some p => keysOk h kvs ∧ kvs.length < lim ∧ Q (h.set a (.dict (putK kvs p t x))) | Option.none => False) | _ => False)
  rw [e, hp]; exact ⟨hk, hl, hQ⟩
@[simp] theorem bfn_min3 (i j k : Int) (Q : V → H → Prop) : bfnW G .min [.int i, .int j, .int k] h Q = Q (.int (min (min i j) k)) h := rfl
@[simp] theorem exec_unp (ls : List Lv) (e : PE) (Q : Flow → Env → H → Prop) : exec G (.unp ls e) σ h Q = ev G e σ h fun v h₁ => ofU v h₁ fun vs => vs.length = ls.length ∧ storeAll G ls vs σ h₁ fun σ' h' => Q .next σ' h' := rfl
@[simp] theorem storeAll_nil (Q : Env → H → Prop) : storeAll G [] [] σ h Q = Q σ h := rfl
@[simp] theorem storeAll_name (x : String) (ls : List Lv) (v : V) (vs : List V) (Q : Env → H → Prop) : storeAll G (.tg (.name x) :: ls) (v :: vs) σ h Q = storeAll G ls vs (upd σ x v) h Q := rfl
@[simp] theorem storeAll_sub (a i : PE) (ls : List Lv) (v : V) (vs : List V) (Q : Env → H → Prop) : storeAll G (.sub a i :: ls) (v :: vs) σ h Q = ev G a σ h fun va h₁ => ev G i σ h₁ fun vi h₂ => setSub va vi v h₂ fun h₃ => storeAll G ls vs σ h₃ Q := rfl
@[simp] theorem bfn_list (a : Nat) (Q : V → H → Prop) : bfnW G .list [.ref a] h Q = listK (h a) fun xs => alloc (.list xs) h Q := rfl
@[simp] theorem bfn_min2 (i j : Int) (Q : V → H → Prop) : bfnW G .min [.int i, .int j] h Q = Q (.int (min i j)) h := rfl
@[simp] theorem bfn_max2 (i j : Int) (Q : V → H → Prop) : bfnW G .max [.int i, .int j] h Q = Q (.int (max i j)) h := rfl
@[simp] theorem bfn_min (a : Nat) (Q : V → H → Prop) : bfnW G .min [.ref a] h Q = listK (h a) fun xs => ints1K (intsOf xs) fun is => Q (.int (minL is)) h := rfl
@[simp] theorem bfn_sum (a : Nat) (Q : V → H → Prop) : bfnW G .sum [.ref a] h Q = listK (h a) fun xs => intsK (intsOf xs) fun is => Q (.int is.sum) h := rfl
@[simp] theorem subW_scr (k : Int) (Q : V → H → Prop) : subW G .scr (.int k) h Q = optK (getIdx (G.ns.map .int) k) fun v => Q v h := rfl
@[simp] theorem subW_ref (r : Nat) (k : Int) (Q : V → H → Prop) : subW G (.ref r) (.int k) h Q = seqsK (h r) fun xs => optK (getIdx xs k) fun v => Q v h := rfl
@[simp] theorem setSub_ref (r : Nat) (k : Int) (v : V) (Q : H → Prop) : setSub (.ref r) (.int k) v h Q = listK (h r) fun xs => 0 ≤ k ∧ k < xs.length ∧ Q (h.set r (.list (xs.set k.toNat v))) := rfl
@[simp] theorem meth_append (a : Nat) (v : V) (Q : V → H → Prop) : methW .append (.ref a) [v] h Q = listK (h a) fun xs => xs.length < lim ∧ Q .none (h.set a (.list (xs ++ [v]))) := rfl
@[simp] theorem meth_reverse (a : Nat) (Q : V → H → Prop) : methW .reverse (.ref a) [] h Q = listK (h a) fun xs => Q .none (h.set a (.list xs.reverse)) := rfl
@[simp] theorem isL_ref (a : Nat) : isL (.ref a) h = listK (h a) fun _ => True := rfl

@[simp] theorem ev_none (Q : V → H → Prop) : ev G .none σ h Q = Q .none h := rfl
@[simp] theorem ev_bool (b : Bool) (Q : V → H → Prop) : ev G (.bool b) σ h Q = Q (.bool b) h := rfl
@[simp] theorem ev_int (i : Int) (Q : V → H → Prop) : ev G (.int i) σ h Q = Q (.int i) h := rfl
@[simp] theorem ev_ty (t : String) (Q : V → H → Prop) : ev G (.ty t) σ h Q = Q (.ty t) h := rfl
@[simp] theorem cmpop_is_bool (a : V) (b : Bool) (Q : V → H → Prop) : cmpop .is a (.bool b) h Q = Q (.bool (decide (a = .bool b))) h := rfl
@[simp] theorem cmpop_isnt_bool (a : V) (b : Bool) (Q : V → H → Prop) : cmpop .isnt a (.bool b) h Q = Q (.bool (!decide (a = .bool b))) h := rfl
@[simp] theorem cmpop_is_ty (t u : String) (Q : V → H → Prop) : cmpop .is (.ty u) (.ty t) h Q = Q (.bool (decide (u = t))) h := rfl
@[simp] theorem cmpop_isnt_ty (t u : String) (Q : V → H → Prop) : cmpop .isnt (.ty u) (.ty t) h Q = Q (.bool (!decide (u = t))) h := rfl
noncomputable def strK (o : Option String) (K : String → Prop) : Prop := match o with
  | some t => K t
  | Option.none => False
@[simp] theorem strK_some (t : String) (K : String → Prop) : strK (some t) K = K t := rfl
@[simp] theorem bfn_type (v : V) (Q : V → H → Prop) : bfnW G .type [v] h Q = strK (typeN v h) fun t => Q (.ty t) h := rfl
@[simp] theorem typeN_none : typeN .none h = some "NoneType" := rfl
@[simp] theorem typeN_bool (b : Bool) : typeN (.bool b) h = some "bool" := rfl
@[simp] theorem typeN_int (i : Int) : typeN (.int i) h = some "int" := rfl
@[simp] theorem ev_var (x : String) (Q : V → H → Prop) : ev G (.var x) σ h Q = optK (σ x) fun v => Q v h := rfl
@[simp] theorem ev_glob (x : String) (Q : V → H → Prop) : ev G (.glob x) σ h Q = optK (G.gc x) fun v => Q v h := rfl
@[simp] theorem ev_bin (op : Op) (a b : PE) (Q : V → H → Prop) : ev G (.bin op a b) σ h Q = ev G a σ h fun va h₁ => ev G b σ h₁ fun vb h₂ => binop op va vb h₂ Q := rfl
@[simp] theorem ev_neg (a : PE) (Q : V → H → Prop) : ev G (.neg a) σ h Q = ev G a σ h fun va h₁ => negW va h₁ Q := rfl
@[simp] theorem ev_not (a : PE) (Q : V → H → Prop) : ev G (.not a) σ h Q = ev G a σ h fun va h₁ => truth va fun b => Q (.bool (!b)) h₁ := rfl
@[simp] theorem ev_cmp (op : Cm) (a b : PE) (Q : V → H → Prop) : ev G (.cmp op a b) σ h Q = ev G a σ h fun va h₁ => ev G b σ h₁ fun vb h₂ => cmpop op va vb h₂ Q := rfl
@[simp] theorem ev_band (es : PEs) (Q : V → H → Prop) : ev G (.band es) σ h Q = evAnd G es σ h Q := rfl
@[simp] theorem ev_bor (es : PEs) (Q : V → H → Prop) : ev G (.bor es) σ h Q = evOr G es σ h Q := rfl
@[simp] theorem ev_sub (a i : PE) (Q : V → H → Prop) : ev G (.sub a i) σ h Q = ev G a σ h fun va h₁ => ev G i σ h₁ fun vi h₂ => subW G va vi h₂ Q := rfl
@[simp] theorem ev_take (a e : PE) (Q : V → H → Prop) : ev G (.take a e) σ h Q = ev G a σ h fun va h₁ => ev G e σ h₁ fun vi h₂ => ofL va h₂ fun xs => natI vi fun k => alloc (.list (xs.take k)) h₂ Q := rfl
@[simp] theorem ev_drop (a e : PE) (Q : V → H → Prop) : ev G (.drop a e) σ h Q = ev G a σ h fun va h₁ => ev G e σ h₁ fun vi h₂ => ofL va h₂ fun xs => natI vi fun k => alloc (.list (xs.drop k)) h₂ Q := rfl
@[simp] theorem ofL_r (a : Nat) (K : List V → Prop) : ofL (.ref a) h K = listK (h a) K := rfl
@[simp] theorem natI_i (i : Int) (K : Nat → Prop) : natI (.int i) K = (0 ≤ i ∧ K i.toNat) := rfl
@[simp] theorem binop_addL (a b : Nat) (Q : V → H → Prop) : binop .add (.ref a) (.ref b) h Q = listK (h a) fun xs => listK (h b) fun ys => xs.length + ys.length ≤ lim ∧ alloc (.list (xs ++ ys)) h Q := rfl
@[simp] theorem ev_list (es : PEs) (Q : V → H → Prop) : ev G (.list es) σ h Q = evs G es σ h fun vs h₁ => alloc (.list vs) h₁ Q := rfl
@[simp] theorem ev_tup (es : PEs) (Q : V → H → Prop) : ev G (.tup es) σ h Q = evs G es σ h fun vs h₁ => alloc (.tup vs) h₁ Q := rfl
@[simp] theorem ev_call (f : String) (es : PEs) (Q : V → H → Prop) : ev G (.call f es) σ h Q = evs G es σ h fun vs h₁ => G.Γ f vs h₁ Q := rfl
@[simp] theorem ev_bfn (f : Bf) (es : PEs) (Q : V → H → Prop) : ev G (.bfn f es) σ h Q = evs G es σ h fun vs h₁ => bfnW G f vs h₁ Q := rfl
@[simp] theorem ev_meth (a : PE) (m : Mt) (es : PEs) (Q : V → H → Prop) : ev G (.meth a m es) σ h Q = ev G a σ h fun va h₁ => isL va h₁ ∧ evs G es σ h₁ fun vs h₂ => methW m va vs h₂ Q := rfl
@[simp] theorem ev_comp (elt : PE) (t : Tg) (src : Src) (ifs : PEs) (Q : V → H → Prop) : ev G (.comp elt t src ifs) σ h Q = evSrc G src σ h fun xs k h₁ =>
      compW (fun v h K => tgW t v σ h fun σ' => condAnd G ifs σ' h fun b h' => if b then ev G elt σ' h' fun w h'' => K (some w) h'' else K Option.none h') k xs [] h₁
        fun ys h₂ => stays k h₂ ∧ alloc (.list ys) h₂ Q := rfl
@[simp] theorem evs_nil (Q : List V → H → Prop) : evs G .nil σ h Q = Q [] h := rfl
@[simp] theorem evs_cons (e : PE) (r : PEs) (Q : List V → H → Prop) : evs G (.cons e r) σ h Q = ev G e σ h fun v h₁ => evs G r σ h₁ fun vs h₂ => Q (v :: vs) h₂ := rfl
@[simp] theorem evAnd_one (e : PE) (Q : V → H → Prop) : evAnd G (.cons e .nil) σ h Q = ev G e σ h Q := rfl
@[simp] theorem evAnd_cons (e e' : PE) (r : PEs) (Q : V → H → Prop) : evAnd G (.cons e (.cons e' r)) σ h Q = ev G e σ h fun v h₁ => truth v fun b => if b then evAnd G (.cons e' r) σ h₁ Q else Q v h₁ := rfl
@[simp] theorem evOr_one (e : PE) (Q : V → H → Prop) : evOr G (.cons e .nil) σ h Q = ev G e σ h Q := rfl
@[simp] theorem evOr_cons (e e' : PE) (r : PEs) (Q : V → H → Prop) : evOr G (.cons e (.cons e' r)) σ h Q = ev G e σ h fun v h₁ => truth v fun b => if b then Q v h₁ else evOr G (.cons e' r) σ h₁ Q := rfl
@[simp] theorem cond_not (a : PE) (Q : Bool → H → Prop) : cond G (.not a) σ h Q = cond G a σ h fun b h₁ => Q (!b) h₁ := rfl
@[simp] theorem cond_band (es : PEs) (Q : Bool → H → Prop) : cond G (.band es) σ h Q = condAnd G es σ h Q := rfl
@[simp] theorem cond_bor (es : PEs) (Q : Bool → H → Prop) : cond G (.bor es) σ h Q = condOr G es σ h Q := rfl
@[simp] theorem cond_cmp (op : Cm) (a b : PE) (Q : Bool → H → Prop) : cond G (.cmp op a b) σ h Q = ev G a σ h fun va h₁ => ev G b σ h₁ fun vb h₂ => cmpop op va vb h₂ fun v h₃ => truth v fun r => Q r h₃ := rfl
@[simp] theorem cond_bool (b : Bool) (Q : Bool → H → Prop) : cond G (.bool b) σ h Q = Q b h := rfl
@[simp] theorem cond_var (x : String) (Q : Bool → H → Prop) : cond G (.var x) σ h Q = optK (σ x) fun v => truth v fun b => Q b h := rfl
@[simp] theorem cond_sub (a i : PE) (Q : Bool → H → Prop) : cond G (.sub a i) σ h Q = ev G a σ h fun va h₁ => ev G i σ h₁ fun vi h₂ => subW G va vi h₂ fun v h₃ => truth v fun r => Q r h₃ := rfl
@[simp] theorem cond_call (f : String) (es : PEs) (Q : Bool → H → Prop) : cond G (.call f es) σ h Q = evs G es σ h fun vs h₁ => G.Γ f vs h₁ fun v h₂ => truth v fun r => Q r h₂ := rfl
@[simp] theorem cond_bfn (f : Bf) (es : PEs) (Q : Bool → H → Prop) : cond G (.bfn f es) σ h Q = evs G es σ h fun vs h₁ => bfnW G f vs h₁ fun v h₂ => truth v fun r => Q r h₂ := rfl
@[simp] theorem condAnd_nil (Q : Bool → H → Prop) : condAnd G .nil σ h Q = Q true h := rfl
@[simp] theorem condAnd_cons (e : PE) (r : PEs) (Q : Bool → H → Prop) : condAnd G (.cons e r) σ h Q = cond G e σ h fun b h₁ => if b then condAnd G r σ h₁ Q else Q false h₁ := rfl
@[simp] theorem condOr_nil (Q : Bool → H → Prop) : condOr G .nil σ h Q = Q false h := rfl
@[simp] theorem condOr_cons (e : PE) (r : PEs) (Q : Bool → H → Prop) : condOr G (.cons e r) σ h Q = cond G e σ h fun b h₁ => if b then Q true h₁ else condOr G r σ h₁ Q := rfl
/-- a bounded range -/
noncomputable def upK (va : V) (h : H) (K : SrcK) : Prop := match va with
  | .int n => inLim n ∧ K ((upTo 0 n).map .int) Option.none h
  | _ => False
noncomputable def fromToK (va vb : V) (h : H) (K : SrcK) : Prop := match va, vb with
  | .int m, .int n => inLim m ∧ inLim n ∧ K ((upTo m n).map .int) Option.none h
  | _, _ => False
noncomputable def seqK (va : V) (h : H) (K : SrcK) : Prop := match va with
  | .ref a => (match h a with
    | some (.list xs) => K xs (some (a, xs)) h
    | _ => False)
  | _ => False
@[simp] theorem upK_int (n : Int) (K : SrcK) : upK (.int n) h K = (inLim n ∧ K ((upTo 0 n).map .int) Option.none h) := rfl
@[simp] theorem fromToK_int (m n : Int) (K : SrcK) : fromToK (.int m) (.int n) h K = (inLim m ∧ inLim n ∧ K ((upTo m n).map .int) Option.none h) := rfl
@[simp] theorem seqK_ref (a : Nat) (K : SrcK) : seqK (.ref a) h K = listK (h a) fun xs => K xs (some (a, xs)) h := rfl
@[simp] theorem evSrc_up (a : PE) (K : SrcK) : evSrc G (.up a) σ h K = ev G a σ h fun va h₁ => upK va h₁ K := rfl
@[simp] theorem evSrc_fromTo (a b : PE) (K : SrcK) : evSrc G (.fromTo a b) σ h K = ev G a σ h fun va h₁ => ev G b σ h₁ fun vb h₂ => fromToK va vb h₂ K := rfl
@[simp] theorem evSrc_seq (e : PE) (K : SrcK) : evSrc G (.seq e) σ h K = ev G e σ h fun va h₁ => seqK va h₁ K := rfl

noncomputable def noneK (v : V) (Q : Prop) : Prop := match v with
  | .none => Q
  | _ => False
@[simp] theorem noneK_none (Q : Prop) : noneK .none Q = Q := rfl
@[simp] theorem exec_assign (x : String) (e : PE) (Q : Flow → Env → H → Prop) : exec G (.assign (.tg (.name x)) e) σ h Q = ev G e σ h fun v h₁ => Q .next (upd σ x v) h₁ := rfl
@[simp] theorem exec_set (a i e : PE) (Q : Flow → Env → H → Prop) : exec G (.assign (.sub a i) e) σ h Q = ev G e σ h fun v h₁ => ev G a σ h₁ fun va h₂ => ev G i σ h₂ fun vi h₃ => setSub va vi v h₃ fun h₄ => Q .next σ h₄ := rfl
@[simp] theorem exec_expr (e : PE) (Q : Flow → Env → H → Prop) : exec G (.expr e) σ h Q = ev G e σ h fun v h₁ => noneK v (Q .next σ h₁) := rfl
@[simp] theorem exec_ite (c : PE) (a b : PSs) (Q : Flow → Env → H → Prop) : exec G (.ite c a b) σ h Q = cond G c σ h fun r h₁ => if r then execs G a σ h₁ Q else execs G b σ h₁ Q := rfl
@[simp] theorem exec_whl (c : PE) (b : PSs) (Q : Flow → Env → H → Prop) : exec G (.whl c b) σ h Q = ∃ n, whileW (fun σ h K => cond G c σ h K) (fun σ h K => execs G b σ h K) n σ h Q := rfl
@[simp] theorem exec_fr (t : Tg) (src : Src) (b : PSs) (Q : Flow → Env → H → Prop) : exec G (.fr t src b) σ h Q = evSrc G src σ h fun xs k h₁ => forW (fun v σ h K => tgW t v σ h fun σ' => execs G b σ' h K) k xs σ h₁ Q := rfl
@[simp] theorem exec_ret (e : PE) (Q : Flow → Env → H → Prop) : exec G (.ret e) σ h Q = ev G e σ h fun v h₁ => Q (.ret v) σ h₁ := rfl
@[simp] theorem execs_nil (Q : Flow → Env → H → Prop) : execs G .nil σ h Q = Q .next σ h := rfl
/-- what follows a statement -/
noncomputable def thenK (G : Par) (r : PSs) (Q : Flow → Env → H → Prop) (f : Flow) (σ : Env) (h : H) : Prop := match f with
  | .next => execs G r σ h Q
  | .ret v => Q (.ret v) σ h
@[simp] theorem thenK_next (r : PSs) (Q : Flow → Env → H → Prop) : thenK G r Q .next σ h = execs G r σ h Q := rfl
@[simp] theorem thenK_ret (r : PSs) (Q : Flow → Env → H → Prop) (v : V) : thenK G r Q (.ret v) σ h = Q (.ret v) σ h := rfl
@[simp] theorem execs_cons (s : PS) (r : PSs) (Q : Flow → Env → H → Prop) : execs G (.cons s r) σ h Q = exec G s σ h (thenK G r Q) := rfl
/-- what a call hands back -/
noncomputable def retK (Q : V → H → Prop) (f : Flow) (_ : Env) (h : H) : Prop := match f with
  | .ret v => Q v h
  | .next => Q .none h
@[simp] theorem retK_ret (Q : V → H → Prop) (v : V) : retK Q (.ret v) σ h = Q v h := rfl
@[simp] theorem retK_next (Q : V → H → Prop) : retK Q .next σ h = Q .none h := rfl
theorem runFn_of {d : Fn} {vs : List V} {Q : V → H → Prop} (hl : d.params.length = vs.length) (hq : execs G d.body (bindP d.params vs) h (retK Q)) : runFn G d vs h Q := by
  refine ⟨hl, ?_⟩
  have : (fun (fl : Flow) (_ : Env) (h' : H) => Q (match fl with | .ret v => v | .next => .none) h') = retK Q := by
    funext fl σ h; cases fl <;> rfl
  rw [← this] at hq; exact hq
@[simp] theorem bindP_nil : bindP [] [] = fun _ => Option.none := rfl
@[simp] theorem bindP_cons (x : String) (xs : List String) (v : V) (vs : List V) : bindP (x :: xs) (v :: vs) = upd (bindP xs vs) x v := rfl
end MP

end
section
namespace MP.Core
open MP
noncomputable def path_to_b2 : PSs :=
  (.cons (.assign (.tg (.name "at")) (.sub (.var "previous") (.var "at")))
  (.cons (.expr (.meth (.var "path") .append (.cons (.var "at") .nil)))
  .nil))
noncomputable def path_to_b1 : PSs :=
  (.cons (.ite (.cmp .ne (.var "at") (.var "source"))
  path_to_b2 .nil)
  .nil)
noncomputable def path_to_body : PSs :=
  (.cons (.ite (.cmp .eq (.var "source") (.var "target"))
  (.cons (.ret (.list (.cons (.var "source") .nil)))
  .nil) .nil)
  (.cons (.ite (.cmp .is (.sub (.var "previous") (.var "target")) .none)
  (.cons (.ret (.list .nil))
  .nil) .nil)
  (.cons (.assign (.tg (.name "path")) (.list (.cons (.var "target") .nil)))
  (.cons (.assign (.tg (.name "at")) (.var "target"))
  (.cons (.fr (.name "_") (.up (.bfn .len (.cons (.var "previous") .nil))) path_to_b1)
  (.cons (.expr (.meth (.var "path") .reverse .nil))
  (.cons (.ret (.var "path"))
  .nil)))))))
noncomputable def path_to_fn : Fn := ⟨["previous", "source", "target"], path_to_body⟩
noncomputable def capacity_table_b1 : PSs :=
  (.cons (.assign (.sub (.sub (.var "table") (.sub (.var "e") (.int 0))) (.sub (.var "e") (.int 1))) (.bin .add (.sub (.sub (.var "table") (.sub (.var "e") (.int 0))) (.sub (.var "e") (.int 1))) (.sub (.var "e") (.int 2))))
  .nil)
noncomputable def capacity_table_body : PSs :=
  (.cons (.assign (.tg (.name "table")) (.comp (.comp (.int 0) (.name "v") (.up (.var "n")) .nil) (.name "u") (.up (.var "n")) .nil))
  (.cons (.fr (.name "e") (.seq (.var "edges")) capacity_table_b1)
  (.cons (.ret (.var "table"))
  .nil)))
noncomputable def capacity_table_fn : Fn := ⟨["n", "edges"], capacity_table_body⟩
noncomputable def augmenting_path_b3 : PSs :=
  (.cons (.assign (.sub (.var "previous") (.var "v")) (.var "u"))
  (.cons (.expr (.meth (.var "queue") .append (.cons (.var "v") .nil)))
  .nil))
noncomputable def augmenting_path_b2 : PSs :=
  (.cons (.ite (.band (.cons (.cmp .gt (.sub (.sub (.var "residual") (.var "u")) (.var "v")) (.int 0)) (.cons (.cmp .ne (.var "v") (.var "source")) (.cons (.cmp .is (.sub (.var "previous") (.var "v")) .none) .nil))))
  augmenting_path_b3 .nil)
  .nil)
noncomputable def augmenting_path_b1 : PSs :=
  (.cons (.assign (.tg (.name "u")) (.sub (.var "queue") (.var "place")))
  (.cons (.assign (.tg (.name "place")) (.bin .add (.var "place") (.int 1)))
  (.cons (.fr (.name "v") (.up (.var "n")) augmenting_path_b2)
  .nil)))
noncomputable def augmenting_path_body : PSs :=
  (.cons (.assign (.tg (.name "previous")) (.comp .none (.name "v") (.up (.var "n")) .nil))
  (.cons (.assign (.tg (.name "queue")) (.list (.cons (.var "source") .nil)))
  (.cons (.assign (.tg (.name "place")) (.int 0))
  (.cons (.whl (.cmp .lt (.var "place") (.bfn .len (.cons (.var "queue") .nil))) augmenting_path_b1)
  (.cons (.ret (.call "path_to" (.cons (.var "previous") (.cons (.var "source") (.cons (.var "sink") .nil)))))
  .nil)))))
noncomputable def augmenting_path_fn : Fn := ⟨["n", "residual", "source", "sink"], augmenting_path_body⟩
noncomputable def max_flow_b2 : PSs :=
  (.cons (.assign (.tg (.name "u")) (.sub (.var "path") (.bin .sub (.var "i") (.int 1))))
  (.cons (.assign (.tg (.name "v")) (.sub (.var "path") (.var "i")))
  (.cons (.assign (.sub (.sub (.var "room") (.var "u")) (.var "v")) (.bin .sub (.sub (.sub (.var "room") (.var "u")) (.var "v")) (.var "narrowest")))
  (.cons (.assign (.sub (.sub (.var "room") (.var "v")) (.var "u")) (.bin .add (.sub (.sub (.var "room") (.var "v")) (.var "u")) (.var "narrowest")))
  .nil))))
noncomputable def max_flow_b1 : PSs :=
  (.cons (.assign (.tg (.name "narrowest")) (.bfn .min (.cons (.comp (.sub (.sub (.var "room") (.sub (.var "path") (.bin .sub (.var "i") (.int 1)))) (.sub (.var "path") (.var "i"))) (.name "i") (.fromTo (.int 1) (.bfn .len (.cons (.var "path") .nil))) .nil) .nil)))
  (.cons (.fr (.name "i") (.fromTo (.int 1) (.bfn .len (.cons (.var "path") .nil))) max_flow_b2)
  (.cons (.assign (.tg (.name "path")) (.call "augmenting_path" (.cons (.var "n") (.cons (.var "room") (.cons (.var "source") (.cons (.var "sink") .nil))))))
  .nil)))
noncomputable def max_flow_body : PSs :=
  (.cons (.assign (.tg (.name "capacity")) (.call "capacity_table" (.cons (.var "n") (.cons (.var "edges") .nil))))
  (.cons (.assign (.tg (.name "room")) (.comp (.bfn .list (.cons (.var "row") .nil)) (.name "row") (.seq (.var "capacity")) .nil))
  (.cons (.assign (.tg (.name "path")) (.list .nil))
  (.cons (.ite (.cmp .ne (.var "source") (.var "sink"))
  (.cons (.assign (.tg (.name "path")) (.call "augmenting_path" (.cons (.var "n") (.cons (.var "room") (.cons (.var "source") (.cons (.var "sink") .nil))))))
  .nil) .nil)
  (.cons (.whl (.cmp .gt (.bfn .len (.cons (.var "path") .nil)) (.int 0)) max_flow_b1)
  (.cons (.ret (.comp (.comp (.bfn .max (.cons (.bin .sub (.sub (.sub (.var "capacity") (.var "u")) (.var "v")) (.sub (.sub (.var "room") (.var "u")) (.var "v"))) (.cons (.int 0) .nil))) (.name "v") (.up (.var "n")) .nil) (.name "u") (.up (.var "n")) .nil))
  .nil))))))
noncomputable def max_flow_fn : Fn := ⟨["n", "edges", "source", "sink"], max_flow_body⟩
noncomputable def flow_value_body : PSs :=
  (.cons (.ret (.bin .sub (.bfn .sum (.cons (.sub (.var "flow") (.var "source")) .nil)) (.bfn .sum (.cons (.comp (.sub (.var "row") (.var "source")) (.name "row") (.seq (.var "flow")) .nil) .nil))))
  .nil)
noncomputable def flow_value_fn : Fn := ⟨["flow", "source"], flow_value_body⟩
noncomputable def source_side_b3 : PSs :=
  (.cons (.assign (.sub (.var "side") (.var "v")) (.bool true))
  (.cons (.expr (.meth (.var "queue") .append (.cons (.var "v") .nil)))
  .nil))
noncomputable def source_side_b2 : PSs :=
  (.cons (.ite (.band (.cons (.not (.sub (.var "side") (.var "v"))) (.cons (.bor (.cons (.cmp .lt (.sub (.sub (.var "flow") (.var "u")) (.var "v")) (.sub (.sub (.var "capacity") (.var "u")) (.var "v"))) (.cons (.cmp .gt (.sub (.sub (.var "flow") (.var "v")) (.var "u")) (.int 0)) .nil))) .nil)))
  source_side_b3 .nil)
  .nil)
noncomputable def source_side_b1 : PSs :=
  (.cons (.assign (.tg (.name "u")) (.sub (.var "queue") (.var "place")))
  (.cons (.assign (.tg (.name "place")) (.bin .add (.var "place") (.int 1)))
  (.cons (.fr (.name "v") (.up (.var "n")) source_side_b2)
  .nil)))
noncomputable def source_side_body : PSs :=
  (.cons (.assign (.tg (.name "capacity")) (.call "capacity_table" (.cons (.var "n") (.cons (.var "edges") .nil))))
  (.cons (.assign (.tg (.name "side")) (.comp (.bool false) (.name "v") (.up (.var "n")) .nil))
  (.cons (.assign (.sub (.var "side") (.var "source")) (.bool true))
  (.cons (.assign (.tg (.name "queue")) (.list (.cons (.var "source") .nil)))
  (.cons (.assign (.tg (.name "place")) (.int 0))
  (.cons (.whl (.cmp .lt (.var "place") (.bfn .len (.cons (.var "queue") .nil))) source_side_b1)
  (.cons (.ret (.var "side"))
  .nil)))))))
noncomputable def source_side_fn : Fn := ⟨["n", "edges", "flow", "source"], source_side_body⟩
end MP.Core

end
section
namespace MP
open PySem (PyData)

noncomputable abbrev iv (n : Nat) : V := .int (n : Nat)
noncomputable def optV : Option Nat → V
  | Option.none => .none
  | some u => iv u
@[simp] theorem optV_none : (optV Option.none = V.none) = True := by simp [optV]
@[simp] theorem optV_some (u : Nat) : optV (some u) = iv u := rfl

/-- a new list is handed back, nothing old is changed -/
noncomputable abbrev Ret (h : H) (Q : V → H → Prop) (xs : List V) : Prop := ∀ r h', h r = Option.none → Ext h h' → h' r = some (.list xs) → Q (.ref r) h'

theorem set_set (h : H) (a : Nat) (o o' : O) : (h.set a o).set a o' = h.set a o' := by
  funext b; unfold H.set; split <;> rfl
theorem ne_of_none {h : H} {a b : Nat} {o : O} (ha : h a = some o) (hb : h b = Option.none) : a ≠ b := fun e => by rw [e, hb] at ha; cases ha

theorem path_to_same {G : Par} {a s : Nat} {h : H} {Q : V → H → Prop} (hQ : Ret h Q [iv s]) : runFn G Core.path_to_fn [.ref a, iv s, iv s] h Q := by
  refine runFn_of rfl ?_
  simp [Core.path_to_fn, Core.path_to_body, alloc]
  intro r hr
  exact hQ r _ hr (Ext.new _ hr) (by simp)

theorem path_to_none {G : Par} {n a s t : Nat} {prev : Nat → Option Nat} {h : H} {Q : V → H → Prop} (ha : h a = some (.list (arr n fun v => optV (prev v)))) (hst : s ≠ t) (ht : t < n) (hp : prev t = Option.none) (hQ : Ret h Q []) :
    runFn G Core.path_to_fn [.ref a, iv s, iv t] h Q := by
  refine runFn_of rfl ?_
  have hst' : ¬ ((s : Int) = (t : Int)) := by (first | lia | omega)
  simp [Core.path_to_fn, Core.path_to_body, alloc, ha, getIdx_arr, ht, hp, hst']
  intro r hr
  exact hQ r _ hr (Ext.new _ hr) (by simp)

theorem rev_range (k : Nat) (p : Nat → Nat) : ((List.range (k + 1)).map fun i => iv (p (k - i))).reverse = (List.range (k + 1)).map fun i => iv (p i) := by
  apply List.ext_getElem?
  intro i
  by_cases hi : i < k + 1
  · rw [List.getElem?_reverse (by simpa using hi)]
    simp only [List.length_map, List.length_range]
    rw [List.getElem?_map, List.getElem?_range (by (first | lia | omega)), List.getElem?_map, List.getElem?_range hi]
    simp only [Option.map_some]
    rw [show k - (k + 1 - 1 - i) = i by (first | lia | omega)]
  · rw [List.getElem?_eq_none (by simp; (first | lia | omega)), List.getElem?_eq_none (by simp; (first | lia | omega))]

theorem path_to_chain {G : Par} {n a s t k : Nat} {prev : Nat → Option Nat} {p : Nat → Nat} {h : H} {Q : V → H → Prop} (ha : h a = some (.list (arr n fun v => optV (prev v)))) (hn : n ≤ 1000)
    (hst : s ≠ t) (h0 : p 0 = s) (hk : p k = t) (hkn : k ≤ n) (hp : ∀ i, i < k → p (i + 1) < n ∧ prev (p (i + 1)) = some (p i) ∧ p (i + 1) ≠ s) (hQ : Ret h Q ((List.range (k + 1)).map fun i => iv (p i))) :
    runFn G Core.path_to_fn [.ref a, iv s, iv t] h Q := by
  refine runFn_of rfl ?_
  have hst' : ¬ ((s : Int) = (t : Int)) := by (first | lia | omega)
  have k1 : 1 ≤ k := by
    rcases Nat.eq_zero_or_pos k with e | e
    · rw [e, h0] at hk; exact absurd hk hst
    · exact e
  obtain ⟨g1, g2, g3⟩ := hp (k - 1) (by (first | lia | omega))
  rw [show k - 1 + 1 = k by (first | lia | omega), hk] at g1 g2 g3
  have hnl : inLim (n : Int) := by unfold inLim; (first | lia | omega)
  simp [Core.path_to_fn, Core.path_to_body, alloc, ha, getIdx_arr, g1, g2, hst', hnl]
  intro r hr
  have har : a ≠ r := ne_of_none ha hr
  simp [har, ha, hnl]
  refine forW_range (fun j σ h' => σ "previous" = some (.ref a) ∧ σ "source" = some (iv s) ∧ σ "path" = some (.ref r) ∧ σ "at" = some (iv (p (k - j))) ∧ h' = h.set r (.list ((List.range (min j k + 1)).map fun i => iv (p (k - i))))) ?_ ?_ ?_
  · simp [hk]
  · rintro j σ h' K hj ⟨e1, e2, e3, e4, rfl⟩ hK
    simp [Core.path_to_b1, e1, e2, e3, e4]
    by_cases hjk : j < k
    · obtain ⟨q1, q2, q3⟩ := hp (k - j - 1) (by (first | lia | omega))
      rw [show k - j - 1 + 1 = k - j by (first | lia | omega)] at q1 q2 q3
      have q3' : ¬ ((p (k - j) : Int) = (s : Int)) := by (first | lia | omega)
      simp [q3', Core.path_to_b2, e1, e2, e3, e4, har, ha, getIdx_arr, q1, q2]
      refine ⟨by unfold lim; (first | lia | omega), hK _ _ ⟨by simp [e1], by simp [e2], by simp [e3], by simp; congr 1, ?_⟩⟩
      rw [set_set, show min (j + 1) k + 1 = (min j k + 1) + 1 by (first | lia | omega), List.range_succ (n := min j k + 1), List.map_append]
      congr 3
      simp
      congr 2; (first | lia | omega)
    · have : p (k - j) = s := by rw [show k - j = 0 by (first | lia | omega), h0]
      simp [this]
      exact hK _ _ ⟨by simp [e1], by simp [e2], by simp [e3], by simp [e4, this, show k - (j + 1) = 0 by (first | lia | omega), h0], by rw [show min (j + 1) k = min j k by (first | lia | omega)]⟩
  · rintro σ h' ⟨e1, e2, e3, e4, rfl⟩
    simp [e3, set_set]
    rw [show min n k = k by (first | lia | omega), rev_range]
    exact hQ r _ hr (Ext.new _ hr) (by simp)
end MP

end
section
namespace MP
open PySem (PyData)

noncomputable abbrev Edge := Nat × Nat × Int
noncomputable def edgeD (e : Edge) : PyData := .tuple [.int (e.1 : Nat), .int (e.2.1 : Nat), .int e.2.2]
noncomputable def edgesD (es : List Edge) : PyData := .list (es.map edgeD)

theorem rd_list {h : H} {v : V} {ds : List PyData} (r : Rd h v (.list ds)) : ∃ a xs, v = .ref a ∧ h a = some (.list xs) ∧ RdAll h xs ds := by
  cases r with
  | list e r => exact ⟨_, _, rfl, e, r⟩
theorem rd_tup {h : H} {v : V} {ds : List PyData} (r : Rd h v (.tuple ds)) : ∃ a xs, v = .ref a ∧ h a = some (.tup xs) ∧ RdAll h xs ds := by
  cases r with
  | tup e r => exact ⟨_, _, rfl, e, r⟩
theorem rd_int {h : H} {v : V} {i : Int} (r : Rd h v (.int i)) : v = .int i := by cases r; rfl
theorem rd_edge {h : H} {v : V} {e : Edge} (r : Rd h v (edgeD e)) : ∃ b, v = .ref b ∧ h b = some (.tup [iv e.1, iv e.2.1, .int e.2.2]) := by
  obtain ⟨b, xs, rfl, h1, h2⟩ := rd_tup r
  cases h2 with
  | cons a r =>
    cases r with
    | cons b r =>
      cases r with
      | cons c r =>
        cases r
        rw [rd_int a, rd_int b, rd_int c] at h1
        exact ⟨_, rfl, h1⟩
theorem rd_edges {h : H} {a : Nat} {es : List Edge} (r : Rd h (.ref a) (edgesD es)) : ∃ xs, h a = some (.list xs) ∧ xs.length = es.length ∧ ∀ (i : Nat) e, es[i]? = some e → ∃ b, xs[i]? = some (.ref b) ∧ h b = some (.tup [iv e.1, iv e.2.1, .int e.2.2]) := by
  obtain ⟨a', xs, e, h1, h2⟩ := rd_list r
  cases e
  refine ⟨xs, h1, by simpa using h2.length, fun i e he => ?_⟩
  obtain ⟨v, h3, h4⟩ := h2.get (i := i) (d := edgeD e) (by rw [List.getElem?_map, he]; rfl)
  obtain ⟨b, rfl, h5⟩ := rd_edge h4
  exact ⟨b, h3, h5⟩

/-- a table of n rows of n ints -/
structure Tab (h : H) (t n : Nat) (rows : Nat → Nat) (M : Nat → Nat → Int) : Prop where
  top : h t = some (.list (arr n fun i => .ref (rows i)))
  row : ∀ i, i < n → h (rows i) = some (.list (arr n fun j => .int (M i j)))
  inj : ∀ i j, i < n → j < n → rows i = rows j → i = j
  ne : ∀ i, i < n → rows i ≠ t

theorem Tab.ext {h h' : H} {t n : Nat} {rows : Nat → Nat} {M : Nat → Nat → Int} (T : Tab h t n rows M) (x : Ext h h') : Tab h' t n rows M :=
  ⟨x _ _ T.top, fun i hi => x _ _ (T.row i hi), T.inj, T.ne⟩
theorem Tab.congr {h : H} {t n : Nat} {rows : Nat → Nat} {M N : Nat → Nat → Int} (T : Tab h t n rows M) (e : ∀ i j, i < n → j < n → M i j = N i j) : Tab h t n rows N :=
  ⟨T.top, fun i hi => by rw [T.row i hi]; congr 2; exact arr_congr fun j hj => by rw [e i j hi hj], T.inj, T.ne⟩

noncomputable def put2 (M : Nat → Nat → Int) (u v : Nat) (x : Int) : Nat → Nat → Int := fun i j => if i = u ∧ j = v then x else M i j

theorem Tab.put {h : H} {t n : Nat} {rows : Nat → Nat} {M : Nat → Nat → Int} (T : Tab h t n rows M) {u : Nat} (v : Nat) (x : Int) (hu : u < n) :
    Tab (h.set (rows u) (.list ((arr n fun j => .int (M u j)).set v (.int x)))) t n rows (put2 M u v x) := by
  refine ⟨?_, fun i hi => ?_, T.inj, T.ne⟩
  · rw [H.set_other _ _ (fun e => T.ne u hu e.symm)]; exact T.top
  · by_cases q : i = u
    · subst q
      rw [H.set_self, arr_set]
      congr 2
      refine arr_congr fun j _ => ?_
      unfold put2; split <;> simp_all
    · rw [H.set_other _ _ (fun e => q (T.inj _ _ hi hu e)), T.row i hi]
      congr 2
      refine arr_congr fun j _ => ?_
      unfold put2; rw [if_neg (fun e => q e.1)]

noncomputable def tabD (n : Nat) (M : Nat → Nat → Int) : PyData := .list ((List.range n).map fun i => .list ((List.range n).map fun j => .int (M i j)))
theorem rd_ints {h : H} {n : Nat} {f : Nat → Int} : RdAll h (arr n fun j => .int (f j)) ((List.range n).map fun j => .int (f j)) := by
  refine RdAll.of_get (by simp) fun i v d h1 h2 => ?_
  by_cases hi : i < n
  · rw [arr_get _ hi] at h1
    simp [hi] at h2
    cases h1; rw [← h2]; exact .int _
  · rw [List.getElem?_eq_none (by simp; (first | lia | omega))] at h1; cases h1
theorem Tab.rd {h : H} {t n : Nat} {rows : Nat → Nat} {M : Nat → Nat → Int} (T : Tab h t n rows M) : Rd h (.ref t) (tabD n M) := by
  refine .list T.top (RdAll.of_get (by simp) fun i v d h1 h2 => ?_)
  by_cases hi : i < n
  · rw [arr_get _ hi] at h1
    simp [hi] at h2
    cases h1; rw [← h2]
    exact .list (T.row i hi) rd_ints
  · rw [List.getElem?_eq_none (by simp; (first | lia | omega))] at h1; cases h1

theorem stays_ext {kp : Option (Nat × List V)} {h h' : H} (s : stays kp h) (x : Ext h h') : stays kp h' := by
  cases kp with
  | none => trivial
  | some p => exact x _ _ s

@[simp] theorem upTo_arr (n : Nat) : (upTo 0 n).map V.int = arr n iv := by rw [upTo_zero, List.map_map]; rfl
theorem forW_arr {turn : V → Env → H → (Flow → Env → H → Prop) → Prop} {Q : Flow → Env → H → Prop} {n : Nat} (I : Nat → Env → H → Prop) {σ : Env} {h : H} (h0 : I 0 σ h)
    (step : ∀ i σ h K, i < n → I i σ h → (∀ σ' h', I (i + 1) σ' h' → K Flow.next σ' h') → turn (iv i) σ h K) (fin : ∀ σ h, I n σ h → Q .next σ h) : forW turn Option.none (arr n iv) σ h Q := by
  rw [← upTo_arr]; exact forW_range I h0 step fin
theorem compW_arr {turn : V → H → (Option V → H → Prop) → Prop} {Q : List V → H → Prop} {h : H} {n : Nat} (g : Nat → V) (step : ∀ i < n, ∀ K : Option V → H → Prop, K (some (g i)) h → turn (iv i) h K) (hQ : Q (arr n g) h) :
    compW turn Option.none (arr n iv) [] h Q := by
  rw [← upTo_arr]; exact compW_range g step hQ

/-- a comprehension whose every turn makes a new list -/
theorem compW_rows {turn : V → H → (Option V → H → Prop) → Prop} {kp : Option (Nat × List V)} {Q : List V → H → Prop} {h : H} {n m : Nat} (x : Nat → V) (g : Nat → Nat → V) (hst : stays kp h)
    (step : ∀ i, i < n → ∀ h' (K : Option V → H → Prop), Ext h h' → (∀ r, h' r = Option.none → K (some (.ref r)) (h'.set r (.list (arr m (g i))))) → turn (x i) h' K)
    (fin : ∀ (rows : Nat → Nat) h', Ext h h' → (∀ i, i < n → h (rows i) = Option.none ∧ h' (rows i) = some (.list (arr m (g i)))) → (∀ i j, i < n → j < n → rows i = rows j → i = j) → Q (arr n fun i => .ref (rows i)) h') :
    compW turn kp (arr n x) [] h Q := by
  suffices H : ∀ (k i : Nat) (rows : Nat → Nat) (h' : H), i + k = n → Ext h h' → (∀ j, j < i → h (rows j) = Option.none ∧ h' (rows j) = some (.list (arr m (g j)))) → (∀ a b, a < i → b < i → rows a = rows b → a = b) →
      compW turn kp ((List.range k).map fun j => x (i + j)) (arr i fun j => .ref (rows j)) h' Q by
    have := H n 0 (fun _ => 0) h (by (first | lia | omega)) (Ext.refl h) (fun j hj => by (first | lia | omega)) (fun a b ha => by (first | lia | omega))
    simpa [arr] using this
  intro k
  induction k with
  | zero =>
    intro i rows h' e hx hr hi
    have : i = n := by (first | lia | omega)
    subst this
    exact fin rows h' hx hr hi
  | succ k ih =>
    intro i rows h' e hx hr hi
    rw [List.range_succ_eq_map, List.map_cons]
    refine ⟨stays_ext hst hx, step i (by (first | lia | omega)) h' _ hx fun r hrn => ?_⟩
    have hne : ∀ j, j < i → rows j ≠ r := fun j hj q => by rw [← q, (hr j hj).2] at hrn; cases hrn
    have := ih (i + 1) (fun j => if j = i then r else rows j) (h'.set r (.list (arr m (g i)))) (by (first | lia | omega)) (hx.trans (Ext.new _ hrn)) (fun j hj => ?_) (fun a b ha hb q => ?_)
    · rw [List.map_map]
      have e2 : ((fun j => x (i + j)) ∘ Nat.succ) = fun j => x (i + 1 + j) := by funext j; simp only [Function.comp, Nat.succ_eq_add_one]; congr 1; (first | lia | omega)
      have e3 : (arr i fun j => V.ref (rows j)) ++ [V.ref r] = arr (i + 1) fun j => V.ref (if j = i then r else rows j) := by
        unfold arr
        rw [List.range_succ, List.map_append]
        congr 1
        · apply List.map_congr_left
          intro j hj
          have : j ≠ i := by have := List.mem_range.mp hj; (first | lia | omega)
          simp [this]
        · simp
      simp only [Nat.add_zero]
      rw [e2, e3]; exact this
    · by_cases q : j = i
      · subst q; simp; exact hx.none hrn
      · simp only [q, if_false]
        obtain ⟨h1, h2⟩ := hr j (by (first | lia | omega))
        exact ⟨h1, by rw [H.set_other _ _ (hne j (by (first | lia | omega)))]; exact h2⟩
    · split at q <;> split at q
      · (first | lia | omega)
      · exact absurd q.symm (hne b (by (first | lia | omega)))
      · exact absurd q (hne a (by (first | lia | omega)))
      · exact hi a b (by (first | lia | omega)) (by (first | lia | omega)) q

noncomputable def capM (es : List Edge) (u v : Nat) : Int := ((es.filter fun e => decide (e.1 = u) && decide (e.2.1 = v)).map fun e => e.2.2).sum
theorem capM_snoc (es : List Edge) (e : Edge) (u v : Nat) : capM (es ++ [e]) u v = put2 (capM es) e.1 e.2.1 (capM es e.1 e.2.1 + e.2.2) u v := by
  unfold capM put2
  rw [List.filter_append, List.map_append, List.sum_append]
  by_cases q : e.1 = u ∧ e.2.1 = v
  · obtain ⟨rfl, rfl⟩ := q; simp
  · have : (decide (e.1 = u) && decide (e.2.1 = v)) = false := by
      cases h1 : decide (e.1 = u) <;> cases h2 : decide (e.2.1 = v) <;> simp_all
    have q' : ¬ (u = e.1 ∧ v = e.2.1) := fun ⟨h1, h2⟩ => q ⟨h1.symm, h2.symm⟩
    simp [this, q']
noncomputable def okEdges (n : Nat) (es : List Edge) : Prop := ∀ e ∈ es, e.1 < n ∧ e.2.1 < n


theorem capacity_table_spec {G : Par} {n a : Nat} {es : List Edge} {h : H} {Q : V → H → Prop} (hn : n ≤ 1000) (he : Rd h (.ref a) (edgesD es)) (hok : okEdges n es)
    (hQ : ∀ t rows h', Ext h h' → h t = Option.none → (∀ i, i < n → h (rows i) = Option.none) → Tab h' t n rows (capM es) → Q (.ref t) h') :
    runFn G Core.capacity_table_fn [iv n, .ref a] h Q := by
  refine runFn_of rfl ?_
  have hnl : inLim (n : Int) := by unfold inLim; (first | lia | omega)
  obtain ⟨xs, h1, h2, h3⟩ := rd_edges he
  simp [Core.capacity_table_fn, Core.capacity_table_body, hnl]
  refine compW_rows (m := n) iv (fun _ _ => .int 0) trivial ?_ ?_
  · intro i hi h' K hx hK
    refine compW_arr (fun _ => .int 0) (fun j hj K' hK' => by simpa using hK') ?_
    exact ⟨trivial, fun r hr => hK r hr⟩
  · intro rows h' hx hr hi
    refine ⟨trivial, fun t ht => ?_⟩
    have ha : a ≠ t := ne_of_none (hx _ _ h1) ht
    simp [ha, hx _ _ h1]
    have ht0 : h t = Option.none := hx.none ht
    refine forW_inv (kp := some (a, xs)) (fun d r σ h'' => σ "table" = some (.ref t) ∧ Ext h h'' ∧ (∃ k, d = xs.take k ∧ r = xs.drop k ∧ k ≤ xs.length ∧ Tab h'' t n rows (capM (es.take k)))) (fun d r σ h'' hI => hI.2.1 _ _ h1) ?_ xs [] _ _ ⟨by simp, (hx.trans (Ext.new _ ht)), 0, rfl, rfl, Nat.zero_le _, ?_⟩ ?_
    · rintro d v r σ h'' K ⟨e1, hx'', k, rfl, er, hk, T⟩ hK
      have hklt : k < xs.length := by
        rcases Nat.lt_or_ge k xs.length with q | q
        · exact q
        · rw [List.drop_eq_nil_of_le q] at er; cases er
      have hke : k < es.length := by (first | lia | omega)
      obtain ⟨b, g1, g2⟩ := h3 k es[k] (List.getElem?_eq_getElem hke)
      have hv : v = .ref b := by
        have := congrArg (fun l => l[0]?) er
        simp [g1] at this
        exact this
      subst hv
      obtain ⟨o1, o2⟩ := hok _ (List.getElem_mem hke)
      have hx3 := hx'' _ _ g2
      have gi : ∀ (l : List V) (j : Nat), getIdx l (j : Nat) = l[j]? := fun l j => getIdx_nat
      have gi0 := gi [iv es[k].1, iv es[k].2.1, .int es[k].2.2] 0
      have gi1 := gi [iv es[k].1, iv es[k].2.1, .int es[k].2.2] 1
      have gi2 := gi [iv es[k].1, iv es[k].2.1, .int es[k].2.2] 2
      simp at gi0 gi1 gi2
      simp [Core.capacity_table_b1, e1, hx3, T.top, T.row _ o1, getIdx_arr, o1, o2, gi0, gi1, gi2]
      refine hK _ _ ⟨by simp [e1], hx''.set _ (hr _ o1).1, k + 1, ?_, ?_, by (first | lia | omega), ?_⟩
      · rw [List.take_add_one, g1]; rfl
      · have := congrArg List.tail er; simpa using this
      · have T' := T.put es[k].2.1 (capM (es.take k) es[k].1 es[k].2.1 + es[k].2.2) o1
        refine T'.congr fun i j _ _ => ?_
        rw [List.take_add_one, List.getElem?_eq_getElem hke]
        exact (capM_snoc _ _ _ _).symm
    · refine ⟨by simp, fun i hi' => ?_, hi, fun i hi' e => ?_⟩
      · rw [H.set_other _ _ (ne_of_none (hr i hi').2 ht), (hr i hi').2]; rfl
      · exact ne_of_none (hr i hi').2 ht e
    · rintro σ h'' ⟨e1, hx'', k, e, er, hk, T⟩
      have hkl : k = es.length := by
        have := congrArg List.length er
        simp at this; (first | lia | omega)
      subst hkl
      simp [e1]
      exact hQ t rows h'' hx'' ht0 (fun i hi' => (hr i hi').1) (by simpa using T)
end MP

end
section
namespace MP
open PySem (PyData)

theorem nodup_idx : ∀ {l : List Nat}, l.Nodup → ∀ {i j : Nat} {v : Nat}, l[i]? = some v → l[j]? = some v → i = j
  | [], _, _, _, _, e, _ => by simp at e
  | a :: l, hn, i, j, v, e, e' => by
    obtain ⟨h1, h2⟩ := List.nodup_cons.mp hn
    cases i with
    | zero =>
      cases j with
      | zero => rfl
      | succ j =>
        simp at e e'
        subst e
        exact absurd (List.mem_of_getElem? e') h1
    | succ i =>
      cases j with
      | zero =>
        simp at e e'
        subst e'
        exact absurd (List.mem_of_getElem? e) h1
      | succ j =>
        simp at e e'
        rw [nodup_idx h2 e e']
theorem nodup_len : ∀ (n : Nat) (l : List Nat), l.Nodup → (∀ x ∈ l, x < n) → l.length ≤ n
  | 0, l, _, h => by
    cases l with
    | nil => simp
    | cons a r => exact absurd (h a List.mem_cons_self) (Nat.not_lt_zero _)
  | n + 1, l, hn, h => by
    by_cases q : n ∈ l
    · have h1 := nodup_len n (l.erase n) (hn.erase n) fun x hx => by
        have h2 := h x (List.mem_of_mem_erase hx)
        have h3 : x ≠ n := fun e => by subst e; exact absurd hx (List.Nodup.not_mem_erase hn)
        (first | lia | omega)
      rw [List.length_erase_of_mem q] at h1; (first | lia | omega)
    · have h1 := nodup_len n l hn fun x hx => by
        have h2 := h x hx
        have h3 : x ≠ n := fun e => q (e ▸ hx)
        (first | lia | omega)
      (first | lia | omega)

/-- the search in the midst: the p-th of the queue is at hand, its neighbours below j are seen -/
structure Bfs (n : Nat) (r : Nat → Nat → Prop) (s : Nat) (prev : Nat → Option Nat) (q : List Nat) (p j : Nat) : Prop where
  nod : q.Nodup
  lt : ∀ u ∈ q, u < n
  hd : q[0]? = some s
  ps : prev s = Option.none
  mem : ∀ v, v < n → v ≠ s → (prev v ≠ Option.none ↔ v ∈ q)
  par : ∀ (i v : Nat), 1 ≤ i → q[i]? = some v → ∃ (a u : Nat), q[a]? = some u ∧ a < i ∧ prev v = some u ∧ r u v ∧ (∀ (b w : Nat), b < a → q[b]? = some w → ¬ r w v) ∧ (a < p ∨ (a = p ∧ v < j))
  mono : ∀ (i i' v v' a a' u u' : Nat), 1 ≤ i → i < i' → q[i]? = some v → q[i']? = some v' → prev v = some u → prev v' = some u' → q[a]? = some u → q[a']? = some u' → a < a' ∨ (a = a' ∧ v < v')
  clo : ∀ (i u v : Nat), (i < p ∨ (i = p ∧ v < j)) → q[i]? = some u → v < n → r u v → v ∈ q

theorem Bfs.start {n s : Nat} {r : Nat → Nat → Prop} (hs : s < n) : Bfs n r s (fun _ => Option.none) [s] 0 0 where
  nod := by simp
  lt := by simp [hs]
  hd := rfl
  ps := rfl
  mem := fun v _ hv => by simp [hv]
  par := fun i v hi e => by
    rw [List.getElem?_eq_none (by simp; (first | lia | omega))] at e; cases e
  mono := fun i i' v v' a a' u u' h1 h2 e => by
    rw [List.getElem?_eq_none (by simp; (first | lia | omega))] at e; cases e
  clo := fun i u v h => by (first | lia | omega)

variable {n s : Nat} {r : Nat → Nat → Prop} {prev : Nat → Option Nat} {q : List Nat} {p j : Nat}

theorem Bfs.skip (B : Bfs n r s prev q p j) {u : Nat} (hu : q[p]? = some u) (hno : ¬ (r u j ∧ j ≠ s ∧ prev j = Option.none)) (hj : j < n) : Bfs n r s prev q p (j + 1) where
  nod := B.nod
  lt := B.lt
  hd := B.hd
  ps := B.ps
  mem := B.mem
  par := fun i v hi e => by
    obtain ⟨a, u, h1, h2, h3, h4, h5, h6⟩ := B.par i v hi e
    exact ⟨a, u, h1, h2, h3, h4, h5, by (first | lia | omega)⟩
  mono := B.mono
  clo := fun i u' v h e hv hr => by
    by_cases hc : i = p ∧ v = j
    · obtain ⟨rfl, rfl⟩ := hc
      rw [hu] at e; cases e
      by_cases hvs : v = s
      · subst hvs; exact List.mem_of_getElem? B.hd
      · refine (B.mem v hv hvs).mp fun hp => hno ⟨hr, hvs, hp⟩
    · exact B.clo i u' v (by (first | lia | omega)) e hv hr

noncomputable def setP (prev : Nat → Option Nat) (v u : Nat) : Nat → Option Nat := fun x => if x = v then some u else prev x

theorem Bfs.add (B : Bfs n r s prev q p j) {u : Nat} (hu : q[p]? = some u) (hr : r u j) (hjs : j ≠ s) (hp : prev j = Option.none) (hj : j < n) : Bfs n r s (setP prev j u) (q ++ [j]) p (j + 1) := by
  have hjq : j ∉ q := fun hm => (B.mem j hj hjs).mpr hm hp
  have hpl : p < q.length := (List.getElem?_eq_some_iff.mp hu).1
  have old : ∀ {i v : Nat}, i < q.length → (q ++ [j])[i]? = some v → q[i]? = some v := fun hi e => by rwa [List.getElem?_append_left hi] at e
  have cs : ∀ {i v : Nat}, (q ++ [j])[i]? = some v → (i < q.length ∧ q[i]? = some v) ∨ (i = q.length ∧ v = j) := fun {i v} e => by
    rcases Nat.lt_or_ge i q.length with h | h
    · exact .inl ⟨h, old h e⟩
    · have h2 := (List.getElem?_eq_some_iff.mp e).1
      simp at h2
      have : i = q.length := by (first | lia | omega)
      subst this
      simp at e
      exact .inr ⟨rfl, e.symm⟩
  have up : ∀ {i v : Nat}, q[i]? = some v → (q ++ [j])[i]? = some v := fun e => by
    rw [List.getElem?_append_left (List.getElem?_eq_some_iff.mp e).1]; exact e
  have pv : ∀ {v : Nat}, v ∈ q → setP prev j u v = prev v := fun hv => by
    unfold setP; rw [if_neg (fun e => hjq (by rw [← e]; exact hv))]
  have nod' : (q ++ [j]).Nodup := by
    rw [List.nodup_append]
    exact ⟨B.nod, by simp, fun a ha b hb e => by simp at hb; subst hb; exact hjq (e ▸ ha)⟩
  refine ⟨nod', fun v hv => ?_, up B.hd, ?_, fun v hv hvs => ?_, fun i v hi e => ?_, fun i i' v v' a a' x x' h1 h2 e e' g g' k k' => ?_, fun i x v h e hv hrv => ?_⟩
  · rcases List.mem_append.mp hv with h | h
    · exact B.lt v h
    · simp at h; (first | lia | omega)
  · unfold setP; rw [if_neg (Ne.symm hjs)]; exact B.ps
  · unfold setP
    by_cases hvj : v = j
    · simp [hvj]
    · simp only [hvj, if_false, List.mem_append, List.mem_singleton, or_false]
      exact B.mem v hv hvs
  · rcases cs e with ⟨hi', e1⟩ | ⟨rfl, rfl⟩
    · obtain ⟨a, x, g1, g2, g3, g4, g5, g6⟩ := B.par i v hi e1
      refine ⟨a, x, up g1, g2, by rw [pv (List.mem_of_getElem? e1)]; exact g3, g4, fun b w hb hw => ?_, by (first | lia | omega)⟩
      exact g5 b w hb (old (by (first | lia | omega)) hw)
    · refine ⟨p, u, up hu, hpl, by simp [setP], hr, fun b w hb hw hrw => ?_, .inr ⟨rfl, Nat.lt_succ_self _⟩⟩
      exact hjq (B.clo b w _ (.inl hb) (old (by (first | lia | omega)) hw) hj hrw)
  · rcases cs e with ⟨hi', e1⟩ | ⟨rfl, rfl⟩
    · rw [pv (List.mem_of_getElem? e1)] at g
      obtain ⟨a0, x0, b1, b2, b3, b4, b5, b6⟩ := B.par i v h1 e1
      rw [g] at b3; cases b3
      have ha : a = a0 := nodup_idx nod' k (up b1)
      subst ha
      rcases cs e' with ⟨hi2, e2⟩ | ⟨rfl, rfl⟩
      · rw [pv (List.mem_of_getElem? e2)] at g'
        obtain ⟨a1, x1, c1, c2, c3, c4, c5, c6⟩ := B.par i' v' (by (first | lia | omega)) e2
        rw [g'] at c3; cases c3
        have ha' : a' = a1 := nodup_idx nod' k' (up c1)
        subst ha'
        exact B.mono i i' v v' a a' x x' h1 h2 e1 e2 g g' b1 c1
      · have : x' = u := by simp [setP] at g'; exact g'.symm
        subst this
        have ha' : a' = p := nodup_idx nod' k' (up hu)
        subst ha'
        exact b6
    · have := (List.getElem?_eq_some_iff.mp e').1
      simp at this; (first | lia | omega)
  · rcases cs e with ⟨hi', e1⟩ | ⟨rfl, rfl⟩
    · by_cases hc : i = p ∧ v = j
      · exact List.mem_append_right _ (by simp [hc.2])
      · exact List.mem_append_left _ (B.clo i x v (by (first | lia | omega)) e1 hv hrv)
    · (first | lia | omega)

theorem Bfs.next (B : Bfs n r s prev q p n) : Bfs n r s prev q (p + 1) 0 where
  nod := B.nod
  lt := B.lt
  hd := B.hd
  ps := B.ps
  mem := B.mem
  par := fun i v hi e => by
    obtain ⟨a, u, h1, h2, h3, h4, h5, h6⟩ := B.par i v hi e
    exact ⟨a, u, h1, h2, h3, h4, h5, by (first | lia | omega)⟩
  mono := B.mono
  clo := fun i u v h e hv hr => B.clo i u v (by (first | lia | omega)) e hv hr

theorem Bfs.len (B : Bfs n r s prev q p j) : q.length ≤ n := nodup_len n q B.nod B.lt

/-- from the source to the target by previous points -/
structure Chain (n : Nat) (r : Nat → Nat → Prop) (s : Nat) (prev : Nat → Option Nat) (q : List Nat) (t k : Nat) (c : Nat → Nat) : Prop where
  z : c 0 = s
  e : c k = t
  st : ∀ i, i < k → c (i + 1) < n ∧ prev (c (i + 1)) = some (c i) ∧ c (i + 1) ≠ s ∧ r (c i) (c (i + 1)) ∧ c (i + 1) ∈ q

theorem Bfs.chain (B : Bfs n r s prev q p j) : ∀ (i v : Nat), q[i]? = some v → ∃ k c, k ≤ i ∧ Chain n r s prev q v k c := by
  intro i
  induction i using Nat.strongRecOn with
  | ind i ih =>
    intro v e
    rcases Nat.eq_zero_or_pos i with rfl | hi
    · rw [B.hd] at e; cases e
      exact ⟨0, fun _ => s, Nat.le_refl _, rfl, rfl, fun i hi => by (first | lia | omega)⟩
    · obtain ⟨a, u, h1, h2, h3, h4, h5, h6⟩ := B.par i v hi e
      obtain ⟨k, c, hk, C⟩ := ih a h2 u h1
      have hvs : v ≠ s := fun q' => by
        subst q'
        have := nodup_idx B.nod e B.hd
        (first | lia | omega)
      refine ⟨k + 1, fun x => if x ≤ k then c x else v, by (first | lia | omega), by simp [C.z], if_neg (by (first | lia | omega)), fun i hi => ?_⟩
      by_cases hik : i < k
      · have h7 : i + 1 ≤ k := hik
        have h8 : i ≤ k := by (first | lia | omega)
        simp only [h7, h8, if_true]
        exact C.st i hik
      · have : i = k := by (first | lia | omega)
        subst this
        simp only [Nat.le_refl, if_true, show ¬ (i + 1 ≤ i) by (first | lia | omega), if_false]
        refine ⟨B.lt v (List.mem_of_getElem? e), by rw [C.e]; exact h3, hvs, by rw [C.e]; exact h4, List.mem_of_getElem? e⟩

/-- what the search hands back -/
noncomputable def IsWay (n : Nat) (r : Nat → Nat → Prop) (s t : Nat) (prev : Nat → Option Nat) (q : List Nat) (way : List Nat) : Prop :=
  (s = t ∧ way = [s]) ∨ (s ≠ t ∧ t ∉ q ∧ way = []) ∨ (s ≠ t ∧ ∃ k c, Chain n r s prev q t k c ∧ k < n ∧ way = (List.range (k + 1)).map c)

theorem augmenting_path_spec {G G' : Par} {n t s snk : Nat} {rows : Nat → Nat} {R : Nat → Nat → Int} {h : H} {Q : V → H → Prop} (hc : ∀ vs h Q, runFn G' Core.path_to_fn vs h Q → G.Γ "path_to" vs h Q)
    (hn : n ≤ 1000) (hs : s < n) (hk : snk < n) (T : Tab h t n rows R)
    (hQ : ∀ prev q way, Bfs n (fun u v => 0 < R u v) s prev q q.length 0 → IsWay n (fun u v => 0 < R u v) s snk prev q way → Ret h Q (way.map iv)) :
    runFn G Core.augmenting_path_fn [iv n, .ref t, iv s, iv snk] h Q := by
  refine runFn_of rfl ?_
  have hnl : inLim (n : Int) := by unfold inLim; (first | lia | omega)
  simp [Core.augmenting_path_fn, Core.augmenting_path_body, hnl]
  refine compW_arr (fun _ => .none) (fun i hi K hK => hK) ⟨trivial, fun pa hpa => fun qa hqa => ?_⟩
  have hpq : pa ≠ qa := by
    intro e; subst e; simp at hqa
  have hqa0 : h qa = Option.none := by simpa [Ne.symm hpq] using hqa
  refine while_inv (fun m σ h' => ∃ prev q p, Bfs n (fun u v => 0 < R u v) s prev q p 0 ∧ m = n - p ∧ p ≤ q.length ∧ σ "n" = some (iv n) ∧ σ "residual" = some (.ref t) ∧ σ "source" = some (iv s) ∧ σ "sink" = some (iv snk) ∧
      σ "previous" = some (.ref pa) ∧ σ "queue" = some (.ref qa) ∧ σ "place" = some (iv p) ∧ Ext h h' ∧ h' pa = some (.list (arr n fun v => optV (prev v))) ∧ h' qa = some (.list (q.map iv))) ?_ (j := n) ?_
  · rintro m σ h' K ⟨prev, q, p, B, rfl, hp, e1, e2, e3, e4, e5, e6, e7, hx, hh1, hh2⟩ hK
    simp [e7, e6, hh2]
    by_cases hlt : p < q.length
    · have hlt' : (p : Int) < (q.length : Int) := by (first | lia | omega)
      simp only [hlt, if_true]
      have hlen := B.len
      have hu : q[p]? = some q[p] := List.getElem?_eq_getElem hlt
      simp [Core.augmenting_path_b1, e6, hh2, e7, getIdx_nat, hu, e1, hnl]
      refine forW_arr (fun v σ h' => ∃ prev q', Bfs n (fun u v => 0 < R u v) s prev q' p v ∧ q'[p]? = some q[p] ∧ σ "n" = some (iv n) ∧ σ "residual" = some (.ref t) ∧ σ "source" = some (iv s) ∧ σ "sink" = some (iv snk) ∧
        σ "previous" = some (.ref pa) ∧ σ "queue" = some (.ref qa) ∧ σ "place" = some (iv (p + 1)) ∧ σ "u" = some (iv q[p]) ∧ Ext h h' ∧ h' pa = some (.list (arr n fun v => optV (prev v))) ∧ h' qa = some (.list (q'.map iv))) ?_ ?_ ?_
      · exact ⟨prev, q, B, hu, by simp [e1], by simp [e2], by simp [e3], by simp [e4], by simp [e5], by simp [e6], by simp, by simp, hx, hh1, hh2⟩
      · rintro v σ h' K' hv ⟨prev, q', B, hu', e1, e2, e3, e4, e5, e6, e7, e8, hx, hh1, hh2⟩ hK'
        have hun : q[p] < n := B.lt _ (List.mem_of_getElem? hu')
        have T' := T.ext hx
        simp [Core.augmenting_path_b2, e2, e8, T'.top, T'.row _ hun, getIdx_arr, hun, hv, e3, e5, hh1]
        have keepσ : ∀ prev q' h', Bfs n (fun u v => 0 < R u v) s prev q' p (v + 1) → q'[p]? = some q[p] → Ext h h' → h' pa = some (.list (arr n fun v => optV (prev v))) → h' qa = some (.list (q'.map iv)) → K' .next (upd σ "v" (iv v)) h' :=
          fun prev q' h' b1 b2 b3 b4 b5 => hK' _ _ ⟨prev, q', b1, b2, by simp [e1], by simp [e2], by simp [e3], by simp [e4], by simp [e5], by simp [e6], by simp [e7], by simp [e8], b3, b4, b5⟩
        by_cases c1 : 0 < R q[p] v
        · simp only [c1, if_true]
          by_cases c2 : v = s
          · have c2' : (v : Int) = (s : Int) := by (first | lia | omega)
            simp only [c2', decide_true, Bool.not_true, Bool.false_eq_true, if_false]
            exact keepσ _ _ _ (B.skip hu' (fun q => q.2.1 c2) hv) hu' hx hh1 hh2
          · have c2' : ¬ ((v : Int) = (s : Int)) := by (first | lia | omega)
            simp only [c2', decide_false, Bool.not_false, if_true]
            cases c3 : prev v with
            | some w =>
              simp [c3]
              exact keepσ _ _ _ (B.skip hu' (fun q => by rw [q.2.2] at c3; cases c3) hv) hu' hx hh1 hh2
            | none =>
              simp [optV, Core.augmenting_path_b3, e8, e5, e6, hh1, hv, hh2, Ne.symm hpq]
              have hl2 := B.len
              refine ⟨by unfold lim; (first | lia | omega), keepσ (setP prev v q[p]) (q' ++ [v]) _ (B.add hu' c1 c2 c3 hv) ?_ ((hx.set _ hpa).set _ hqa0) ?_ ?_⟩
              · rw [List.getElem?_append_left (List.getElem?_eq_some_iff.mp hu').1]; exact hu'
              · rw [H.set_other _ _ hpq, H.set_self, arr_set]
                congr 2
                refine arr_congr fun j _ => ?_
                unfold setP; split <;> rfl
              · simp
        · simp only [c1, if_false]
          exact keepσ _ _ _ (B.skip hu' (fun q => c1 q.1) hv) hu' hx hh1 hh2
      · rintro σ h' ⟨prev, q', B, hu', e1, e2, e3, e4, e5, e6, e7, e8, hx, hh1, hh2⟩
        have hp' : p < q'.length := (List.getElem?_eq_some_iff.mp hu').1
        simp
        exact hK (n - (p + 1)) _ _ (by have := B.len; (first | lia | omega)) ⟨prev, q', p + 1, B.next, rfl, hp', e1, e2, e3, e4, e5, e6, e7, hx, hh1, hh2⟩
    · simp only [hlt, if_false]
      have hpl : p = q.length := by (first | lia | omega)
      subst hpl
      simp [e5, e3, e4]
      refine hc _ _ _ ?_
      have ret : ∀ way, IsWay n (fun u v => 0 < R u v) s snk prev q way → Ret h' Q (way.map iv) := fun way hw r h'' g1 g2 g3 => hQ prev q way B hw r h'' (hx.none g1) (hx.trans g2) g3
      by_cases hsk : s = snk
      · subst hsk
        exact path_to_same (ret [s] (.inl ⟨rfl, rfl⟩))
      · by_cases hm : snk ∈ q
        · obtain ⟨i, hi⟩ := List.mem_iff_getElem?.mp hm
          obtain ⟨k, c, hki, C⟩ := B.chain i snk hi
          have hkn : k < n := by
            have := (List.getElem?_eq_some_iff.mp hi).1
            have := B.len
            (first | lia | omega)
          have := ret ((List.range (k + 1)).map c) (.inr (.inr ⟨hsk, k, c, C, hkn, rfl⟩))
          rw [List.map_map] at this
          exact path_to_chain hh1 hn hsk C.z C.e (by (first | lia | omega)) (fun i hi => ⟨(C.st i hi).1, (C.st i hi).2.1, (C.st i hi).2.2.1⟩) this
        · have hp0 : prev snk = Option.none := by
            cases c : prev snk with
            | none => rfl
            | some w => exact absurd ((B.mem snk hk (Ne.symm hsk)).mp (by rw [c]; simp)) hm
          exact path_to_none hh1 hsk hk hp0 (ret [] (.inr (.inl ⟨hsk, hm, rfl⟩)))
  · refine ⟨fun _ => Option.none, [s], 0, Bfs.start hs, rfl, by simp, by simp, by simp, by simp, by simp, by simp, by simp, by simp, ?_, ?_, by simp⟩
    · exact (Ext.new _ hpa).trans (Ext.new _ hqa)
    · rw [H.set_other _ _ hpq, H.set_self]; rfl
end MP

end
section
/-! Equality of what is read; lists of edges. -/
namespace MP
open PySem (PyData)

mutual
theorem Rd.eqv {h : H} : ∀ {v : V} {d : PyData}, Rd h v d → PyData.eqv d d = true
  | _, _, .none => by simp [PyData.eqv]
  | _, _, .bool b => by simp [PyData.eqv]
  | _, _, .int i => by simp [PyData.eqv]
  | _, _, .list e r => by simp [PyData.eqv, RdAll.eqv r]
  | _, _, .tup e r => by simp [PyData.eqv, RdAll.eqv r]
theorem RdAll.eqv {h : H} : ∀ {vs : List V} {ds : List PyData}, RdAll h vs ds → PyData.eqvAll ds ds = true
  | _, _, .nil => by simp [PyData.eqvAll]
  | _, _, .cons a b => by simp [PyData.eqvAll, Rd.eqv a, RdAll.eqv b]
end

theorem depthAll_le {k : Nat} : ∀ {ds : List PyData}, (∀ d ∈ ds, d.depth ≤ k) → PyData.depthAll ds ≤ k
  | [], _ => by simp [PyData.depthAll]
  | d :: r, f => by
    simp only [PyData.depthAll]
    exact Nat.max_le.mpr ⟨f d List.mem_cons_self, depthAll_le fun d hd => f d (List.mem_cons_of_mem _ hd)⟩
theorem depth_ints (is : List Int) : (PyData.list (is.map PyData.int)).depth ≤ 1 := by
  simp only [PyData.depth]
  have := depthAll_le (k := 0) (ds := is.map PyData.int) (fun d hd => by obtain ⟨i, _, rfl⟩ := List.mem_map.mp hd; simp [PyData.depth])
  (first | lia | omega)
theorem depth_tab (n : Nat) (M : Nat → Nat → Int) : (tabD n M).depth ≤ 8 := by
  simp only [tabD, PyData.depth]
  have := depthAll_le (k := 1) (ds := (List.range n).map fun i => PyData.list ((List.range n).map fun j => .int (M i j))) (fun d hd => by
    obtain ⟨i, _, rfl⟩ := List.mem_map.mp hd
    have := depth_ints ((List.range n).map fun j => M i j)
    rw [List.map_map] at this; exact this)
  (first | lia | omega)
theorem depth_edges (es : List Edge) : (edgesD es).depth ≤ 8 := by
  simp only [edgesD, PyData.depth]
  have := depthAll_le (k := 1) (ds := es.map edgeD) (fun d hd => by
    obtain ⟨i, _, rfl⟩ := List.mem_map.mp hd
    simp [edgeD, PyData.depth, PyData.depthAll])
  (first | lia | omega)

/-- two values that read as the same are equal -/
theorem eqW_same {h : H} {a b : Nat} {d : PyData} {Q : Bool → Prop} (ra : Rd h (.ref a) d) (rb : Rd h (.ref b) d) (hd : d.depth ≤ 8) (hQ : Q true) : eqW (.ref a) (.ref b) h Q :=
  ⟨d, d, ra, rb, hd, hd, by rw [ra.eqv]; exact hQ⟩
/-- the places of the list are tuples, one for each edge -/
noncomputable def EA (h : H) (xs : List V) (es : List Edge) : Prop := xs.length = es.length ∧ ∀ (i : Nat) e, es[i]? = some e → ∃ b, xs[i]? = some (.ref b) ∧ h b = some (.tup [iv e.1, iv e.2.1, .int e.2.2])
theorem EA.nil {h : H} : EA h [] [] := ⟨rfl, fun i e he => by simp at he⟩
theorem EA.mono {h h' : H} {xs : List V} {es : List Edge} (A : EA h xs es) (x : Ext h h') : EA h' xs es :=
  ⟨A.1, fun i e he => by obtain ⟨b, h1, h2⟩ := A.2 i e he; exact ⟨b, h1, x _ _ h2⟩⟩
theorem EA.set {h : H} {xs l : List V} {es : List Edge} {a : Nat} {o : O} (A : EA h xs es) (ha : h a = some (.list l)) : EA (h.set a o) xs es :=
  ⟨A.1, fun i e he => by
    obtain ⟨b, h1, h2⟩ := A.2 i e he
    refine ⟨b, h1, ?_⟩
    rw [H.set_other _ _ (fun q => by rw [q, ha] at h2; cases h2)]; exact h2⟩
theorem EA.snoc {h : H} {xs : List V} {es : List Edge} {b : Nat} {e : Edge} (A : EA h xs es) (hb : h b = some (.tup [iv e.1, iv e.2.1, .int e.2.2])) : EA h (xs ++ [.ref b]) (es ++ [e]) := by
  refine ⟨by simp [A.1], fun i e' he => ?_⟩
  rcases Nat.lt_or_ge i es.length with q | q
  · rw [List.getElem?_append_left q] at he
    obtain ⟨b', h1, h2⟩ := A.2 i e' he
    exact ⟨b', by rw [List.getElem?_append_left (by rw [A.1]; exact q)]; exact h1, h2⟩
  · have h1 := (List.getElem?_eq_some_iff.mp he).1
    simp at h1
    have : i = es.length := by (first | lia | omega)
    subst this
    simp at he; subst he
    exact ⟨b, by rw [← A.1]; simp, hb⟩
theorem EA.all {h : H} {xs : List V} {es : List Edge} (A : EA h xs es) : RdAll h xs (es.map edgeD) := by
  refine RdAll.of_get (by simp [A.1]) fun i v d h1 h2 => ?_
  rw [List.getElem?_map] at h2
  cases q : es[i]? with
  | none => rw [q] at h2; cases h2
  | some e =>
    rw [q] at h2; cases h2
    obtain ⟨b, g1, g2⟩ := A.2 i e q
    rw [g1] at h1; cases h1
    exact .tup g2 (.cons (.int _) (.cons (.int _) (.cons (.int _) .nil)))
theorem EA.rd {h : H} {a : Nat} {xs : List V} {es : List Edge} (A : EA h xs es) (ha : h a = some (.list xs)) : Rd h (.ref a) (edgesD es) := .list ha A.all

@[simp] theorem gi3_0 (a b c : V) : getIdx [a, b, c] 0 = some a := rfl
@[simp] theorem gi3_1 (a b c : V) : getIdx [a, b, c] 1 = some b := rfl
@[simp] theorem gi3_2 (a b c : V) : getIdx [a, b, c] 2 = some c := rfl
end MP

end
section
/-! More loops; least of a list. -/
namespace MP
theorem forW_list {turn : V → Env → H → (Flow → Env → H → Prop) → Prop} {kp : Option (Nat × List V)} {Q : Flow → Env → H → Prop} {xs : List V} (I : Nat → Env → H → Prop) {σ : Env} {h : H} (h0 : I 0 σ h) (hst : ∀ i σ h, I i σ h → stays kp h)
    (step : ∀ i v σ h K, xs[i]? = some v → I i σ h → (∀ σ' h', I (i + 1) σ' h' → K Flow.next σ' h') → turn v σ h K) (fin : ∀ σ h, I xs.length σ h → Q .next σ h) : forW turn kp xs σ h Q := by
  refine forW_inv (fun d r σ h => d ++ r = xs ∧ I d.length σ h) (fun d r σ h hI => hst _ _ _ hI.2) ?_ xs [] σ h ⟨rfl, h0⟩ ?_
  · rintro d v r σ h K ⟨e, hI⟩ hK
    refine step d.length v σ h K (by rw [← e]; simp) hI fun σ' h' hI' => hK σ' h' ⟨by simp [e], by simpa using hI'⟩
  · rintro σ h ⟨e, hI⟩
    simp at hI; exact fin _ _ hI
theorem forW_arrG {turn : V → Env → H → (Flow → Env → H → Prop) → Prop} {Q : Flow → Env → H → Prop} {n : Nat} {f : Nat → V} (I : Nat → Env → H → Prop) {σ : Env} {h : H} (h0 : I 0 σ h)
    (step : ∀ i σ h K, i < n → I i σ h → (∀ σ' h', I (i + 1) σ' h' → K Flow.next σ' h') → turn (f i) σ h K) (fin : ∀ σ h, I n σ h → Q .next σ h) : forW turn Option.none (arr n f) σ h Q := by
  refine forW_list I h0 (fun _ _ _ _ => trivial) (fun i v σ h K e hI hK => ?_) (by simpa using fin)
  have hi : i < n := by have := (List.getElem?_eq_some_iff.mp e).1; simpa using this
  rw [arr_get f hi] at e; cases e
  exact step i σ h K hi hI hK
theorem fmin_le : ∀ (l : List Int) (a : Int), l.foldl min a ≤ a ∧ ∀ x ∈ l, l.foldl min a ≤ x
  | [], a => ⟨Int.le_refl _, fun x hx => by simp at hx⟩
  | b :: l, a => by
    obtain ⟨h1, h2⟩ := fmin_le l (min a b)
    refine ⟨Int.le_trans h1 (by (first | lia | omega)), fun x hx => ?_⟩
    rcases List.mem_cons.mp hx with rfl | hx
    · exact Int.le_trans h1 (by (first | lia | omega))
    · exact h2 x hx
theorem fmin_mem : ∀ (l : List Int) (a : Int), l.foldl min a = a ∨ l.foldl min a ∈ l
  | [], a => .inl rfl
  | b :: l, a => by
    rcases fmin_mem l (min a b) with h | h
    · rcases Int.le_total a b with q | q
      · left; rw [List.foldl_cons, h]; (first | lia | omega)
      · right; rw [List.foldl_cons, h, show min a b = b by (first | lia | omega)]; exact List.mem_cons_self
    · exact .inr (List.mem_cons_of_mem _ h)
theorem minL_le : ∀ {l : List Int} {x : Int}, x ∈ l → minL l ≤ x
  | a :: l, x, hx => by
    obtain ⟨h1, h2⟩ := fmin_le l a
    rcases List.mem_cons.mp hx with rfl | hx
    · exact h1
    · exact h2 x hx
theorem minL_mem : ∀ {l : List Int}, l ≠ [] → minL l ∈ l
  | [], h => absurd rfl h
  | a :: l, _ => by
    rcases fmin_mem l a with h | h
    · rw [minL, h]; exact List.mem_cons_self
    · exact List.mem_cons_of_mem _ h

/-- where a def lies in the table -/
noncomputable def findF (f : String) : List (String × Fn) → Option (Fn × List (String × Fn))
  | [] => Option.none
  | (g, d) :: r => if f = g then some (d, r) else findF f r
theorem call_of {ns : List Int} {gc : String → Option V} {f : String} {d : Fn} {r : List (String × Fn)} : ∀ {l : List (String × Fn)}, findF f l = some (d, r) → ∀ vs h Q, runFn ⟨ns, gc, table ns gc r⟩ d vs h Q → table ns gc l f vs h Q
  | [], e, _, _, _, _ => by cases e
  | (g, d') :: l, e, vs, h, Q, x => by
    rw [table]
    rw [findF] at e
    by_cases q : f = g
    · rw [if_pos q] at e ⊢; cases e; exact x
    · rw [if_neg q] at e ⊢; exact call_of e vs h Q x
end MP

end
section
namespace MP
open PySem PySem.W PyProof.Rows
end MP

end
section
/-! A head of our own: the look at the program's heap is one Bool that the kernel runs on the heap itself. -/
namespace MP
open PySem PySem.W PyProof.Rows
noncomputable def lookF (n : Nat) (h : Heap) : Frag := (List.range n).filterMap fun a => (h.get? a).map fun o => (a, o)
theorem lookF_in (n : Nat) (h : Heap) : (lookF n h).In h := by
  intro a o e
  unfold lookF at e
  generalize List.range n = l at e
  induction l with
  | nil => cases e
  | cons x r ih =>
    rw [List.filterMap_cons] at e
    cases q : h.get? x with
    | none => rw [q] at e; exact ih e
    | some ob =>
      rw [q] at e
      simp only [Option.map_some, List.lookup_cons] at e
      split at e
      · rename_i hx
        have : a = x := by simpa using hx
        cases e; rw [this]; exact q
      · exact ih e
noncomputable def chkHook (n : Nat) (chk : Frag → Bool) : Hook := ⟨Bool, fun s => chk (lookF n s.heap), fun _ => true, fun _ h => ∃ F : Frag, F.In h ∧ chk F = true, fun _ s e => ⟨_, lookF_in n s.heap, e⟩, fun _ _ _ ⟨F, x, e⟩ k => ⟨F, x.keeps k, e⟩⟩
noncomputable def viewOf (p : Program) (ks : List Nat) : Program := { p with main := { p.main with body := ks.filterMap fun i => p.main.body[i]? } }
end MP

end
section
/-! Comprehensions whose turns leave old things alone; sums. -/
namespace MP
theorem compW_ext {turn : V → H → (Option V → H → Prop) → Prop} {kp : Option (Nat × List V)} {Q : List V → H → Prop} {h : H} {n : Nat} (x g : Nat → V) (hst : stays kp h)
    (step : ∀ i, i < n → ∀ h' (K : Option V → H → Prop), Ext h h' → (∀ h'', Ext h' h'' → K (some (g i)) h'') → turn (x i) h' K)
    (fin : ∀ h', Ext h h' → Q (arr n g) h') : compW turn kp (arr n x) [] h Q := by
  suffices H : ∀ (k i : Nat) (h' : H), i + k = n → Ext h h' → compW turn kp ((List.range k).map fun j => x (i + j)) (arr i g) h' Q by
    have := H n 0 h (by (first | lia | omega)) (Ext.refl h)
    simpa [arr] using this
  intro k
  induction k with
  | zero =>
    intro i h' e hx
    have : i = n := by (first | lia | omega)
    subst this
    exact fin h' hx
  | succ k ih =>
    intro i h' e hx
    rw [List.range_succ_eq_map, List.map_cons]
    refine ⟨stays_ext hst hx, step i (by (first | lia | omega)) h' _ hx fun h'' hx' => ?_⟩
    have := ih (i + 1) h'' (by (first | lia | omega)) (hx.trans hx')
    rw [List.map_map]
    have e2 : ((fun j => x (i + j)) ∘ Nat.succ) = fun j => x (i + 1 + j) := by funext j; simp only [Function.comp, Nat.succ_eq_add_one]; congr 1; (first | lia | omega)
    have e3 : arr i g ++ [g i] = arr (i + 1) g := by unfold arr; rw [List.range_succ, List.map_append]; rfl
    rw [e2]
    show compW turn kp _ (arr i g ++ [g i]) h'' Q
    rw [e3]; exact this

/-- the sum of f 0 .. f (n-1) -/
noncomputable def rsum (n : Nat) (f : Nat → Int) : Int := ((List.range n).map f).sum
@[simp] theorem rsum_zero (f : Nat → Int) : rsum 0 f = 0 := rfl
theorem rsum_succ (n : Nat) (f : Nat → Int) : rsum (n + 1) f = rsum n f + f n := by
  unfold rsum; rw [List.range_succ, List.map_append, List.sum_append]; simp
theorem rsum_congr {n : Nat} {f g : Nat → Int} (h : ∀ i, i < n → f i = g i) : rsum n f = rsum n g := by
  induction n with
  | zero => rfl
  | succ n ih => rw [rsum_succ, rsum_succ, ih fun i hi => h i (by (first | lia | omega)), h n (by (first | lia | omega))]
theorem rsum_add (n : Nat) (f g : Nat → Int) : rsum n (fun i => f i + g i) = rsum n f + rsum n g := by
  induction n with
  | zero => rfl
  | succ n ih => rw [rsum_succ, rsum_succ, rsum_succ, ih]; (first | lia | omega)
theorem rsum_sub (n : Nat) (f g : Nat → Int) : rsum n (fun i => f i - g i) = rsum n f - rsum n g := by
  induction n with
  | zero => rfl
  | succ n ih => rw [rsum_succ, rsum_succ, rsum_succ, ih]; (first | lia | omega)
theorem rsum_nonneg {n : Nat} {f : Nat → Int} (h : ∀ i, i < n → 0 ≤ f i) : 0 ≤ rsum n f := by
  induction n with
  | zero => simp
  | succ n ih => rw [rsum_succ]; have := ih fun i hi => h i (by (first | lia | omega)); have := h n (by (first | lia | omega)); (first | lia | omega)
theorem rsum_zeros {n : Nat} {f : Nat → Int} (h : ∀ i, i < n → f i = 0) : rsum n f = 0 := by
  induction n with
  | zero => rfl
  | succ n ih => rw [rsum_succ, ih fun i hi => h i (by (first | lia | omega)), h n (by (first | lia | omega))]; rfl
theorem rsum_one {n a : Nat} {f : Nat → Int} (ha : a < n) (h : ∀ i, i < n → i ≠ a → f i = 0) : rsum n f = f a := by
  induction n with
  | zero => (first | lia | omega)
  | succ n ih =>
    rw [rsum_succ]
    by_cases q : a = n
    · subst q; rw [rsum_zeros fun i hi => h i (by (first | lia | omega)) (by (first | lia | omega))]; (first | lia | omega)
    · rw [ih (by (first | lia | omega)) fun i hi hne => h i (by (first | lia | omega)) hne, h n (by (first | lia | omega)) (by (first | lia | omega))]; (first | lia | omega)
end MP

end
section
namespace MP
noncomputable def cnt (c : Nat → Nat) : Nat → Nat → Nat → Int
  | 0, _, _ => 0
  | k + 1, u, v => cnt c k u v + if c k = u ∧ c (k + 1) = v then 1 else 0
noncomputable def aug (M : Nat → Nat → Int) (c : Nat → Nat) (m : Int) (k u v : Nat) : Int := M u v - m * cnt c k u v + m * cnt c k v u
theorem aug_zero (M : Nat → Nat → Int) (c : Nat → Nat) (m : Int) (u v : Nat) : aug M c m 0 u v = M u v := by simp [aug, cnt]
theorem aug_succ (M : Nat → Nat → Int) (c : Nat → Nat) (m : Int) (k : Nat) (u v : Nat) :
    put2 (put2 (aug M c m k) (c k) (c (k + 1)) (aug M c m k (c k) (c (k + 1)) - m)) (c (k + 1)) (c k) (put2 (aug M c m k) (c k) (c (k + 1)) (aug M c m k (c k) (c (k + 1)) - m) (c (k + 1)) (c k) + m) u v = aug M c m (k + 1) u v := by
  have e : aug M c m (k + 1) u v = aug M c m k u v - (if c k = u ∧ c (k + 1) = v then m else 0) + (if c k = v ∧ c (k + 1) = u then m else 0) := by
    unfold aug; simp only [cnt, Int.mul_add]
    split <;> split <;> simp <;> (first | lia | omega)
  rw [e]
  unfold put2
  by_cases q1 : u = c (k + 1) ∧ v = c k
  · obtain ⟨rfl, rfl⟩ := q1
    by_cases q2 : c k = c (k + 1)
    · simp [q2]
    · simp [q2, Ne.symm q2]
  · have q1' : ¬ (c k = v ∧ c (k + 1) = u) := fun ⟨a, b⟩ => q1 ⟨b.symm, a.symm⟩
    simp only [q1, q1', if_false]
    by_cases q2 : u = c k ∧ v = c (k + 1)
    · obtain ⟨rfl, rfl⟩ := q2
      simp
    · have q2' : ¬ (c k = u ∧ c (k + 1) = v) := fun ⟨a, b⟩ => q2 ⟨a.symm, b.symm⟩
      simp [q2, q2']

variable {n s t : Nat} {r : Nat → Nat → Prop} {prev : Nat → Option Nat} {q : List Nat}
theorem chain_pos (B : Bfs n r s prev q q.length 0) {k : Nat} {c : Nat → Nat} (C : Chain n r s prev q t k c) : ∀ j i, i < j → j ≤ k → ∃ a b : Nat, q[a]? = some (c i) ∧ q[b]? = some (c j) ∧ a < b := by
  have one : ∀ i, i < k → ∃ a b : Nat, q[a]? = some (c i) ∧ q[b]? = some (c (i + 1)) ∧ a < b := fun i hi => by
    obtain ⟨h1, h2, h3, h4, h5⟩ := C.st i hi
    obtain ⟨b, hb⟩ := List.mem_iff_getElem?.mp h5
    rcases Nat.eq_zero_or_pos b with z | z
    · subst z; rw [B.hd] at hb; cases hb; exact absurd rfl h3
    · obtain ⟨a, u, g1, g2, g3, _⟩ := B.par b _ z hb
      rw [h2] at g3; cases g3
      exact ⟨a, b, g1, hb, g2⟩
  intro j
  induction j with
  | zero => intro i hi; (first | lia | omega)
  | succ j ih =>
    intro i hi hj
    obtain ⟨a, b, h1, h2, h3⟩ := one j (by (first | lia | omega))
    rcases Nat.lt_or_ge i j with q' | q'
    · obtain ⟨a', b', g1, g2, g3⟩ := ih i q' (by (first | lia | omega))
      have := nodup_idx B.nod g2 h1
      exact ⟨a', b, g1, h2, by (first | lia | omega)⟩
    · have : i = j := by (first | lia | omega)
      subst this
      exact ⟨a, b, h1, h2, h3⟩
theorem chain_inj (B : Bfs n r s prev q q.length 0) {k : Nat} {c : Nat → Nat} (C : Chain n r s prev q t k c) {i j : Nat} (hi : i ≤ k) (hj : j ≤ k) (e : c i = c j) : i = j := by
  rcases Nat.lt_trichotomy i j with h | h | h
  · obtain ⟨a, b, h1, h2, h3⟩ := chain_pos B C j i h hj
    rw [e] at h1
    have := nodup_idx B.nod h1 h2; (first | lia | omega)
  · exact h
  · obtain ⟨a, b, h1, h2, h3⟩ := chain_pos B C i j h hi
    rw [e] at h2
    have := nodup_idx B.nod h1 h2; (first | lia | omega)
theorem chain_lt (B : Bfs n r s prev q q.length 0) {k : Nat} {c : Nat → Nat} (C : Chain n r s prev q t k c) {i : Nat} (hi : i ≤ k) : c i < n := by
  rcases Nat.eq_zero_or_pos i with z | z
  · subst z; rw [C.z]; exact B.lt _ (List.mem_of_getElem? B.hd)
  · have := (C.st (i - 1) (by (first | lia | omega))).1
    rw [show i - 1 + 1 = i by (first | lia | omega)] at this; exact this
theorem cnt_zero {c : Nat → Nat} {u v : Nat} : ∀ {k : Nat}, (∀ i, i < k → ¬ (c i = u ∧ c (i + 1) = v)) → cnt c k u v = 0
  | 0, _ => rfl
  | k + 1, h => by rw [cnt, cnt_zero fun i hi => h i (by (first | lia | omega)), if_neg (h k (by (first | lia | omega)))]; rfl
theorem cnt_one {c : Nat → Nat} {u v : Nat} : ∀ {k a : Nat}, a < k → (c a = u ∧ c (a + 1) = v) → (∀ i, i < k → i ≠ a → ¬ (c i = u ∧ c (i + 1) = v)) → cnt c k u v = 1
  | 0, a, ha, _, _ => by (first | lia | omega)
  | k + 1, a, ha, e, h => by
    rw [cnt]
    by_cases q : a = k
    · subst q
      rw [cnt_zero fun i hi => h i (by (first | lia | omega)) (by (first | lia | omega)), if_pos e]; rfl
    · rw [cnt_one (a := a) (by (first | lia | omega)) e fun i hi hne => h i (by (first | lia | omega)) hne, if_neg (h k (by (first | lia | omega)) (fun x => q x.symm))]; rfl
/-- the row of the source -/
theorem aug_row (B : Bfs n r s prev q q.length 0) {k : Nat} {c : Nat → Nat} (C : Chain n r s prev q t k c) (hk : 1 ≤ k) (M : Nat → Nat → Int) (m : Int) : rsum n (fun v => aug M c m k s v) = rsum n (fun v => M s v) - m := by
  have h1 : ∀ v, v < n → aug M c m k s v = M s v - (if v = c 1 then m else 0) := fun v _ => by
    have z1 : cnt c k v s = 0 := cnt_zero fun i hi e => (C.st i hi).2.2.1 e.2
    unfold aug
    rw [z1]
    by_cases q' : v = c 1
    · subst q'
      rw [cnt_one (a := 0) (by (first | lia | omega)) ⟨C.z, rfl⟩ fun i hi hne e => hne (chain_inj B C (by (first | lia | omega)) (by (first | lia | omega)) (e.1.trans C.z.symm)), if_pos rfl]; (first | lia | omega)
    · rw [cnt_zero fun i hi e => ?_, if_neg q']
      · simp
      · have : i = 0 := chain_inj B C (by (first | lia | omega)) (by (first | lia | omega)) (e.1.trans C.z.symm)
        subst this
        exact q' e.2.symm
  rw [rsum_congr h1, rsum_sub]
  congr 1
  rw [rsum_one (a := c 1) (chain_lt B C hk) fun i _ hne => if_neg hne, if_pos rfl]

theorem getIdx_arr1 {n i : Nat} (f : Nat → V) (h : i + 1 < n) : getIdx (arr n f) ((i : Int) + 1) = some (f (i + 1)) := by
  rw [show (i : Int) + 1 = ((i + 1 : Nat) : Int) by (first | lia | omega)]; exact getIdx_arr f h
theorem upTo_one (k : Nat) : (upTo 1 ((k : Int) + 1)).map V.int = arr k fun i => iv (i + 1) := by
  have := upTo_nat 1 (k + 1)
  unfold arr
  rw [show ((1 : Nat) : Int) = 1 from rfl, show ((k + 1 : Nat) : Int) = (k : Int) + 1 by (first | lia | omega)] at this
  rw [this, List.map_map, show k + 1 - 1 = k by (first | lia | omega)]
  apply List.map_congr_left
  intro i _
  simp only [Function.comp]
  congr 1; (first | lia | omega)

theorem max_flow_spec {G G1 G2 G3 : Par} {a : Nat} {es : List Edge} {h : H} {Q : V → H → Prop} (I : (Nat → Nat → Int) → Prop)
    (kcap : ∀ vs h Q, runFn G1 Core.capacity_table_fn vs h Q → G.Γ "capacity_table" vs h Q) (kaug : ∀ vs h Q, runFn G2 Core.augmenting_path_fn vs h Q → G.Γ "augmenting_path" vs h Q) (kpath : ∀ vs h Q, runFn G3 Core.path_to_fn vs h Q → G2.Γ "path_to" vs h Q)
    (hn : n ≤ 1000) (hs : s < n) (ht : t < n) (hst : s ≠ t) (he : Rd h (.ref a) (edgesD es)) (hok : okEdges n es)
    (i0 : ∀ M, (∀ u v, u < n → v < n → M u v = capM es u v) → I M) (ipos : ∀ M, I M → ∀ u v, u < n → v < n → 0 ≤ M u v)
    (istep : ∀ M M' prev q k c m, I M → Bfs n (fun u v => 0 < M u v) s prev q q.length 0 → Chain n (fun u v => 0 < M u v) s prev q t k c → 1 ≤ k → 0 < m → (∀ i, i < k → m ≤ M (c i) (c (i + 1))) → (∃ i, i < k ∧ m = M (c i) (c (i + 1))) → (∀ u v, u < n → v < n → M' u v = aug M c m k u v) → I M')
    (hQ : ∀ M prev q f rows h', I M → Bfs n (fun u v => 0 < M u v) s prev q q.length 0 → t ∉ q → Ext h h' → h f = Option.none → Tab h' f n rows (fun u v => max (capM es u v - M u v) 0) → Q (.ref f) h') :
    runFn G Core.max_flow_fn [iv n, .ref a, iv s, iv t] h Q := by
  refine runFn_of rfl ?_
  have hnl : inLim (n : Int) := by unfold inLim; (first | lia | omega)
  have hst' : ¬ ((s : Int) = (t : Int)) := by (first | lia | omega)
  simp [Core.max_flow_fn, Core.max_flow_body, hnl, hst']
  refine kcap _ _ _ (capacity_table_spec hn he hok fun ct cr hc xc _ _ TC => ?_)
  simp [TC.top]
  refine compW_rows (m := n) (fun i => .ref (cr i)) (fun i j => .int (capM es i j)) TC.top ?_ ?_
  · intro i hi h' K hx hK
    simp [hx _ _ (TC.row i hi)]
    exact fun r hr => hK r hr
  intro rr h1 x1 hr hi
  refine ⟨x1 _ _ TC.top, fun rt hrt => fun p0 hp0 => ?_⟩
  have x2 : Ext h1 (h1.set rt (.list (arr n fun i => .ref (rr i)))) := Ext.new _ hrt
  have x3 := x2.trans (Ext.new (.list []) hp0)
  have TR : Tab ((h1.set rt (.list (arr n fun i => .ref (rr i)))).set p0 (.list [])) rt n rr (capM es) := by
    refine ⟨(Ext.new _ hp0) _ _ (by simp), fun i hi' => x3 _ _ (hr i hi').2, hi, fun i hi' e => ?_⟩
    rw [← e, (hr i hi').2] at hrt; cases hrt
  simp [hst']
  refine kaug _ _ _ (augmenting_path_spec kpath hn hs ht TR fun prev q way B W pr h2 g1 g2 g3 => ?_)
  refine while_inv (fun m σ h' => ∃ M prev q way pr, m = (rsum n fun v => M s v).toNat ∧ I M ∧ Tab h' rt n rr M ∧ Ext hc h' ∧ Bfs n (fun u v => 0 < M u v) s prev q q.length 0 ∧ IsWay n (fun u v => 0 < M u v) s t prev q way ∧ (∀ i, i < n → rr i ≠ pr) ∧ h' pr = some (.list (way.map iv)) ∧
      σ "n" = some (iv n) ∧ σ "source" = some (iv s) ∧ σ "sink" = some (iv t) ∧ σ "capacity" = some (.ref ct) ∧ σ "room" = some (.ref rt) ∧ σ "path" = some (.ref pr)) ?_ (j := (rsum n fun v => capM es s v).toNat) ?_
  · rintro m σ h' K ⟨M, prev, q, way, pr, rfl, iM, T, xh, B, W, hne, ep, e1, e2, e3, e4, e5, e6⟩ hK
    simp [e6, ep]
    rcases W with ⟨w1, _⟩ | ⟨w1, w2, rfl⟩ | ⟨w1, k, c, C, hk, rfl⟩
    · exact absurd w1 hst
    · simp [e1, hnl]
      have TC' := TC.ext xh
      refine compW_rows (m := n) iv (fun u v => .int (max (capM es u v - M u v) 0)) trivial ?_ ?_
      · intro u hu h3 K3 x4 hK3
        have TC3 := TC'.ext x4
        have T3 := T.ext x4
        try simp [e1, hnl]
        refine compW_arr (fun v => .int (max (capM es u v - M u v) 0)) (fun v hv K4 hK4 => ?_) ⟨trivial, fun r hr => hK3 r hr⟩
        simp [e4, e5, TC3.top, TC3.row _ hu, T3.top, T3.row _ hu, getIdx_arr, hu, hv]
        exact hK4
      · intro rows h3 x4 hr3 hi3
        refine ⟨trivial, fun f hf => ?_⟩
        have hf0 : h f = Option.none := (xc.trans (xh.trans x4)).none hf
        refine hQ M prev q f rows _ iM B w2 ((xc.trans (xh.trans x4)).trans (Ext.new _ hf)) hf0 ⟨by simp, fun i hi' => ?_, hi3, fun i hi' e => ?_⟩
        · rw [H.set_other _ _ (ne_of_none (hr3 i hi').2 hf)]; exact (hr3 i hi').2
        · exact ne_of_none (hr3 i hi').2 hf e
    · have k1 : 1 ≤ k := by
        rcases Nat.eq_zero_or_pos k with z | z
        · subst z; exact absurd (C.z.symm.trans C.e) w1
        · exact z
      have ep' : h' pr = some (.list (arr (k + 1) fun i => iv (c i))) := by rw [ep, List.map_map]; rfl
      have l1 : inLim 1 := by unfold inLim; (first | lia | omega)
      have lk' : inLim ((k : Int) + 1) := by unfold inLim; (first | lia | omega)
      have pos' : (0 : Int) < (k : Int) + 1 := by (first | lia | omega)
      simp [pos', Core.max_flow_b1, e6, ep', l1, lk', upTo_one]
      refine compW_ext (fun i => iv (i + 1)) (fun i => .int (M (c i) (c (i + 1)))) trivial ?_ ?_
      · intro i hi' h3 K3 x4 hK3
        have T3 := T.ext x4
        have ep3 := x4 _ _ ep'
        have c0 := chain_lt B C (i := i) (by (first | lia | omega))
        have c1 := chain_lt B C (i := i + 1) (by (first | lia | omega))
        simp [e5, ep3, getIdx_arr, getIdx_arr1, show i < k + 1 by (first | lia | omega), show i + 1 < k + 1 by (first | lia | omega), hi', T3.top, T3.row _ c0, c0, c1]
        exact hK3 _ (Ext.refl _)
      · intro h3 x4
        refine ⟨trivial, fun z hz => ?_⟩
        have x5 := x4.trans (Ext.new (.list (arr k fun i => .int (M (c i) (c (i + 1))))) hz)
        simp
        have hne0 : ((List.range k).map fun i => M (c i) (c (i + 1))) ≠ [] := by
          intro e; rw [List.map_eq_nil_iff, List.range_eq_nil] at e; (first | lia | omega)
        refine ints1K_some _ _ hne0 ?_
        obtain ⟨i₀, hi₀, hm⟩ := List.mem_map.mp (minL_mem hne0)
        have hi₀ := List.mem_range.mp hi₀
        have hle : ∀ i, i < k → minL ((List.range k).map fun i => M (c i) (c (i + 1))) ≤ M (c i) (c (i + 1)) := fun i hi' => minL_le (List.mem_map.mpr ⟨i, List.mem_range.mpr hi', rfl⟩)
        generalize minL ((List.range k).map fun i => M (c i) (c (i + 1))) = m at hm hle
        have hm0 : 0 < m := by rw [← hm]; exact (C.st i₀ hi₀).2.2.2.1
        have hzp : pr ≠ z := ne_of_none (x4 _ _ ep') hz
        simp [hzp, x4 _ _ ep', lk', upTo_one]
        refine forW_arrG (fun i σ h' => Tab h' rt n rr (aug M c m i) ∧ Ext hc h' ∧ h' pr = some (.list (arr (k + 1) fun i => iv (c i))) ∧
          σ "n" = some (iv n) ∧ σ "source" = some (iv s) ∧ σ "sink" = some (iv t) ∧ σ "capacity" = some (.ref ct) ∧ σ "room" = some (.ref rt) ∧ σ "path" = some (.ref pr) ∧ σ "narrowest" = some (.int m)) ?_ ?_ ?_
        · exact ⟨(T.ext x5).congr fun u v _ _ => (aug_zero M c m u v).symm, xh.trans x5, x5 _ _ ep', by simp [e1], by simp [e2], by simp [e3], by simp [e4], by simp [e5], by simp [e6], by simp⟩
        · rintro i σ h5 K5 hi' ⟨T5, xh5, ep5, f1, f2, f3, f4, f5, f6, f7⟩ hK5
          have c0 := chain_lt B C (i := i) (by (first | lia | omega))
          have c1 := chain_lt B C (i := i + 1) (by (first | lia | omega))
          have T6 := T5.put (c (i + 1)) (aug M c m i (c i) (c (i + 1)) - m) c0
          have T7 := T6.put (c i) (put2 (aug M c m i) (c i) (c (i + 1)) (aug M c m i (c i) (c (i + 1)) - m) (c (i + 1)) (c i) + m) c1
          simp only [Core.max_flow_b2, execs_cons, exec_assign, exec_set, ev_sub, ev_var, ev_bin, ev_int, upd_apply, f5, f6, f7, optK_some, binop_sub, binop_add, subW_ref, ep5, seqsK_list, thenK_next, reduceCtorEq, String.reduceEq, if_true, if_false]
          rw [show ((i + 1 : Nat) : Int) - 1 = (i : Nat) by (first | lia | omega)]
          simp only [subW_ref, getIdx_arr, show i < k + 1 by (first | lia | omega), show i + 1 < k + 1 by (first | lia | omega), optK_some, T5.top, T5.row _ c0, seqsK_list, c0, c1, binop_sub, setSub_ref, listK_some, arr_length]
          refine ⟨by (first | lia | omega), by (first | lia | omega), ?_⟩
          rw [Int.toNat_natCast]
          simp only [subW_ref, T6.top, T6.row _ c1, getIdx_arr, c0, c1, optK_some, seqsK_list, binop_add, setSub_ref, listK_some, arr_length]
          refine ⟨by (first | lia | omega), by (first | lia | omega), ?_⟩
          rw [Int.toNat_natCast]
          simp only [execs_nil]
          refine hK5 _ _ ⟨T7.congr fun u v _ _ => aug_succ M c m i u v, (xh5.set _ (hr _ c0).1).set _ (hr _ c1).1, ?_, by simp [f1], by simp [f2], by simp [f3], by simp [f4], by simp [f5], by simp [f6], by simp [f7]⟩
          rw [H.set_other _ _ (hne _ c1).symm, H.set_other _ _ (hne _ c0).symm]; exact ep5
        · rintro σ h5 ⟨T5, xh5, ep5, f1, f2, f3, f4, f5, f6, f7⟩
          simp [f1, f2, f3, f5]
          have iM' : I (aug M c m k) := istep M _ prev q k c m iM B C k1 hm0 hle ⟨i₀, hi₀, hm.symm⟩ fun _ _ _ _ => rfl
          refine kaug _ _ _ (augmenting_path_spec kpath hn hs ht T5 fun prev' q' way' B' W' pr' h6 g1 g2 g3 => ?_)
          have hdec : rsum n (fun v => aug M c m k s v) = rsum n (fun v => M s v) - m := aug_row B C k1 M m
          have hp1 : 0 ≤ rsum n (fun v => aug M c m k s v) := rsum_nonneg fun v hv => ipos _ iM' s v hs hv
          refine hK (rsum n fun v => aug M c m k s v).toNat _ _ (by (first | lia | omega)) ⟨_, prev', q', way', pr', rfl, iM', T5.ext g2, xh5.trans g2, B', W', fun i hi' => ne_of_none (T5.row i hi') g1, g3, by simp [f1], by simp [f2], by simp [f3], by simp [f4], by simp [f5], by simp⟩
  · refine ⟨capM es, prev, q, way, pr, rfl, i0 _ fun _ _ _ _ => rfl, TR.ext g2, (x1.trans x3).trans g2, B, W, fun i hi' => ne_of_none (TR.row i hi') g1, g3, by simp, by simp, by simp, by simp, by simp, by simp⟩
end MP

end
section
namespace MP
/-- within reach of the source -/
inductive Rch (n : Nat) (r : Nat → Nat → Prop) (s : Nat) : Nat → Prop
  | nil : Rch n r s s
  | snoc {u v : Nat} : Rch n r s u → u < n → v < n → r u v → Rch n r s v

structure Sid (n : Nat) (r : Nat → Nat → Prop) (s : Nat) (S : Nat → Bool) (q : List Nat) (p j : Nat) : Prop where
  nod : q.Nodup
  lt : ∀ u ∈ q, u < n
  mem : ∀ v, v < n → (S v = true ↔ v ∈ q)
  src : s ∈ q
  rch : ∀ v ∈ q, Rch n r s v
  clo : ∀ (i u v : Nat), (i < p ∨ (i = p ∧ v < j)) → q[i]? = some u → v < n → r u v → v ∈ q

variable {n s : Nat} {r : Nat → Nat → Prop} {S : Nat → Bool} {q : List Nat} {p j : Nat}
theorem Sid.start (hs : s < n) : Sid n r s (fun v => decide (v = s)) [s] 0 0 where
  nod := by simp
  lt := by simp [hs]
  mem := fun v _ => by simp
  src := by simp
  rch := fun v hv => by simp at hv; subst hv; exact .nil
  clo := fun i u v h => by (first | lia | omega)
theorem Sid.skip (B : Sid n r s S q p j) {u : Nat} (hu : q[p]? = some u) (hno : ¬ (S j = false ∧ r u j)) (hj : j < n) : Sid n r s S q p (j + 1) where
  nod := B.nod
  lt := B.lt
  mem := B.mem
  src := B.src
  rch := B.rch
  clo := fun i u' v h e hv hr => by
    by_cases hc : i = p ∧ v = j
    · obtain ⟨rfl, rfl⟩ := hc
      rw [hu] at e; cases e
      refine (B.mem v hv).mp ?_
      cases q' : S v with
      | true => rfl
      | false => exact absurd ⟨q', hr⟩ hno
    · exact B.clo i u' v (by (first | lia | omega)) e hv hr
theorem Sid.add (B : Sid n r s S q p j) {u : Nat} (hu : q[p]? = some u) (hS : S j = false) (hr : r u j) (hj : j < n) : Sid n r s (fun v => if v = j then true else S v) (q ++ [j]) p (j + 1) := by
  have hjq : j ∉ q := fun hm => by rw [(B.mem j hj).mpr hm] at hS; cases hS
  have hun := B.lt u (List.mem_of_getElem? hu)
  refine ⟨?_, fun v hv => ?_, fun v hv => ?_, List.mem_append_left _ B.src, fun v hv => ?_, fun i x v h e hv hrv => ?_⟩
  · rw [List.nodup_append]
    exact ⟨B.nod, by simp, fun a ha b hb e => by simp at hb; subst hb; exact hjq (e ▸ ha)⟩
  · rcases List.mem_append.mp hv with h | h
    · exact B.lt v h
    · simp at h; (first | lia | omega)
  · by_cases q' : v = j
    · simp [q']
    · simp [q', B.mem v hv]
  · rcases List.mem_append.mp hv with h | h
    · exact B.rch v h
    · simp at h; subst h
      exact .snoc (B.rch u (List.mem_of_getElem? hu)) hun hj hr
  · rcases Nat.lt_or_ge i q.length with h' | h'
    · rw [List.getElem?_append_left h'] at e
      by_cases hc : i = p ∧ v = j
      · exact List.mem_append_right _ (by simp [hc.2])
      · exact List.mem_append_left _ (B.clo i x v (by (first | lia | omega)) e hv hrv)
    · have := (List.getElem?_eq_some_iff.mp hu).1
      (first | lia | omega)
theorem Sid.next (B : Sid n r s S q p n) : Sid n r s S q (p + 1) 0 where
  nod := B.nod
  lt := B.lt
  mem := B.mem
  src := B.src
  rch := B.rch
  clo := fun i u v h e hv hr => B.clo i u v (by (first | lia | omega)) e hv hr
theorem Sid.len (B : Sid n r s S q p j) : q.length ≤ n := nodup_len n q B.nod B.lt

/-- just the points within reach -/
noncomputable def SideOk (n : Nat) (r : Nat → Nat → Prop) (s : Nat) (S : Nat → Bool) : Prop := ∀ v, v < n → (S v = true ↔ Rch n r s v)
theorem Sid.fin (B : Sid n r s S q q.length 0) (hs : s < n) : SideOk n r s S := fun v hv => by
  refine ⟨fun h => B.rch v ((B.mem v hv).mp h), fun h => ?_⟩
  have : ∀ x, Rch n r s x → x ∈ q := fun x hx => by
    induction hx with
    | nil => exact B.src
    | snoc _ hu hv' hr ih =>
      obtain ⟨a, ha⟩ := List.mem_iff_getElem?.mp ih
      exact B.clo a _ _ (.inl (List.getElem?_eq_some_iff.mp ha).1) ha hv' hr
  exact (B.mem v hv).mpr (this v h)
/-- a set that holds the source, is closed, and lies within reach -/
theorem SideOk.eq (h : SideOk n r s S) (X : Nat → Bool) (h0 : X s = true) (hc : ∀ u v, u < n → v < n → X u = true → r u v → X v = true) (hr : ∀ v, v < n → X v = true → Rch n r s v) : ∀ v, v < n → S v = X v := fun v hv => by
  have : ∀ x, Rch n r s x → X x = true := fun x hx => by
    induction hx with
    | nil => exact h0
    | snoc _ hu hv' hr ih => exact hc _ _ hu hv' ih hr
  cases q1 : S v with
  | true => exact (this v ((h v hv).mp q1)).symm
  | false =>
    cases q2 : X v with
    | false => rfl
    | true => rw [(h v hv).mpr (hr v hv q2)] at q1; cases q1

theorem source_side_spec {G G1 : Par} {a f : Nat} {es : List Edge} {rows : Nat → Nat} {F : Nat → Nat → Int} {h : H} {Q : V → H → Prop}
    (kcap : ∀ vs h Q, runFn G1 Core.capacity_table_fn vs h Q → G.Γ "capacity_table" vs h Q)
    (hn : n ≤ 1000) (hs : s < n) (he : Rd h (.ref a) (edgesD es)) (hok : okEdges n es) (T : Tab h f n rows F)
    (hQ : ∀ S, SideOk n (fun u v => F u v < capM es u v ∨ 0 < F v u) s S → Ret h Q (arr n fun v => .bool (S v))) :
    runFn G Core.source_side_fn [iv n, .ref a, .ref f, iv s] h Q := by
  refine runFn_of rfl ?_
  have hnl : inLim (n : Int) := by unfold inLim; (first | lia | omega)
  simp [Core.source_side_fn, Core.source_side_body, hnl]
  refine kcap _ _ _ (capacity_table_spec hn he hok fun ct cr hc xc _ _ TC => ?_)
  try simp [hnl]
  refine compW_arr (fun _ => .bool false) (fun i hi K hK => by simpa using hK) ⟨trivial, fun sa hsa => ?_⟩
  simp [hs, alloc]
  intro qa hqa
  have hsq : sa ≠ qa := fun e => by subst e; simp at hqa
  have hqa0 : hc qa = Option.none := by simpa [Ne.symm hsq] using hqa
  refine while_inv (fun m σ h' => ∃ S q p, Sid n (fun u v => F u v < capM es u v ∨ 0 < F v u) s S q p 0 ∧ m = n - p ∧ p ≤ q.length ∧ σ "n" = some (iv n) ∧ σ "capacity" = some (.ref ct) ∧ σ "flow" = some (.ref f) ∧
      σ "side" = some (.ref sa) ∧ σ "queue" = some (.ref qa) ∧ σ "place" = some (iv p) ∧ Ext hc h' ∧ h' sa = some (.list (arr n fun v => .bool (S v))) ∧ h' qa = some (.list (q.map iv))) ?_ (j := n) ?_
  · rintro m σ h' K ⟨S, q, p, B, rfl, hp, e1, e2, e3, e5, e6, e7, hx, hh1, hh2⟩ hK
    simp [e7, e6, hh2]
    by_cases hlt : p < q.length
    · have hlt' : (p : Int) < (q.length : Int) := by (first | lia | omega)
      simp only [hlt, if_true]
      have hlen := B.len
      have hu : q[p]? = some q[p] := List.getElem?_eq_getElem hlt
      simp [Core.source_side_b1, e6, hh2, e7, getIdx_nat, hu, e1, hnl]
      refine forW_arr (fun v σ h' => ∃ S q', Sid n (fun u v => F u v < capM es u v ∨ 0 < F v u) s S q' p v ∧ q'[p]? = some q[p] ∧ σ "n" = some (iv n) ∧ σ "capacity" = some (.ref ct) ∧ σ "flow" = some (.ref f) ∧
        σ "side" = some (.ref sa) ∧ σ "queue" = some (.ref qa) ∧ σ "place" = some (iv (p + 1)) ∧ σ "u" = some (iv q[p]) ∧ Ext hc h' ∧ h' sa = some (.list (arr n fun v => .bool (S v))) ∧ h' qa = some (.list (q'.map iv))) ?_ ?_ ?_
      · exact ⟨S, q, B, hu, by simp [e1], by simp [e2], by simp [e3], by simp [e5], by simp [e6], by simp, by simp, hx, hh1, hh2⟩
      · rintro v σ h' K' hv ⟨S, q', B, hu', e1, e2, e3, e5, e6, e7, e8, hx, hh1, hh2⟩ hK'
        have hun : q[p] < n := B.lt _ (List.mem_of_getElem? hu')
        have TC' := TC.ext hx
        have T' := T.ext (xc.trans hx)
        simp [Core.source_side_b2, e2, e3, e8, T'.top, T'.row _ hun, T'.row _ hv, TC'.top, TC'.row _ hun, getIdx_arr, hun, hv, e5, hh1]
        have keepσ : ∀ S q' h', Sid n (fun u v => F u v < capM es u v ∨ 0 < F v u) s S q' p (v + 1) → q'[p]? = some q[p] → Ext hc h' → h' sa = some (.list (arr n fun v => .bool (S v))) → h' qa = some (.list (q'.map iv)) → K' .next (upd σ "v" (iv v)) h' :=
          fun S q' h' b1 b2 b3 b4 b5 => hK' _ _ ⟨S, q', b1, b2, by simp [e1], by simp [e2], by simp [e3], by simp [e5], by simp [e6], by simp [e7], by simp [e8], b3, b4, b5⟩
        have addit : S v = false → (F q[p] v < capM es q[p] v ∨ 0 < F v q[p]) → execs G Core.source_side_b3 (upd σ "v" (iv v)) h' K' := fun c1 c2 => by
          simp [Core.source_side_b3, e5, e6, hh1, hv, hh2, Ne.symm hsq]
          have hl2 := B.len
          refine ⟨by unfold lim; (first | lia | omega), keepσ (fun x => if x = v then true else S x) (q' ++ [v]) _ (B.add hu' c1 c2 hv) ?_ ((hx.set _ hsa).set _ hqa0) ?_ ?_⟩
          · rw [List.getElem?_append_left (List.getElem?_eq_some_iff.mp hu').1]; exact hu'
          · rw [H.set_other _ _ hsq, H.set_self, arr_set]
            congr 2
            refine arr_congr fun j _ => ?_
            split <;> rfl
          · simp
        cases c1 : S v with
        | true =>
          simp
          exact keepσ _ _ _ (B.skip hu' (fun q => by rw [q.1] at c1; cases c1) hv) hu' hx hh1 hh2
        | false =>
          simp
          by_cases c2 : F q[p] v < capM es q[p] v
          · simp only [c2, if_true]
            exact addit c1 (.inl c2)
          · simp only [c2, if_false]
            by_cases c3 : 0 < F v q[p]
            · simp only [c3, if_true]
              exact addit c1 (.inr c3)
            · simp only [c3, if_false]
              exact keepσ _ _ _ (B.skip hu' (fun q => by rcases q.2 with h | h <;> contradiction) hv) hu' hx hh1 hh2
      · rintro σ h' ⟨S, q', B, hu', e1, e2, e3, e5, e6, e7, e8, hx, hh1, hh2⟩
        have hp' : p < q'.length := (List.getElem?_eq_some_iff.mp hu').1
        simp
        exact hK (n - (p + 1)) _ _ (by have := B.len; (first | lia | omega)) ⟨S, q', p + 1, B.next, rfl, hp', e1, e2, e3, e5, e6, e7, hx, hh1, hh2⟩
    · simp only [hlt, if_false]
      have hpl : p = q.length := by (first | lia | omega)
      subst hpl
      simp [e5]
      exact hQ S (B.fin hs) sa h' (xc.none hsa) (xc.trans hx) hh1
  · refine ⟨fun v => decide (v = s), [s], 0, Sid.start hs, rfl, by simp, by simp, by simp, by simp, by simp, by simp, by simp, ?_, ?_, by simp⟩
    · exact ((Ext.new _ hsa).set _ hsa).set _ hqa0
    · rw [H.set_other _ _ hsq, H.set_self, arr_set]
      congr 2
      refine arr_congr fun j _ => ?_
      by_cases q : j = s <;> simp [q]

theorem flow_value_spec {G : Par} {f x : Nat} {rows : Nat → Nat} {F : Nat → Nat → Int} {h : H} {Q : V → H → Prop} (hx : x < n) (T : Tab h f n rows F)
    (hQ : ∀ h', Ext h h' → Q (.int (rsum n (fun j => F x j) - rsum n (fun i => F i x))) h') : runFn G Core.flow_value_fn [.ref f, iv x] h Q := by
  refine runFn_of rfl ?_
  simp [Core.flow_value_fn, Core.flow_value_body, T.top, getIdx_arr, hx, T.row _ hx]
  refine compW_ext (fun i => .ref (rows i)) (fun i => .int (F i x)) T.top ?_ ?_
  · intro i hi h' K hx' hK
    simp [hx' _ _ (T.row i hi), getIdx_arr, hx]
    exact hK _ (Ext.refl _)
  · intro h' hx'
    refine ⟨hx' _ _ T.top, fun z hz => ?_⟩
    simp
    exact hQ _ (hx'.trans (Ext.new _ hz))
end MP

end
section
/-! What every augmentation keeps: nothing below nought, pairs of a fixed sum, what comes in goes out. -/
namespace MP
structure FlowInv (n s t : Nat) (C M : Nat → Nat → Int) : Prop where
  nn : ∀ u v, u < n → v < n → 0 ≤ M u v
  pair : ∀ u v, u < n → v < n → M u v + M v u = C u v + C v u
  cons : ∀ x, x < n → x ≠ s → x ≠ t → rsum n (fun y => C x y - M x y) = 0

variable {n s t : Nat} {C M : Nat → Nat → Int}
theorem FlowInv.start (hC : ∀ u v, u < n → v < n → 0 ≤ C u v) (h : ∀ u v, u < n → v < n → M u v = C u v) : FlowInv n s t C M :=
  ⟨fun u v hu hv => by rw [h u v hu hv]; exact hC u v hu hv, fun u v hu hv => by rw [h u v hu hv, h v u hv hu], fun x hx _ _ => rsum_zeros fun y hy => by rw [h x y hx hy]; (first | lia | omega)⟩

theorem rsum_mul (n : Nat) (m : Int) (f : Nat → Int) : rsum n (fun i => m * f i) = m * rsum n f := by
  induction n with
  | zero => simp
  | succ n ih => rw [rsum_succ, rsum_succ, ih, Int.mul_add]

theorem cnt_nn (c : Nat → Nat) (u v : Nat) : ∀ k, 0 ≤ cnt c k u v
  | 0 => Int.le_refl _
  | k + 1 => by rw [cnt]; have := cnt_nn c u v k; split <;> (first | lia | omega)
theorem cnt_out (c : Nat → Nat) (x : Nat) : ∀ k, (∀ i, i ≤ k → c i < n) → rsum n (fun y => cnt c k x y) - rsum n (fun y => cnt c k y x) = (if c 0 = x then 1 else 0) - (if c k = x then 1 else 0)
  | 0, _ => by
    rw [rsum_zeros (f := fun y => cnt c 0 x y) fun i _ => rfl, rsum_zeros (f := fun y => cnt c 0 y x) fun i _ => rfl]; (first | lia | omega)
  | k + 1, hc => by
    have ih := cnt_out c x k fun i hi => hc i (by (first | lia | omega))
    have e1 : rsum n (fun y => cnt c (k + 1) x y) = rsum n (fun y => cnt c k x y) + (if c k = x then 1 else 0) := by
      rw [show (fun y => cnt c (k + 1) x y) = fun y => cnt c k x y + (if c k = x ∧ c (k + 1) = y then 1 else 0) from rfl, rsum_add]
      congr 1
      rw [rsum_one (a := c (k + 1)) (hc (k + 1) (by (first | lia | omega))) fun i _ hne => if_neg fun h => hne h.2.symm]
      by_cases q : c k = x <;> simp [q]
    have e2 : rsum n (fun y => cnt c (k + 1) y x) = rsum n (fun y => cnt c k y x) + (if c (k + 1) = x then 1 else 0) := by
      rw [show (fun y => cnt c (k + 1) y x) = fun y => cnt c k y x + (if c k = y ∧ c (k + 1) = x then 1 else 0) from rfl, rsum_add]
      congr 1
      rw [rsum_one (a := c k) (hc k (by (first | lia | omega))) fun i _ hne => if_neg fun h => hne h.1.symm]
      by_cases q : c (k + 1) = x <;> simp [q]
    rw [e1, e2]; (first | lia | omega)

theorem FlowInv.step {prev : Nat → Option Nat} {q : List Nat} {k : Nat} {c : Nat → Nat} {m : Int} {M' : Nat → Nat → Int} (I : FlowInv n s t C M) (B : Bfs n (fun u v => 0 < M u v) s prev q q.length 0) (Ch : Chain n (fun u v => 0 < M u v) s prev q t k c)
    (hm : 0 < m) (hle : ∀ i, i < k → m ≤ M (c i) (c (i + 1))) (he : ∀ u v, u < n → v < n → M' u v = aug M c m k u v) : FlowInv n s t C M' := by
  refine ⟨fun u v hu hv => ?_, fun u v hu hv => ?_, fun x hx hxs hxt => ?_⟩
  · rw [he u v hu hv]
    have h1 := cnt_nn c v u k
    have h2 := I.nn u v hu hv
    have h3 : 0 ≤ m * cnt c k v u := Int.mul_nonneg (by (first | lia | omega)) h1
    have h4 : m * cnt c k u v ≤ M u v := by
      by_cases ex : ∃ i, i < k ∧ c i = u ∧ c (i + 1) = v
      · obtain ⟨i, hi, rfl, rfl⟩ := ex
        rw [cnt_one hi ⟨rfl, rfl⟩ fun j hj hne e => hne (chain_inj B Ch (by (first | lia | omega)) (by (first | lia | omega)) e.1)]
        have := hle i hi
        (first | lia | omega)
      · rw [cnt_zero fun i hi e => ex ⟨i, hi, e⟩]; (first | lia | omega)
    unfold aug; (first | lia | omega)
  · rw [he u v hu hv, he v u hv hu]
    have := I.pair u v hu hv
    unfold aug; (first | lia | omega)
  · have h1 := I.cons x hx hxs hxt
    have h2 := cnt_out (n := n) c x k fun i hi => chain_lt B Ch hi
    rw [if_neg (by rw [Ch.z]; exact fun e => hxs e.symm), if_neg (by rw [Ch.e]; exact fun e => hxt e.symm)] at h2
    have e : ∀ y, y < n → C x y - M' x y = (C x y - M x y) + (m * cnt c k x y - m * cnt c k y x) := fun y hy => by
      rw [he x y hx hy]; unfold aug; (first | lia | omega)
    rw [rsum_congr e, rsum_add, h1, rsum_sub, rsum_mul, rsum_mul]
    have h3 : rsum n (fun y => cnt c k x y) = rsum n (fun y => cnt c k y x) := by (first | lia | omega)
    rw [h3]; (first | lia | omega)
end MP

end
section
/-! The frame of seven edges: its flow and its cuts. -/
namespace MP.L106
open MP
noncomputable def fu : Nat → Nat
  | 0 => 0 | 1 => 0 | 2 => 1 | 3 => 1 | 4 => 2 | 5 => 3 | _ => 4
noncomputable def fv : Nat → Nat
  | 0 => 1 | 1 => 2 | 2 => 3 | 3 => 4 | 4 => 3 | 5 => 5 | _ => 5
/-- a flow along the frame -/
structure Fl (c f : Nat → Int) : Prop where
  lo : ∀ k, k < 7 → 0 ≤ f k
  hi : ∀ k, k < 7 → f k ≤ c k
  n1 : f 0 = f 2 + f 3
  n2 : f 1 = f 4
  n3 : f 5 = f 2 + f 4
  n4 : f 6 = f 3
noncomputable def term (c : Nat → Int) (g : Int) : Int := g + min (min (c 0 - g) (c 3)) (c 6) + min (min (c 1) (c 4)) (c 5 - g)
/-- the greatest term, or nought -/
structure Best (c : Nat → Int) (B : Int) : Prop where
  nn : 0 ≤ B
  all : ∀ g : Int, 0 ≤ g → g ≤ min (min (c 0) (c 2)) (c 5) → term c g ≤ B
  one : B = 0 ∨ ∃ g : Int, 0 ≤ g ∧ g ≤ min (min (c 0) (c 2)) (c 5) ∧ B = term c g
/-- a cut that the flow fills -/
structure Cut (c f : Nat → Int) (b : Nat → Bool) : Prop where
  src : b 0 = true
  snk : b 5 = false
  full : ∀ k, k < 7 → b (fu k) = true → b (fv k) = false → f k = c k
  void : ∀ k, k < 7 → b (fv k) = true → b (fu k) = false → f k = 0
noncomputable def acr (c : Nat → Int) (b : Nat → Bool) (k : Nat) : Int := if b (fu k) = true ∧ b (fv k) = false then c k else 0
noncomputable def across (c : Nat → Int) (b : Nat → Bool) : Int := acr c b 0 + acr c b 1 + acr c b 2 + acr c b 3 + acr c b 4 + acr c b 5 + acr c b 6

theorem val_le {c f : Nat → Int} {B : Int} (F : Fl c f) (hB : Best c B) : f 0 + f 1 ≤ B := by
  have h0 := F.hi 0 (by decide); have h1 := F.hi 1 (by decide); have h2 := F.hi 2 (by decide); have h3 := F.hi 3 (by decide); have h4 := F.hi 4 (by decide); have h5 := F.hi 5 (by decide); have h6 := F.hi 6 (by decide)
  have l2 := F.lo 2 (by decide); have l3 := F.lo 3 (by decide); have l4 := F.lo 4 (by decide)
  have n1 := F.n1; have n2 := F.n2; have n3 := F.n3; have n4 := F.n4
  have := hB.all (f 2) l2 (by (first | lia | omega))
  unfold term at this
  lia
theorem acr_net {c f : Nat → Int} {b : Nat → Bool} (C : Cut c f b) {k : Nat} (hk : k < 7) : acr c b k = (if b (fu k) = true then f k else 0) - (if b (fv k) = true then f k else 0) := by
  unfold acr
  cases h1 : b (fu k) <;> cases h2 : b (fv k) <;> simp
  · have := C.void k hk h2 h1; lia
  · exact (C.full k hk h1 h2).symm
theorem across_val {c f : Nat → Int} {b : Nat → Bool} (F : Fl c f) (C : Cut c f b) : across c b = f 0 + f 1 := by
  unfold across
  rw [acr_net C (k := 0) (by decide), acr_net C (k := 1) (by decide), acr_net C (k := 2) (by decide), acr_net C (k := 3) (by decide), acr_net C (k := 4) (by decide), acr_net C (k := 5) (by decide), acr_net C (k := 6) (by decide)]
  simp only [fu, fv, C.src, C.snk, if_true, Bool.false_eq_true, if_false]
  have n1 := F.n1; have n2 := F.n2; have n3 := F.n3; have n4 := F.n4
  cases b 1 <;> cases b 2 <;> cases b 3 <;> cases b 4 <;> simp <;> lia
theorem term_le (c : Nat → Int) (g : Int) : term c g ≤ c 0 + c 1 ∧ term c g ≤ c 0 + c 4 ∧ term c g ≤ c 0 - g + c 5 ∧ term c g ≤ g + c 3 + c 1 ∧ term c g ≤ g + c 3 + c 4 ∧ term c g ≤ c 3 + c 5 ∧ term c g ≤ g + c 6 + c 1 ∧ term c g ≤ g + c 6 + c 4 ∧ term c g ≤ c 6 + c 5 := by
  unfold term
  have h1 : min (min (c 0 - g) (c 3)) (c 6) ≤ c 0 - g ∧ min (min (c 0 - g) (c 3)) (c 6) ≤ c 3 ∧ min (min (c 0 - g) (c 3)) (c 6) ≤ c 6 := by (first | lia | omega)
  have h2 : min (min (c 1) (c 4)) (c 5 - g) ≤ c 1 ∧ min (min (c 1) (c 4)) (c 5 - g) ≤ c 4 ∧ min (min (c 1) (c 4)) (c 5 - g) ≤ c 5 - g := by (first | lia | omega)
  generalize min (min (c 0 - g) (c 3)) (c 6) = X at *
  generalize min (min (c 1) (c 4)) (c 5 - g) = Y at *
  lia
theorem best_le {c f : Nat → Int} {b : Nat → Bool} {B : Int} (hc : ∀ k, k < 7 → 0 ≤ c k) (F : Fl c f) (C : Cut c f b) (hB : Best c B) : B ≤ f 0 + f 1 := by
  rw [← across_val F C]
  have c0 := hc 0 (by decide); have c1 := hc 1 (by decide); have c2 := hc 2 (by decide); have c3 := hc 3 (by decide); have c4 := hc 4 (by decide); have c5 := hc 5 (by decide); have c6 := hc 6 (by decide)
  have hB' : B ≤ c 0 + c 1 ∧ B ≤ c 0 + c 4 ∧ B ≤ c 0 + c 5 ∧ B ≤ c 2 + c 3 + c 1 ∧ B ≤ c 2 + c 3 + c 4 ∧ B ≤ c 3 + c 5 ∧ B ≤ c 2 + c 6 + c 1 ∧ B ≤ c 2 + c 6 + c 4 ∧ B ≤ c 6 + c 5 := by
    rcases hB.one with rfl | ⟨g, g0, g1, rfl⟩
    · lia
    · have := term_le c g
      have g2 : g ≤ c 2 := by lia
      lia
  clear hB
  unfold across acr
  simp only [fu, fv, C.src, C.snk, true_and, and_true]
  cases b 1 <;> cases b 2 <;> cases b 3 <;> cases b 4 <;> simp <;> lia
theorem even_flow {c f : Nat → Int} {B x : Int} (F : Fl c f) (hB : Best c B) (hv : f 0 + f 1 = B) (hx : ∀ k, k < 7 → c k = x) : ∀ k, k < 7 → f k = if k = 2 then 0 else x := by
  have e0 := hx 0 (by decide); have e1 := hx 1 (by decide); have e2 := hx 2 (by decide); have e3 := hx 3 (by decide); have e4 := hx 4 (by decide); have e5 := hx 5 (by decide); have e6 := hx 6 (by decide)
  have h0 := F.hi 0 (by decide); have h1 := F.hi 1 (by decide); have h5 := F.hi 5 (by decide); have l2 := F.lo 2 (by decide)
  have l0 := F.lo 0 (by decide)
  have n1 := F.n1; have n2 := F.n2; have n3 := F.n3; have n4 := F.n4
  have := hB.all 0 (by decide) (by lia)
  unfold term at this
  intro k hk
  have : k = 0 ∨ k = 1 ∨ k = 2 ∨ k = 3 ∨ k = 4 ∨ k = 5 ∨ k = 6 := by lia
  rcases this with rfl | rfl | rfl | rfl | rfl | rfl | rfl <;> simp <;> lia

/-- the frame, turned by s -/
noncomputable def rot (s i : Nat) : Nat := (i + s) % 6
theorem rot_lt (s i : Nat) : rot s i < 6 := Nat.mod_lt _ (by (first | lia | omega))
theorem rot_inj {s i j : Nat} (hi : i < 6) (hj : j < 6) (h : rot s i = rot s j) : i = j := by unfold rot at h; (first | lia | omega)
theorem rot_sur (s : Nat) {u : Nat} (hu : u < 6) : ∃ i, i < 6 ∧ rot s i = u := ⟨(u + 6 - s % 6) % 6, Nat.mod_lt _ (by (first | lia | omega)), by unfold rot; (first | lia | omega)⟩
noncomputable def frame (s : Nat) (c : Nat → Int) : List Edge := (List.range 7).map fun k => (rot s (fu k), rot s (fv k), c k)
/-- which edge leads from i to j -/
noncomputable def kx (i j : Nat) : Option Nat := if i = 0 ∧ j = 1 then some 0 else if i = 0 ∧ j = 2 then some 1 else if i = 1 ∧ j = 3 then some 2 else if i = 1 ∧ j = 4 then some 3 else if i = 2 ∧ j = 3 then some 4 else if i = 3 ∧ j = 5 then some 5 else if i = 4 ∧ j = 5 then some 6 else none
theorem kx_edge : ∀ k, k < 7 → kx (fu k) (fv k) = some k ∧ kx (fv k) (fu k) = none ∧ fu k < 6 ∧ fv k < 6 := by decide
theorem kx_some : ∀ i, i < 6 → ∀ j, j < 6 → ((kx i j).all fun k => decide (k < 7 ∧ fu k = i ∧ fv k = j)) = true := by decide
theorem kx_of {i j k : Nat} (hi : i < 6) (hj : j < 6) (h : kx i j = some k) : k < 7 ∧ fu k = i ∧ fv k = j := by
  have := kx_some i hi j hj
  rw [h] at this
  simpa using this
noncomputable def ct (c : Nat → Int) (i j : Nat) : Int := match kx i j with
  | some k => c k
  | none => 0
theorem ct_some {c : Nat → Int} {i j k : Nat} (h : kx i j = some k) : ct c i j = c k := by unfold ct; rw [h]
theorem ct_none {c : Nat → Int} {i j : Nat} (h : kx i j = none) : ct c i j = 0 := by unfold ct; rw [h]
theorem capM_cons (e : Edge) (es : List Edge) (u v : Nat) : capM (e :: es) u v = (if e.1 = u ∧ e.2.1 = v then e.2.2 else 0) + capM es u v := by
  unfold capM
  rw [List.filter_cons]
  by_cases q : e.1 = u ∧ e.2.1 = v
  · simp [q]
  · have : (decide (e.1 = u) && decide (e.2.1 = v)) = false := by
      cases h1 : decide (e.1 = u) <;> cases h2 : decide (e.2.1 = v) <;> simp_all
    simp [this, q]
theorem perm_sum {a b : List Int} (p : a.Perm b) : a.sum = b.sum := by
  induction p with
  | nil => rfl
  | cons x _ ih => simp [ih]
  | swap x y l => simp; (first | lia | omega)
  | trans _ _ h1 h2 => exact h1.trans h2
theorem capM_perm {es es' : List Edge} (p : es.Perm es') (u v : Nat) : capM es u v = capM es' u v := by
  unfold capM
  exact perm_sum ((p.filter _).map _)
theorem cap_frame (s : Nat) (c : Nat → Int) {i j : Nat} (hi : i < 6) (hj : j < 6) : capM (frame s c) (rot s i) (rot s j) = ct c i j := by
  have e : ∀ k, k < 7 → (if rot s (fu k) = rot s i ∧ rot s (fv k) = rot s j then c k else 0) = if kx i j = some k then c k else 0 := fun k hk => by
    obtain ⟨h3, _, h1, h2⟩ := kx_edge k hk
    by_cases q : kx i j = some k
    · obtain ⟨_, q1, q2⟩ := kx_of hi hj q
      rw [if_pos q, if_pos ⟨by rw [q1], by rw [q2]⟩]
    · rw [if_neg q, if_neg fun ⟨a, b⟩ => q (by rw [← rot_inj h1 hi a, ← rot_inj h2 hj b]; exact h3)]
  have fr : frame s c = [(rot s (fu 0), rot s (fv 0), c 0), (rot s (fu 1), rot s (fv 1), c 1), (rot s (fu 2), rot s (fv 2), c 2), (rot s (fu 3), rot s (fv 3), c 3), (rot s (fu 4), rot s (fv 4), c 4), (rot s (fu 5), rot s (fv 5), c 5), (rot s (fu 6), rot s (fv 6), c 6)] := rfl
  rw [fr, capM_cons, capM_cons, capM_cons, capM_cons, capM_cons, capM_cons, capM_cons, e 0 (by decide), e 1 (by decide), e 2 (by decide), e 3 (by decide), e 4 (by decide), e 5 (by decide), e 6 (by decide)]
  have hz : capM [] (rot s i) (rot s j) = 0 := rfl
  rw [hz]
  cases q : kx i j with
  | none => rw [ct_none q]; simp
  | some k =>
    rw [ct_some q]
    have hk := (kx_of hi hj q).1
    have : k = 0 ∨ k = 1 ∨ k = 2 ∨ k = 3 ∨ k = 4 ∨ k = 5 ∨ k = 6 := by lia
    rcases this with rfl | rfl | rfl | rfl | rfl | rfl | rfl <;> simp
theorem rsum6 (g : Nat → Int) : rsum 6 g = g 0 + g 1 + g 2 + g 3 + g 4 + g 5 := by
  simp only [rsum_succ, rsum_zero]; (first | lia | omega)
theorem rsum_rot {s : Nat} (hs : s < 6) (g : Nat → Int) : rsum 6 g = rsum 6 fun j => g (rot s j) := by
  rw [rsum6, rsum6]
  have : s = 0 ∨ s = 1 ∨ s = 2 ∨ s = 3 ∨ s = 4 ∨ s = 5 := by (first | lia | omega)
  rcases this with rfl | rfl | rfl | rfl | rfl | rfl <;> simp only [rot] <;> simp <;> (first | lia | omega)

/-- what the residual table says, in the frame's own numbers -/
theorem frame_flow {s : Nat} {c : Nat → Int} {C M : Nat → Nat → Int} (hs : s < 6) (hC : ∀ i j, i < 6 → j < 6 → C (rot s i) (rot s j) = ct c i j) (I : FlowInv 6 s (rot s 5) C M) :
    Fl c (fun k => c k - M (rot s (fu k)) (rot s (fv k))) ∧ ∀ i j, i < 6 → j < 6 → C (rot s i) (rot s j) - M (rot s i) (rot s j) = ct (fun k => c k - M (rot s (fu k)) (rot s (fv k))) i j - ct (fun k => c k - M (rot s (fu k)) (rot s (fv k))) j i := by
  have nn : ∀ i j, i < 6 → j < 6 → 0 ≤ M (rot s i) (rot s j) := fun i j _ _ => I.nn _ _ (rot_lt s i) (rot_lt s j)
  have pr : ∀ i j, i < 6 → j < 6 → M (rot s i) (rot s j) + M (rot s j) (rot s i) = ct c i j + ct c j i := fun i j hi hj => by
    rw [I.pair _ _ (rot_lt s i) (rot_lt s j), hC i j hi hj, hC j i hj hi]
  have cs : ∀ i, i < 6 → i ≠ 0 → i ≠ 5 → rsum 6 (fun j => ct c i j - M (rot s i) (rot s j)) = 0 := fun i hi h0 h5 => by
    have := I.cons (rot s i) (rot_lt s i) (fun e => h0 (rot_inj hi (by (first | lia | omega)) (by rw [e]; unfold rot; (first | lia | omega)))) (fun e => h5 (rot_inj hi (by (first | lia | omega)) e))
    rw [rsum_rot hs] at this
    rw [← this]
    exact rsum_congr fun j hj => by rw [hC i j hi hj]
  generalize hm : (fun i j => M (rot s i) (rot s j)) = m at *
  have hm' : ∀ i j, M (rot s i) (rot s j) = m i j := fun i j => by rw [← hm]
  simp only [hm'] at nn pr cs ⊢
  have key : ∀ i j, i < 6 → j < 6 → ct c i j - m i j = ct (fun k => c k - m (fu k) (fv k)) i j - ct (fun k => c k - m (fu k) (fv k)) j i := fun i j hi hj => by
    have p1 := pr i j hi hj
    cases q1 : kx i j with
    | some k =>
      obtain ⟨hk, rfl, rfl⟩ := kx_of hi hj q1
      rw [ct_some q1, ct_some q1, ct_none (kx_edge k hk).2.1]; lia
    | none =>
      cases q2 : kx j i with
      | some k =>
        obtain ⟨hk, rfl, rfl⟩ := kx_of hj hi q2
        rw [ct_none q1, ct_some q2] at p1
        rw [ct_none q1, ct_none q1, ct_some q2]; lia
      | none =>
        have := nn i j hi hj
        have := nn j i hj hi
        rw [ct_none q1, ct_none q2] at p1
        rw [ct_none q1, ct_none q1, ct_none q2]; lia
  have hf : ∀ k, k < 7 → 0 ≤ (fun k => c k - m (fu k) (fv k)) k ∧ (fun k => c k - m (fu k) (fv k)) k ≤ c k := fun k hk => by
    obtain ⟨h3, h4, h1, h2⟩ := kx_edge k hk
    have p1 := pr _ _ h1 h2
    have := nn _ _ h1 h2
    have := nn _ _ h2 h1
    rw [ct_some h3, ct_none h4] at p1
    exact ⟨by show 0 ≤ c k - m (fu k) (fv k); lia, by show c k - m (fu k) (fv k) ≤ c k; lia⟩
  have cs' : ∀ i, i < 6 → i ≠ 0 → i ≠ 5 → rsum 6 (fun j => ct (fun k => c k - m (fu k) (fv k)) i j - ct (fun k => c k - m (fu k) (fv k)) j i) = 0 := fun i hi h0 h5 => by
    rw [← cs i hi h0 h5]; exact rsum_congr fun j hj => (key i j hi hj).symm
  generalize (fun k => c k - m (fu k) (fv k)) = f at key cs' hf ⊢
  refine ⟨⟨fun k hk => (hf k hk).1, fun k hk => (hf k hk).2, ?_, ?_, ?_, ?_⟩, fun i j hi hj => by rw [hC i j hi hj]; exact key i j hi hj⟩
  · have := cs' 1 (by decide) (by decide) (by decide)
    rw [rsum6] at this
    simp [ct, kx] at this; lia
  · have := cs' 2 (by decide) (by decide) (by decide)
    rw [rsum6] at this
    simp [ct, kx] at this; lia
  · have := cs' 3 (by decide) (by decide) (by decide)
    rw [rsum6] at this
    simp [ct, kx] at this; lia
  · have := cs' 4 (by decide) (by decide) (by decide)
    rw [rsum6] at this
    simp [ct, kx] at this; lia
end MP.L106

end
section
namespace MP.L106
open MP Core
noncomputable def law_cell_body : PSs :=
  (.cons (.ite (.cmp .lt (.var "place") (.bfn .len (.cons (.var "script") .nil)))
  (.cons (.ret (.sub (.var "script") (.var "place")))
  .nil) .nil)
  (.cons (.ret (.int 1))
  .nil))
noncomputable def law_cell_fn : Fn := ⟨["script", "place"], law_cell_body⟩
noncomputable def law_caps_body : PSs :=
  (.cons (.ite (.cmp .eq (.bin .mod (.call "_law_cell" (.cons (.var "script") (.cons (.int 2) .nil))) (.int 3)) (.int 0))
  (.cons (.ret (.bin .mul (.list (.cons (.bin .mod (.call "_law_cell" (.cons (.var "script") (.cons (.int 3) .nil))) (.int 4)) .nil)) (.int 7)))
  .nil) .nil)
  (.cons (.ret (.comp (.bin .mod (.call "_law_cell" (.cons (.var "script") (.cons (.bin .add (.int 4) (.var "i")) .nil))) (.int 4)) (.name "i") (.up (.int 7)) .nil))
  .nil))
noncomputable def law_caps_fn : Fn := ⟨["script"], law_caps_body⟩
noncomputable def law_edges_b1 : PSs :=
  (.cons (.unp [(.tg (.name "u")), (.tg (.name "v"))] (.sub (.glob "_law_frame") (.var "i")))
  (.cons (.expr (.meth (.var "edges") .append (.cons (.tup (.cons (.bin .mod (.bin .add (.var "u") (.var "source")) (.int 6)) (.cons (.bin .mod (.bin .add (.var "v") (.var "source")) (.int 6)) (.cons (.sub (.var "caps") (.var "i")) .nil)))) .nil)))
  .nil))
noncomputable def law_edges_body : PSs :=
  (.cons (.assign (.tg (.name "edges")) (.list .nil))
  (.cons (.fr (.name "i") (.up (.int 7)) law_edges_b1)
  (.cons (.ite (.cmp .eq (.var "turned") (.int 1))
  (.cons (.expr (.meth (.var "edges") .reverse .nil))
  .nil) .nil)
  (.cons (.ret (.var "edges"))
  .nil))))
noncomputable def law_edges_fn : Fn := ⟨["caps", "source", "turned"], law_edges_body⟩
noncomputable def law_best_b1 : PSs :=
  (.cons (.assign (.tg (.name "best")) (.bfn .max (.cons (.var "best") (.cons (.bin .add (.bin .add (.var "f") (.bfn .min (.cons (.bin .sub (.var "a") (.var "f")) (.cons (.var "y") (.cons (.var "q") .nil))))) (.bfn .min (.cons (.var "b") (.cons (.var "z") (.cons (.bin .sub (.var "p") (.var "f")) .nil))))) .nil))))
  .nil)
noncomputable def law_best_body : PSs :=
  (.cons (.unp [(.tg (.name "a")), (.tg (.name "b")), (.tg (.name "x")), (.tg (.name "y")), (.tg (.name "z")), (.tg (.name "p")), (.tg (.name "q"))] (.var "caps"))
  (.cons (.assign (.tg (.name "best")) (.int 0))
  (.cons (.fr (.name "f") (.up (.bin .add (.bfn .min (.cons (.var "a") (.cons (.var "x") (.cons (.var "p") .nil)))) (.int 1))) law_best_b1)
  (.cons (.ret (.var "best"))
  .nil))))
noncomputable def law_best_fn : Fn := ⟨["caps"], law_best_body⟩
noncomputable def law_entries_right_b1 : PSs :=
  (.cons (.assign (.sub (.var "most") (.tup (.cons (.sub (.var "e") (.int 0)) (.cons (.sub (.var "e") (.int 1)) .nil)))) (.sub (.var "e") (.int 2)))
  .nil)
noncomputable def law_entries_right_b4 : PSs :=
  (.cons (.ite (.cmp .eq (.tup (.cons (.var "u") (.cons (.var "v") .nil))) (.var "zigzag"))
  (.cons (.assign (.tg (.name "can")) (.int 0))
  .nil) .nil)
  (.cons (.ite (.cmp .ne (.var "bears") (.var "can"))
  (.cons (.ret (.bool false))
  .nil) .nil)
  .nil))
noncomputable def law_entries_right_b3 : PSs :=
  (.cons (.assign (.tg (.name "bears")) (.sub (.var "line") (.var "v")))
  (.cons (.assign (.tg (.name "can")) (.getd (.var "most") (.tup (.cons (.var "u") (.cons (.var "v") .nil))) (.int 0)))
  (.cons (.ite (.not (.cmp .is (.bfn .type (.cons (.var "bears") .nil)) (.ty "int")))
  (.cons (.ret (.bool false))
  .nil) .nil)
  (.cons (.ite (.bor (.cons (.cmp .lt (.var "bears") (.int 0)) (.cons (.cmp .gt (.var "bears") (.var "can")) .nil)))
  (.cons (.ret (.bool false))
  .nil) .nil)
  (.cons (.ite (.var "even")
  law_entries_right_b4 .nil)
  .nil)))))
noncomputable def law_entries_right_b2 : PSs :=
  (.cons (.assign (.tg (.name "line")) (.sub (.var "flow") (.var "u")))
  (.cons (.ite (.bor (.cons (.not (.cmp .is (.bfn .type (.cons (.var "line") .nil)) (.ty "list"))) (.cons (.cmp .ne (.bfn .len (.cons (.var "line") .nil)) (.int 6)) .nil)))
  (.cons (.ret (.bool false))
  .nil) .nil)
  (.cons (.fr (.name "v") (.up (.int 6)) law_entries_right_b3)
  .nil)))
noncomputable def law_entries_right_body : PSs :=
  (.cons (.assign (.tg (.name "most")) .dict0)
  (.cons (.fr (.name "e") (.seq (.var "edges")) law_entries_right_b1)
  (.cons (.assign (.tg (.name "even")) (.cmp .eq (.var "caps") (.bin .mul (.list (.cons (.sub (.var "caps") (.int 0)) .nil)) (.int 7))))
  (.cons (.assign (.tg (.name "zigzag")) (.tup (.cons (.bin .mod (.bin .add (.int 1) (.var "source")) (.int 6)) (.cons (.bin .mod (.bin .add (.int 3) (.var "source")) (.int 6)) .nil))))
  (.cons (.ite (.bor (.cons (.not (.cmp .is (.bfn .type (.cons (.var "flow") .nil)) (.ty "list"))) (.cons (.cmp .ne (.bfn .len (.cons (.var "flow") .nil)) (.int 6)) .nil)))
  (.cons (.ret (.bool false))
  .nil) .nil)
  (.cons (.fr (.name "u") (.up (.int 6)) law_entries_right_b2)
  (.cons (.ret (.bool true))
  .nil)))))))
noncomputable def law_entries_right_fn : Fn := ⟨["flow", "edges", "caps", "source"], law_entries_right_body⟩
noncomputable def law_sums_right_b1 : PSs :=
  (.cons (.assign (.tg (.name "due")) (.int 0))
  (.cons (.ite (.cmp .eq (.var "v") (.var "source"))
  (.cons (.assign (.tg (.name "due")) (.var "best"))
  .nil) .nil)
  (.cons (.ite (.cmp .eq (.var "v") (.var "sink"))
  (.cons (.assign (.tg (.name "due")) (.neg (.var "best")))
  .nil) .nil)
  (.cons (.ite (.cmp .ne (.bin .sub (.bfn .sum (.cons (.sub (.var "flow") (.var "v")) .nil)) (.bfn .sum (.cons (.comp (.sub (.var "line") (.var "v")) (.name "line") (.seq (.var "flow")) .nil) .nil))) (.var "due"))
  (.cons (.ret (.bool false))
  .nil) .nil)
  (.cons (.ite (.cmp .ne (.call "flow_value" (.cons (.var "flow") (.cons (.var "v") .nil))) (.var "due"))
  (.cons (.ret (.bool false))
  .nil) .nil)
  .nil)))))
noncomputable def law_sums_right_body : PSs :=
  (.cons (.fr (.name "v") (.up (.int 6)) law_sums_right_b1)
  (.cons (.ret (.bool true))
  .nil))
noncomputable def law_sums_right_fn : Fn := ⟨["flow", "source", "sink", "best"], law_sums_right_body⟩
noncomputable def law_cut_right_b1 : PSs :=
  (.cons (.ite (.not (.cmp .is (.bfn .type (.cons (.var "mark") .nil)) (.ty "bool")))
  (.cons (.ret (.bool false))
  .nil) .nil)
  .nil)
noncomputable def law_cut_right_b3 : PSs :=
  (.cons (.assign (.tg (.name "across")) (.bin .add (.var "across") (.var "c")))
  (.cons (.ite (.cmp .ne (.sub (.sub (.var "flow") (.var "u")) (.var "v")) (.var "c"))
  (.cons (.ret (.bool false))
  .nil) .nil)
  .nil))
noncomputable def law_cut_right_b4 : PSs :=
  (.cons (.ite (.cmp .ne (.sub (.sub (.var "flow") (.var "u")) (.var "v")) (.int 0))
  (.cons (.ret (.bool false))
  .nil) .nil)
  .nil)
noncomputable def law_cut_right_b2 : PSs :=
  (.cons (.unp [(.tg (.name "u")), (.tg (.name "v")), (.tg (.name "c"))] (.var "e"))
  (.cons (.ite (.band (.cons (.sub (.var "side") (.var "u")) (.cons (.not (.sub (.var "side") (.var "v"))) .nil)))
  law_cut_right_b3 .nil)
  (.cons (.ite (.band (.cons (.sub (.var "side") (.var "v")) (.cons (.not (.sub (.var "side") (.var "u"))) .nil)))
  law_cut_right_b4 .nil)
  .nil)))
noncomputable def law_cut_right_body : PSs :=
  (.cons (.ite (.bor (.cons (.not (.cmp .is (.bfn .type (.cons (.var "side") .nil)) (.ty "list"))) (.cons (.cmp .ne (.bfn .len (.cons (.var "side") .nil)) (.int 6)) .nil)))
  (.cons (.ret (.bool false))
  .nil) .nil)
  (.cons (.fr (.name "mark") (.seq (.var "side")) law_cut_right_b1)
  (.cons (.ite (.bor (.cons (.not (.sub (.var "side") (.var "source"))) (.cons (.sub (.var "side") (.var "sink")) .nil)))
  (.cons (.ret (.bool false))
  .nil) .nil)
  (.cons (.assign (.tg (.name "across")) (.int 0))
  (.cons (.fr (.name "e") (.seq (.var "edges")) law_cut_right_b2)
  (.cons (.ite (.cmp .ne (.var "across") (.var "best"))
  (.cons (.ret (.bool false))
  .nil) .nil)
  (.cons (.ret (.bool true))
  .nil)))))))
noncomputable def law_cut_right_fn : Fn := ⟨["side", "flow", "edges", "source", "sink", "best"], law_cut_right_body⟩
noncomputable def law_body : PSs :=
  (.cons (.assign (.tg (.name "source")) (.bin .mod (.call "_law_cell" (.cons (.var "script") (.cons (.int 0) .nil))) (.int 6)))
  (.cons (.assign (.tg (.name "sink")) (.bin .mod (.bin .add (.var "source") (.int 5)) (.int 6)))
  (.cons (.assign (.tg (.name "caps")) (.call "_law_caps" (.cons (.var "script") .nil)))
  (.cons (.assign (.tg (.name "edges")) (.call "_law_edges" (.cons (.var "caps") (.cons (.var "source") (.cons (.bin .mod (.call "_law_cell" (.cons (.var "script") (.cons (.int 1) .nil))) (.int 2)) .nil)))))
  (.cons (.assign (.tg (.name "kept")) (.bfn .list (.cons (.var "edges") .nil)))
  (.cons (.assign (.tg (.name "best")) (.call "_law_best" (.cons (.var "caps") .nil)))
  (.cons (.assign (.tg (.name "flow")) (.call "max_flow" (.cons (.int 6) (.cons (.var "edges") (.cons (.var "source") (.cons (.var "sink") .nil))))))
  (.cons (.ite (.cmp .ne (.var "edges") (.var "kept"))
  (.cons (.ret (.bool false))
  .nil) .nil)
  (.cons (.ite (.not (.call "_law_entries_right" (.cons (.var "flow") (.cons (.var "kept") (.cons (.var "caps") (.cons (.var "source") .nil))))))
  (.cons (.ret (.bool false))
  .nil) .nil)
  (.cons (.assign (.tg (.name "was")) (.comp (.bfn .list (.cons (.var "line") .nil)) (.name "line") (.seq (.var "flow")) .nil))
  (.cons (.ite (.not (.call "_law_sums_right" (.cons (.var "flow") (.cons (.var "source") (.cons (.var "sink") (.cons (.var "best") .nil))))))
  (.cons (.ret (.bool false))
  .nil) .nil)
  (.cons (.assign (.tg (.name "side")) (.call "source_side" (.cons (.int 6) (.cons (.var "edges") (.cons (.var "flow") (.cons (.var "source") .nil))))))
  (.cons (.ite (.not (.call "_law_cut_right" (.cons (.var "side") (.cons (.var "was") (.cons (.var "kept") (.cons (.var "source") (.cons (.var "sink") (.cons (.var "best") .nil))))))))
  (.cons (.ret (.bool false))
  .nil) .nil)
  (.cons (.ite (.bor (.cons (.cmp .ne (.var "edges") (.var "kept")) (.cons (.cmp .ne (.var "flow") (.var "was")) .nil)))
  (.cons (.ret (.bool false))
  .nil) .nil)
  (.cons (.ret (.bool true))
  .nil)))))))))))))))
noncomputable def law_fn : Fn := ⟨["script"], law_body⟩
end MP.L106

end
section
namespace MP.L106
open MP
open PySem (PyData)

noncomputable def cell (ns : List Int) (i : Nat) : Int := if i < ns.length then ns[i]?.getD 0 else 1
theorem cell_spec {G : Par} {i : Nat} {h : H} {Q : V → H → Prop} (hQ : Q (.int (cell G.ns i)) h) : runFn G law_cell_fn [.scr, iv i] h Q := by
  refine runFn_of rfl ?_
  simp [law_cell_fn, law_cell_body]
  by_cases c : i < G.ns.length
  · have g : getIdx (G.ns.map V.int) (i : Nat) = some (.int (cell G.ns i)) := by
      rw [getIdx_nat, List.getElem?_map, List.getElem?_eq_getElem c]; simp [cell, c]
    simp [c, g]
    exact hQ
  · simp [c]
    unfold cell at hQ; rw [if_neg c] at hQ; exact hQ

theorem caps_spec {G G1 : Par} {h : H} {Q : V → H → Prop} (kc : ∀ vs h Q, runFn G1 law_cell_fn vs h Q → G.Γ "_law_cell" vs h Q)
    (hQ : ∀ c : Nat → Int, (∀ k, 0 ≤ c k ∧ c k ≤ 3) → Ret h Q (arr 7 fun k => .int (c k))) : runFn G law_caps_fn [.scr] h Q := by
  refine runFn_of rfl ?_
  simp [law_caps_fn, law_caps_body]
  refine kc _ _ _ (cell_spec (i := 2) ?_)
  by_cases c : cell G1.ns 2 % 3 = 0
  · simp [c]
    refine kc _ _ _ (cell_spec (i := 3) ?_)
    simp
    intro a ha
    simp
    have l7 : (7 : Int) ≤ lim := by unfold lim; (first | lia | omega)
    refine ⟨by unfold lim; (first | lia | omega), ?_⟩
    intro b hb
    have hab : a ≠ b := by rintro rfl; simp at hb
    have x1 : Ext h (h.set a (.list [.int (cell G1.ns 3 % 4)])) := Ext.new _ ha
    refine hQ (fun _ => cell G1.ns 3 % 4) (fun _ => by (first | lia | omega)) b _ (x1.none hb) (x1.trans (Ext.new _ hb)) ?_
    simp [arr]
    rfl
  · have l7 : inLim 7 := by unfold inLim; (first | lia | omega)
    simp [c, l7]
    rw [show ((7 : Int)) = ((7 : Nat) : Int) from rfl, upTo_arr]
    refine compW_arr (fun i => .int (cell G1.ns (4 + i) % 4)) (fun i hi K hK => ?_) ⟨trivial, fun r hr => ?_⟩
    · simp
      refine kc _ _ _ ?_
      rw [show (4 + (i : Int)) = ((4 + i : Nat) : Int) by (first | lia | omega)]
      refine cell_spec ?_
      simpa using hK
    · exact hQ (fun k => cell G1.ns (4 + k) % 4) (fun _ => by (first | lia | omega)) r _ hr (Ext.new _ hr) (by simp)

/-- the constant of the text -/
structure FrameC (gc : String → Option V) (h : H) : Prop where
  ex : ∃ (fa : Nat) (fb : Nat → Nat), gc "_law_frame" = some (.ref fa) ∧ h fa = some (.tup (arr 7 fun k => .ref (fb k))) ∧ ∀ k, k < 7 → h (fb k) = some (.tup [iv (fu k), iv (fv k)])
theorem FrameC.mono {gc : String → Option V} {h h' : H} (F : FrameC gc h) (x : Ext h h') : FrameC gc h' := by
  obtain ⟨fa, fb, h1, h2, h3⟩ := F.ex
  exact ⟨⟨fa, fb, h1, x _ _ h2, fun k hk => x _ _ (h3 k hk)⟩⟩
theorem EA.rev {h : H} {xs : List V} {es : List Edge} (A : EA h xs es) : EA h xs.reverse es.reverse := by
  refine ⟨by simp [A.1], fun i e he => ?_⟩
  have hi : i < es.length := by have := (List.getElem?_eq_some_iff.mp he).1; simpa using this
  rw [List.getElem?_reverse hi] at he
  obtain ⟨b, h1, h2⟩ := A.2 _ e he
  exact ⟨b, by rw [List.getElem?_reverse (by rw [A.1]; exact hi), A.1]; exact h1, h2⟩
theorem frame_take (s : Nat) (c : Nat → Int) {i : Nat} (hi : i < 7) : (frame s c).take (i + 1) = (frame s c).take i ++ [(rot s (fu i), rot s (fv i), c i)] := by
  rw [List.take_add_one]
  unfold frame
  simp [hi]
theorem edges_spec {G : Par} {ca s : Nat} {c : Nat → Int} {tn : Int} {h : H} {Q : V → H → Prop} (hs : s < 6) (FC : FrameC G.gc h) (hc : h ca = some (.list (arr 7 fun k => .int (c k))))
    (hQ : ∀ r xs es h', h r = Option.none → Ext h h' → h' r = some (.list xs) → EA h' xs es → (es = frame s c ∨ es = (frame s c).reverse) → Q (.ref r) h') : runFn G law_edges_fn [.ref ca, iv s, .int tn] h Q := by
  obtain ⟨fa, fb, h1, h2, h3⟩ := FC.ex
  refine runFn_of rfl ?_
  have l7 : inLim 7 := by unfold inLim; (first | lia | omega)
  simp [law_edges_fn, law_edges_body, l7]
  intro r hr
  rw [show ((7 : Int)) = ((7 : Nat) : Int) from rfl, upTo_arr]
  refine forW_arr (fun i σ h' => σ "caps" = some (.ref ca) ∧ σ "source" = some (iv s) ∧ σ "turned" = some (.int tn) ∧ σ "edges" = some (.ref r) ∧ Ext h h' ∧ ∃ xs, h' r = some (.list xs) ∧ EA h' xs ((frame s c).take i)) ⟨by simp, by simp, by simp, by simp, Ext.new _ hr, [], by simp, EA.nil⟩ ?_ ?_
  · rintro i σ h' K hi ⟨e1, e2, e3, e4, x1, xs, e5, A⟩ hK
    have hxl : xs.length < lim := by have := A.1; simp at this; unfold lim; (first | lia | omega)
    simp [law_edges_b1, h1, x1 _ _ h2, getIdx_arr, hi, x1 _ _ (h3 i hi), e1, e2, e4, e5, x1 _ _ hc]
    intro b hb
    have hrb : r ≠ b := ne_of_none e5 hb
    simp [hrb, e5, hxl]
    have xb : Ext h' (h'.set b (.tup [.int (((fu i : Int) + s) % 6), .int (((fv i : Int) + s) % 6), .int (c i)])) := Ext.new _ hb
    have rb := xb _ _ e5
    refine hK _ _ ⟨by simp [e1], by simp [e2], by simp [e3], by simp [e4], (x1.trans xb).set _ hr, xs ++ [.ref b], by simp, ?_⟩
    rw [frame_take s c hi]
    refine EA.snoc ((A.mono xb).set rb) ?_
    rw [H.set_other _ _ (Ne.symm hrb)]
    simp [rot]
  · rintro σ h' ⟨e1, e2, e3, e4, x1, xs, e5, A⟩
    rw [show (frame s c).take 7 = frame s c from List.take_of_length_le (by simp [frame])] at A
    by_cases q : tn = 1
    · simp [e3, q, e4, e5]
      exact hQ r _ _ _ hr (x1.set _ hr) (by simp) ((EA.rev A).set e5) (.inr rfl)
    · simp [e3, q, e4]
      exact hQ r _ _ _ hr x1 e5 A (.inl rfl)

theorem best_spec {G : Par} {ca : Nat} {c : Nat → Int} {h : H} {Q : V → H → Prop} (hc : h ca = some (.list (arr 7 fun k => .int (c k)))) (hr : ∀ k, 0 ≤ c k ∧ c k ≤ 3) (hQ : ∀ B, Best c B → Q (.int B) h) : runFn G law_best_fn [.ref ca] h Q := by
  refine runFn_of rfl ?_
  have ha : (arr 7 fun k => V.int (c k)) = [.int (c 0), .int (c 1), .int (c 2), .int (c 3), .int (c 4), .int (c 5), .int (c 6)] := rfl
  rw [ha] at hc
  obtain ⟨m, hm, hm3⟩ : ∃ m : Nat, min (c 0) (min (c 2) (c 5)) + 1 = (m : Int) ∧ m ≤ 4 := ⟨(min (c 0) (min (c 2) (c 5)) + 1).toNat, by have := hr 0; have := hr 2; have := hr 5; (first | lia | omega), by have := hr 0; (first | lia | omega)⟩
  have hml : inLim (m : Int) := by unfold inLim; (first | lia | omega)
  simp [law_best_fn, law_best_body, hc, hm, hml]
  refine forW_arr (fun i σ h' => h' = h ∧ σ "a" = some (.int (c 0)) ∧ σ "b" = some (.int (c 1)) ∧ σ "y" = some (.int (c 3)) ∧ σ "z" = some (.int (c 4)) ∧ σ "p" = some (.int (c 5)) ∧ σ "q" = some (.int (c 6)) ∧ ∃ B : Int, σ "best" = some (.int B) ∧ 0 ≤ B ∧ (∀ g : Nat, g < i → term c g ≤ B) ∧ (B = 0 ∨ ∃ g : Nat, g < i ∧ B = term c g)) ⟨rfl, by simp, by simp, by simp, by simp, by simp, by simp, 0, by simp, Int.le_refl _, fun g hg => by (first | lia | omega), .inl rfl⟩ ?_ ?_
  · rintro i σ h' K hi ⟨rfl, e1, e2, e3, e4, e5, e6, B, e7, b1, b2, b3⟩ hK
    simp [law_best_b1, e1, e2, e3, e4, e5, e6, e7]
    have ht : (i : Int) + min (c 0 - (i : Int)) (min (c 3) (c 6)) + min (c 1) (min (c 4) (c 5 - (i : Int))) = term c i := by unfold term; rw [Int.min_assoc, Int.min_assoc]
    rw [ht]
    refine hK _ _ ⟨rfl, by simp [e1], by simp [e2], by simp [e3], by simp [e4], by simp [e5], by simp [e6], max B (term c i), by simp, by (first | lia | omega), fun g hg => ?_, ?_⟩
    · by_cases q : g = i
      · subst q; (first | lia | omega)
      · have := b2 g (by (first | lia | omega)); (first | lia | omega)
    · rcases Int.le_total (term c i) B with q | q
      · rw [show max B (term c i) = B by (first | lia | omega)]
        rcases b3 with b3 | ⟨g, g1, g2⟩
        · exact .inl b3
        · exact .inr ⟨g, by (first | lia | omega), g2⟩
      · rw [show max B (term c i) = term c i by (first | lia | omega)]
        exact .inr ⟨i, by (first | lia | omega), rfl⟩
  · rintro σ h' ⟨rfl, e1, e2, e3, e4, e5, e6, B, e7, b1, b2, b3⟩
    simp [e7]
    have hall : ∀ g : Int, 0 ≤ g → g ≤ min (min (c 0) (c 2)) (c 5) → term c g ≤ B := by
      clear b3
      intro g g0 g1
      obtain ⟨n, rfl⟩ := Int.eq_ofNat_of_zero_le g0
      exact b2 n (by (first | lia | omega))
    refine hQ B ⟨b1, hall, ?_⟩
    rcases b3 with b3 | ⟨g, g1, g2⟩
    · exact .inl b3
    · have hg : (g : Int) ≤ min (min (c 0) (c 2)) (c 5) := by (first | lia | omega)
      exact .inr ⟨((g : Nat) : Int), Int.natCast_nonneg g, hg, g2⟩
end MP.L106

end
section
namespace MP.L106
open MP
open PySem (PyData)

theorem typeN_list {h : H} {a : Nat} {xs : List V} (e : h a = some (.list xs)) : typeN (.ref a) h = some "list" := by
  show (match h a with | some (.list _) => some "list" | some (.tup _) => some "tuple" | some (.dict _) => Option.none | Option.none => Option.none) = _
  rw [e]
theorem find_put (kvs : List ((Int × Int) × Nat × Int)) (p : Int × Int) (x : Int) : ∀ q, ((kvs.map fun e => if e.1 = p then (e.1, e.2.1, x) else e).find? fun e => decide (e.1 = q)).map (·.2.2) = if q = p then (kvs.find? fun e => decide (e.1 = q)).map (fun _ => x) else (kvs.find? fun e => decide (e.1 = q)).map (·.2.2) := by
  intro q
  induction kvs with
  | nil => simp
  | cons e r ih =>
    simp only [List.map_cons, List.find?_cons]
    by_cases c : e.1 = p
    · rw [if_pos c]
      by_cases c2 : e.1 = q
      · have : q = p := by rw [← c2, c]
        simp [c2, this]
      · rw [decide_eq_false c2]; exact ih
    · rw [if_neg c]
      by_cases c2 : e.1 = q
      · have : q ≠ p := fun e' => c (by rw [c2, e'])
        simp [c2, this]
      · rw [decide_eq_false c2]; exact ih
theorem look_put (kvs : List ((Int × Int) × Nat × Int)) (p q : Int × Int) (t : Nat) (x : Int) : lookK (putK kvs p t x) q = if q = p then some x else lookK kvs q := by
  unfold putK
  by_cases c : (kvs.find? fun e => decide (e.1 = p)).isSome = true
  · rw [if_pos c]
    unfold lookK
    rw [find_put]
    by_cases c2 : q = p
    · subst c2
      rw [if_pos rfl, if_pos rfl]
      obtain ⟨e, he⟩ := Option.isSome_iff_exists.mp c
      rw [he]; rfl
    · rw [if_neg c2, if_neg c2]
  · rw [if_neg c]
    unfold lookK
    rw [List.find?_append]
    have hn : (kvs.find? fun e => decide (e.1 = p)) = none := by
      cases q : kvs.find? (fun e => decide (e.1 = p)) with
      | none => rfl
      | some e => rw [q] at c; exact absurd rfl c
    by_cases c2 : q = p
    · subst c2; rw [hn]; simp
    · have : ¬ p = q := fun e => c2 e.symm
      simp [c2, this]
theorem keys_put {h : H} {kvs : List ((Int × Int) × Nat × Int)} {d t : Nat} {i j x : Int} {o : O} (hk : keysOk h kvs) (ht : h t = some (.tup [.int i, .int j])) (hd : ∃ l, h d = some (.dict l)) : keysOk (h.set d o) (putK kvs (i, j) t x) := by
  obtain ⟨l, hd⟩ := hd
  have old : ∀ a xs, h a = some (.tup xs) → (h.set d o) a = some (.tup xs) := fun a xs e => by
    rw [H.set_other _ _ (fun q => by rw [q, hd] at e; cases e)]; exact e
  intro e he
  unfold putK at he
  split at he
  · obtain ⟨e', h1, rfl⟩ := List.mem_map.mp he
    have := hk e' h1
    split
    · exact old _ _ this
    · exact old _ _ this
  · rcases List.mem_append.mp he with h1 | h1
    · exact old _ _ (hk e h1)
    · simp at h1; subst h1
      exact old _ _ ht
/-- the last weight laid for a pair -/
noncomputable def wl (es : List Edge) (u v : Nat) : Option Int := (es.reverse.find? fun e => decide (e.1 = u ∧ e.2.1 = v)).map (·.2.2)
theorem wl_snoc (es : List Edge) (e : Edge) (u v : Nat) : wl (es ++ [e]) u v = if u = e.1 ∧ v = e.2.1 then some e.2.2 else wl es u v := by
  unfold wl
  rw [List.reverse_append]
  simp only [List.reverse_cons, List.reverse_nil, List.nil_append, List.singleton_append, List.find?_cons]
  by_cases c : u = e.1 ∧ v = e.2.1
  · obtain ⟨rfl, rfl⟩ := c; simp
  · have : ¬ (e.1 = u ∧ e.2.1 = v) := fun ⟨a, b⟩ => c ⟨a.symm, b.symm⟩
    simp [c, this]
theorem find_cap : ∀ (es : List Edge), (es.map fun e => (e.1, e.2.1)).Nodup → ∀ u v, ((es.find? fun e => decide (e.1 = u ∧ e.2.1 = v)).map (·.2.2)).getD 0 = capM es u v
  | [], _, u, v => rfl
  | e :: r, hn, u, v => by
    simp only [List.map_cons, List.nodup_cons] at hn
    rw [capM_cons, List.find?_cons]
    by_cases c : e.1 = u ∧ e.2.1 = v
    · have hz : capM r u v = 0 := by
        rw [← find_cap r hn.2 u v]
        have : (r.find? fun e => decide (e.1 = u ∧ e.2.1 = v)) = none := by
          rw [List.find?_eq_none]
          intro x hx hq
          have hq : x.1 = u ∧ x.2.1 = v := by simpa using hq
          exact hn.1 (List.mem_map.mpr ⟨x, hx, by rw [hq.1, hq.2, c.1, c.2]⟩)
        rw [this]; rfl
      simp [c, hz]
    · simp only [c, if_false]
      rw [← find_cap r hn.2 u v]
      simp
theorem wl_cap {es : List Edge} (hn : (es.map fun e => (e.1, e.2.1)).Nodup) (u v : Nat) : (wl es u v).getD 0 = capM es u v := by
  unfold wl
  rw [find_cap _ (((List.reverse_perm es).map _).nodup_iff.mpr hn)]
  exact capM_perm (List.reverse_perm es) u v
theorem eqv_ints : ∀ (a b : List Int), PyData.eqvAll (a.map PyData.int) (b.map PyData.int) = decide (a = b)
  | [], [] => by simp [PyData.eqvAll]
  | [], _ :: _ => by simp [PyData.eqvAll]
  | _ :: _, [] => by simp [PyData.eqvAll]
  | x :: a, y :: b => by
    simp only [List.map_cons, PyData.eqvAll, PyData.eqv, eqv_ints a b]
    by_cases h1 : x = y <;> by_cases h2 : a = b <;> simp [h1, h2]

noncomputable def evB (c : Nat → Int) : Bool := decide ((List.range 7).map c = (List.range 7).map fun _ => c 0)
theorem evB_iff (c : Nat → Int) : evB c = true ↔ ∀ k, k < 7 → c k = c 0 := by
  unfold evB
  rw [decide_eq_true_iff]
  constructor
  · intro e k hk
    have := congrArg (fun l => l[k]?) e
    simpa [hk] using this
  · intro e
    exact List.map_congr_left fun k hk => e k (by simpa using hk)
theorem entries_spec {G : Par} {fl ed ca s : Nat} {rows : Nat → Nat} {c : Nat → Int} {F : Nat → Nat → Int} {xs : List V} {es : List Edge} {h : H} {Q : V → H → Prop} (hs : s < 6) (T : Tab h fl 6 rows F) (he : h ed = some (.list xs)) (A : EA h xs es) (hok : okEdges 6 es) (hnd : (es.map fun e => (e.1, e.2.1)).Nodup) (hel : es.length ≤ 100)
    (hc : h ca = some (.list (arr 7 fun k => .int (c k)))) (hF : ∀ u v, u < 6 → v < 6 → 0 ≤ F u v ∧ F u v ≤ capM es u v)
    (hev : (∀ k, k < 7 → c k = c 0) → ∀ u v, u < 6 → v < 6 → F u v = if u = rot s 1 ∧ v = rot s 3 then 0 else capM es u v)
    (hQ : ∀ h', Ext h h' → Q (.bool true) h') : runFn G law_entries_right_fn [.ref fl, .ref ed, .ref ca, iv s] h Q := by
  refine runFn_of rfl ?_
  simp [law_entries_right_fn, law_entries_right_body]
  intro d hd hd1
  have x0 : Ext h (h.set d (.dict [])) := Ext.new _ hd
  simp [ne_of_none he hd, he]
  refine forW_list (xs := xs) (kp := some (ed, xs)) (fun i σ h' => σ "flow" = some (.ref fl) ∧ σ "caps" = some (.ref ca) ∧ σ "source" = some (iv s) ∧ σ "most" = some (.ref d) ∧ Ext h h' ∧ ∃ kvs, h' d = some (.dict kvs) ∧ keysOk h' kvs ∧ kvs.length ≤ i ∧ ∀ u v : Nat, lookK kvs ((u : Int), (v : Int)) = wl (es.take i) u v)
    ⟨by simp, by simp, by simp, by simp, x0, [], by simp, fun e he => by simp at he, Nat.le_refl _, fun u v => rfl⟩ (fun i σ h' hI => hI.2.2.2.2.1 _ _ he) ?_ ?_
  · rintro i w σ h2 K hwi ⟨f1, f2, f3, f4, x2, kvs, e5, e6, e7, e8⟩ hK
    have hie : i < es.length := by have := (List.getElem?_eq_some_iff.mp hwi).1; rw [A.1] at this; exact this
    obtain ⟨eb, g1, g2⟩ := A.2 i es[i] (List.getElem?_eq_getElem hie)
    have hei : es[i]? = some es[i] := List.getElem?_eq_getElem hie
    rw [g1] at hwi; cases hwi
    have g3 := x2 _ _ g2
    have htk : es.take (i + 1) = es.take i ++ [es[i]] := by rw [List.take_add_one, hei]; rfl
    rw [htk] at hK
    generalize es[i] = e at *
    simp [law_entries_right_b1, g3, f4]
    intro t ht
    have hdt : d ≠ t := ne_of_none e5 ht
    have xt : Ext h2 (h2.set t (.tup [iv e.1, iv e.2.1])) := Ext.new _ ht
    have tt : (h2.set t (.tup [iv e.1, iv e.2.1])) t = some (.tup [iv e.1, iv e.2.1]) := by simp
    have dd := xt _ _ e5
    have kk : keysOk (h2.set t (.tup [iv e.1, iv e.2.1])) kvs := fun z hz => xt _ _ (e6 z hz)
    have x3 := x2.trans xt
    generalize h2.set t (.tup [iv e.1, iv e.2.1]) = h3 at *
    refine setSub_dict dd tt kk (by unfold lim; (first | lia | omega)) ?_
    refine hK _ _ ⟨by simp [f1], by simp [f2], by simp [f3], by simp [f4], x3.set _ hd, _, by simp; rfl, keys_put kk tt ⟨_, dd⟩, ?_, fun u v => ?_⟩
    · unfold putK; split <;> simp <;> (first | lia | omega)
    · rw [look_put, wl_snoc, e8]
      by_cases q : u = e.1 ∧ v = e.2.1
      · obtain ⟨rfl, rfl⟩ := q; simp
      · have : ¬ (((u : Int), (v : Int)) = ((e.1 : Int), (e.2.1 : Int))) := fun z => q (by simp at z; (first | lia | omega))
        rw [if_neg this, if_neg q]
  · rintro σ h2 ⟨f1, f2, f3, f4, x2, kvs, e5, e6, e7, e8⟩
    rw [A.1, List.take_length] at e8
    have hc2 := x2 _ _ hc
    have gc0 : getIdx (arr 7 fun k => V.int (c k)) 0 = some (.int (c 0)) := rfl
    simp [f2, hc2, gc0]
    intro a1 ha1
    have x3 : Ext h2 (h2.set a1 (.list [.int (c 0)])) := Ext.new _ ha1
    have l7 : (7 : Int) ≤ (lim : Int) := by unfold lim; (first | lia | omega)
    simp [l7]
    refine ⟨by unfold lim; (first | lia | omega), ?_⟩
    intro a2 ha2
    have x4 := Ext.new (.list [V.int (c 0), V.int (c 0), V.int (c 0), V.int (c 0), V.int (c 0), V.int (c 0), V.int (c 0)]) ha2
    have hc3 := x4 _ _ (x3 _ _ hc2)
    have h23 : Ext h2 ((h2.set a1 (.list [.int (c 0)])).set a2 (.list [V.int (c 0), V.int (c 0), V.int (c 0), V.int (c 0), V.int (c 0), V.int (c 0), V.int (c 0)])) := x3.trans x4
    have ha2' : ((h2.set a1 (.list [.int (c 0)])).set a2 (.list [V.int (c 0), V.int (c 0), V.int (c 0), V.int (c 0), V.int (c 0), V.int (c 0), V.int (c 0)])) a2 = some (.list [V.int (c 0), V.int (c 0), V.int (c 0), V.int (c 0), V.int (c 0), V.int (c 0), V.int (c 0)]) := by simp
    generalize (h2.set a1 (.list [.int (c 0)])).set a2 (.list [V.int (c 0), V.int (c 0), V.int (c 0), V.int (c 0), V.int (c 0), V.int (c 0), V.int (c 0)]) = h3 at *
    -- the two lists as data
    refine ⟨_, _, .list hc3 (rd_ints (n := 7) (f := c)), .list ha2' (by have := rd_ints (h := h3) (n := 7) (f := fun _ => c 0); exact this), ?_, ?_, ?_⟩
    · simp [PyData.depth]; exact Nat.le_trans (depthAll_le (k := 0) fun d hd => by obtain ⟨i, _, rfl⟩ := List.mem_map.mp hd; simp [PyData.depth]) (by (first | lia | omega))
    · simp [PyData.depth]; exact Nat.le_trans (depthAll_le (k := 0) fun d hd => by obtain ⟨i, _, rfl⟩ := List.mem_map.mp hd; simp [PyData.depth]) (by (first | lia | omega))
    have hev2 : PyData.eqv (.list ((List.range 7).map fun j => .int (c j))) (.list ((List.range 7).map fun j => .int (c 0))) = evB c := by
      have : PyData.eqv (.list ((List.range 7).map fun j => .int (c j))) (.list ((List.range 7).map fun j => .int (c 0))) = PyData.eqvAll (((List.range 7).map c).map PyData.int) (((List.range 7).map fun _ => c 0).map PyData.int) := by
        rw [List.map_map, List.map_map]; rfl
      rw [this, eqv_ints]; rfl
    rw [hev2]
    have T3 := T.ext (x2.trans h23)
    have e53 := h23 _ _ e5
    have e63 : keysOk h3 kvs := fun z hz => h23 _ _ (e6 z hz)
    have y3 : Ext h h3 := x2.trans h23
    have f13 : rot s 1 = (1 + s) % 6 := rfl
    simp [f1, f3]
    intro zz hzz
    have xz : Ext h3 (h3.set zz (.tup [.int ((1 + (s : Int)) % 6), .int ((3 + (s : Int)) % 6)])) := Ext.new _ hzz
    have T4 := T3.ext xz
    have e54 := xz _ _ e53
    have e64 : keysOk (h3.set zz (.tup [.int ((1 + (s : Int)) % 6), .int ((3 + (s : Int)) % 6)])) kvs := fun z hz => xz _ _ (e63 z hz)
    have hz4 : (h3.set zz (.tup [.int ((1 + (s : Int)) % 6), .int ((3 + (s : Int)) % 6)])) zz = some (.tup [iv (rot s 1), iv (rot s 3)]) := by simp [rot]
    have y4 := y3.trans xz
    generalize h3.set zz (.tup [.int ((1 + (s : Int)) % 6), .int ((3 + (s : Int)) % 6)]) = h4 at *
    have l6 : inLim 6 := by unfold inLim; (first | lia | omega)
    simp [typeN_list T4.top, T4.top, l6]
    rw [show ((6 : Int)) = ((6 : Nat) : Int) from rfl, upTo_arr]
    refine forW_arr (fun u σ h' => σ "flow" = some (.ref fl) ∧ σ "most" = some (.ref d) ∧ σ "zigzag" = some (.ref zz) ∧ σ "even" = some (.bool (evB c)) ∧ Ext h4 h') ⟨by simp [f1], by simp [f4], by simp, by simp, Ext.refl _⟩ ?_ ?_
    · rintro u σ h5 K hu ⟨s1, s2, s3, s4, x5⟩ hK
      have T5 := T4.ext x5
      simp [law_entries_right_b2, s1, T5.top, getIdx_arr, hu, typeN_list (T5.row u hu), T5.row u hu, l6]
      rw [show ((6 : Int)) = ((6 : Nat) : Int) from rfl, upTo_arr]
      refine forW_arr (fun v σ h' => σ "flow" = some (.ref fl) ∧ σ "most" = some (.ref d) ∧ σ "zigzag" = some (.ref zz) ∧ σ "even" = some (.bool (evB c)) ∧ σ "line" = some (.ref (rows u)) ∧ σ "u" = some (iv u) ∧ Ext h4 h') ⟨by simp [s1], by simp [s2], by simp [s3], by simp [s4], by simp, by simp, x5⟩ ?_ ?_
      · rintro v σ h6 K6 hv ⟨t1, t2, t3, t4, t5, t6, x6⟩ hK6
        have T6 := T4.ext x6
        have e56 := x6 _ _ e54
        have e66 : keysOk h6 kvs := fun z hz => x6 _ _ (e64 z hz)
        simp [law_entries_right_b3, t5, T6.row u hu, getIdx_arr, hv, t2, t6]
        refine ⟨isD_ref e56 hd1, ?_⟩
        intro b hb
        have xb : Ext h6 (h6.set b (.tup [iv u, iv v])) := Ext.new _ hb
        have bb : (h6.set b (.tup [iv u, iv v])) b = some (.tup [iv u, iv v]) := by simp
        have e57 := xb _ _ e56
        have e67 : keysOk (h6.set b (.tup [iv u, iv v])) kvs := fun z hz => xb _ _ (e66 z hz)
        have x7 := x6.trans xb
        generalize h6.set b (.tup [iv u, iv v]) = h7 at *
        refine getdW_of e57 bb e67 ?_
        have hcap := wl_cap hnd u v
        rw [e8]
        have rest : ∀ x : Int, x = capM es u v → execs G (.cons (.ite (.not (.cmp .is (.bfn .type (.cons (.var "bears") .nil)) (.ty "int")))
  (.cons (.ret (.bool false))
  .nil) .nil)
  (.cons (.ite (.bor (.cons (.cmp .lt (.var "bears") (.int 0)) (.cons (.cmp .gt (.var "bears") (.var "can")) .nil)))
  (.cons (.ret (.bool false))
  .nil) .nil)
  (.cons (.ite (.var "even")
  law_entries_right_b4 .nil)
  .nil))) (upd (upd (upd σ "v" (iv v)) "bears" (.int (F u v))) "can" (.int x)) h7 K6 := by
          intro x hx
          obtain ⟨b1, b2⟩ := hF u v hu hv
          have c1 : ¬ F u v < 0 := by (first | lia | omega)
          have c2 : ¬ x < F u v := by (first | lia | omega)
          simp [c1, c2, t4]
          by_cases cev : evB c = true
          · rw [if_pos cev]
            have hFv := hev ((evB_iff c).mp cev) u v hu hv
            simp [law_entries_right_b4, t6, t3]
            intro b2' hb2
            have xb2 : Ext h7 (h7.set b2' (.tup [iv u, iv v])) := Ext.new _ hb2
            have q1 : (h7.set b2' (.tup [iv u, iv v])) b2' = some (.tup [iv u, iv v]) := by simp
            have q2 := xb2 _ _ (x7 _ _ hz4)
            have x8 := x7.trans xb2
            generalize h7.set b2' (.tup [iv u, iv v]) = h8 at *
            refine ⟨_, _, .tup q1 (.cons (.int _) (.cons (.int _) .nil)), .tup q2 (.cons (.int _) (.cons (.int _) .nil)), by simp [PyData.depth, PyData.depthAll], by simp [PyData.depth, PyData.depthAll], ?_⟩
            by_cases cz : u = rot s 1 ∧ v = rot s 3
            · rw [if_pos cz] at hFv
              simp [PyData.eqv, PyData.eqvAll, cz.1, cz.2]
              rw [cz.1, cz.2] at hFv
              simp [hFv]
              exact hK6 _ _ ⟨by simp [t1], by simp [t2], by simp [t3], by simp [t4], by simp [t5], by simp [t6, cz.1], x8⟩
            · rw [if_neg cz] at hFv
              have : (PyData.eqv (.tuple [.int (u : Nat), .int (v : Nat)]) (.tuple [.int (rot s 1 : Nat), .int (rot s 3 : Nat)])) = false := by
                simp only [PyData.eqv, PyData.eqvAll, Bool.and_true]
                rw [Bool.and_eq_false_iff]
                by_cases cu : u = rot s 1
                · right; simp; intro z; exact cz ⟨cu, by (first | lia | omega)⟩
                · left; simp; (first | lia | omega)
              rw [this]
              simp [hFv, hx]
              exact hK6 _ _ ⟨by simp [t1], by simp [t2], by simp [t3], by simp [t4], by simp [t5], by simp [t6], x8⟩
          · rw [if_neg cev]
            exact hK6 _ _ ⟨by simp [t1], by simp [t2], by simp [t3], by simp [t4], by simp [t5], by simp [t6], x7⟩
        cases qq : wl es u v with
        | none =>
          rw [qq] at hcap
          simpa using rest 0 (by simpa using hcap)
        | some x =>
          rw [qq] at hcap
          simpa using rest x (by simpa using hcap)
      · rintro σ h6 ⟨t1, t2, t3, t4, t5, t6, x6⟩
        exact hK _ _ ⟨t1, t2, t3, t4, x6⟩
    · rintro σ h5 ⟨s1, s2, s3, s4, x5⟩
      simp
      exact hQ _ (y4.trans x5)
end MP.L106

end
section
namespace MP.L106
open MP
open PySem (PyData)

theorem sums_spec {G G1 : Par} {fl s t : Nat} {B : Int} {rows : Nat → Nat} {F : Nat → Nat → Int} {h : H} {Q : V → H → Prop} (kfv : ∀ vs h Q, runFn G1 Core.flow_value_fn vs h Q → G.Γ "flow_value" vs h Q) (T : Tab h fl 6 rows F)
    (hv : ∀ v, v < 6 → rsum 6 (fun j => F v j) - rsum 6 (fun i => F i v) = if v = t then -B else if v = s then B else 0)
    (hQ : ∀ h', Ext h h' → Q (.bool true) h') : runFn G law_sums_right_fn [.ref fl, iv s, iv t, .int B] h Q := by
  refine runFn_of rfl ?_
  have l6 : inLim 6 := by unfold inLim; (first | lia | omega)
  simp [law_sums_right_fn, law_sums_right_body, l6]
  rw [show ((6 : Int)) = ((6 : Nat) : Int) from rfl, upTo_arr]
  refine forW_arr (fun v σ h' => σ "flow" = some (.ref fl) ∧ σ "source" = some (iv s) ∧ σ "sink" = some (iv t) ∧ σ "best" = some (.int B) ∧ Ext h h') ⟨by simp, by simp, by simp, by simp, Ext.refl _⟩ ?_ ?_
  · rintro v σ h1 K hvn ⟨e1, e2, e3, e4, x1⟩ hK
    have T1 := T.ext x1
    have hvv := hv v hvn
    have go : ∀ (σ' : Env) (w : Int), σ' "flow" = some (.ref fl) → σ' "v" = some (iv v) → σ' "due" = some (.int w) → σ' "source" = some (iv s) → σ' "sink" = some (iv t) → σ' "best" = some (.int B) → w = rsum 6 (fun j => F v j) - rsum 6 (fun i => F i v) →
        execs G (.cons (.ite (.cmp .ne (.bin .sub (.bfn .sum (.cons (.sub (.var "flow") (.var "v")) .nil)) (.bfn .sum (.cons (.comp (.sub (.var "line") (.var "v")) (.name "line") (.seq (.var "flow")) .nil) .nil))) (.var "due"))
          (.cons (.ret (.bool false)) .nil) .nil)
          (.cons (.ite (.cmp .ne (.call "flow_value" (.cons (.var "flow") (.cons (.var "v") .nil))) (.var "due"))
          (.cons (.ret (.bool false)) .nil) .nil) .nil)) σ' h1 K := by
      intro σ' w f1 f2 f3 f4 f5 f6 hw
      simp [f1, f2, T1.top, getIdx_arr, hvn, T1.row v hvn]
      refine compW_ext (fun i => .ref (rows i)) (fun i => .int (F i v)) T1.top ?_ ?_
      · intro i hi h' K' hx' hK'
        simp [hx' _ _ (T1.row i hi), getIdx_arr, hvn, f2]
        exact hK' _ (Ext.refl _)
      · intro h2 x2
        refine ⟨x2 _ _ T1.top, fun z hz => ?_⟩
        have x3 : Ext h2 (h2.set z (.list (arr 6 fun i => .int (F i v)))) := Ext.new _ hz
        simp [f1, f2, f3]
        have hw' : ((List.range 6).map (fun j => F v j)).sum - ((List.range 6).map (fun i => F i v)).sum = w := hw.symm
        generalize hg : h2.set z (.list (arr 6 fun i => .int (F i v))) = h3 at *
        simp [hw']
        refine kfv _ _ _ (flow_value_spec hvn (T1.ext (x2.trans x3)) fun h4 x4 => ?_)
        rw [← hw]
        simp [f3]
        exact hK _ _ ⟨f1, f4, f5, f6, ((x1.trans x2).trans x3).trans x4⟩
    simp [law_sums_right_b1, e2, e3, e4]
    by_cases c1 : v = t
    · subst c1
      rw [if_pos rfl] at hvv
      by_cases c2 : v = s
      · subst c2
        simp [e3, e4]
        have := go (upd (upd (upd (upd σ "v" (iv v)) "due" (.int 0)) "due" (.int B)) "due" (.int (-B))) (-B) (by simp [e1]) (by simp) (by simp) (by simp [e2]) (by simp [e3]) (by simp [e4]) hvv.symm
        simpa [e1] using this
      · have c2' : ¬ ((v : Int) = (s : Int)) := by (first | lia | omega)
        simp [c2', e3, e4]
        have := go (upd (upd (upd σ "v" (iv v)) "due" (.int 0)) "due" (.int (-B))) (-B) (by simp [e1]) (by simp) (by simp) (by simp [e2]) (by simp [e3]) (by simp [e4]) hvv.symm
        simpa [e1] using this
    · rw [if_neg c1] at hvv
      by_cases c2 : v = s
      · subst c2
        rw [if_pos rfl] at hvv
        have c1' : ¬ ((v : Int) = (t : Int)) := by (first | lia | omega)
        simp [e3, c1']
        have := go (upd (upd (upd σ "v" (iv v)) "due" (.int 0)) "due" (.int B)) B (by simp [e1]) (by simp) (by simp) (by simp [e2]) (by simp [e3]) (by simp [e4]) hvv.symm
        simpa [e1] using this
      · rw [if_neg c2] at hvv
        have c1' : ¬ ((v : Int) = (t : Int)) := by (first | lia | omega)
        have c2' : ¬ ((v : Int) = (s : Int)) := by (first | lia | omega)
        simp [c2', e3, c1']
        have := go (upd (upd σ "v" (iv v)) "due" (.int 0)) 0 (by simp [e1]) (by simp) (by simp) (by simp [e2]) (by simp [e3]) (by simp [e4]) hvv.symm
        simpa [e1] using this
  · rintro σ h1 ⟨e1, e2, e3, e4, x1⟩
    simp
    exact hQ _ x1

noncomputable def acrL (S : Nat → Bool) (es : List Edge) : Int := (es.map fun e => if S e.1 = true ∧ S e.2.1 = false then e.2.2 else 0).sum
theorem acrL_snoc (S : Nat → Bool) (es : List Edge) (e : Edge) : acrL S (es ++ [e]) = acrL S es + (if S e.1 = true ∧ S e.2.1 = false then e.2.2 else 0) := by
  unfold acrL; rw [List.map_append, List.sum_append]; simp

theorem cut_spec {G : Par} {sd fl ed s t : Nat} {B : Int} {rows : Nat → Nat} {S : Nat → Bool} {F : Nat → Nat → Int} {xs : List V} {es : List Edge} {h : H} {Q : V → H → Prop} (hsd : h sd = some (.list (arr 6 fun v => .bool (S v)))) (T : Tab h fl 6 rows F) (he : h ed = some (.list xs)) (A : EA h xs es) (hok : okEdges 6 es)
    (hs : s < 6) (ht : t < 6) (h1 : S s = true) (h2 : S t = false) (h3 : ∀ e ∈ es, S e.1 = true → S e.2.1 = false → F e.1 e.2.1 = e.2.2) (h4 : ∀ e ∈ es, S e.2.1 = true → S e.1 = false → F e.1 e.2.1 = 0) (h5 : acrL S es = B)
    (hQ : Q (.bool true) h) : runFn G law_cut_right_fn [.ref sd, .ref fl, .ref ed, iv s, iv t, .int B] h Q := by
  refine runFn_of rfl ?_
  simp [law_cut_right_fn, law_cut_right_body, typeN_list hsd, hsd]
  refine forW_list (xs := arr 6 fun v => .bool (S v)) (kp := some (sd, arr 6 fun v => .bool (S v))) (fun i σ h' => h' = h ∧ σ "side" = some (.ref sd) ∧ σ "flow" = some (.ref fl) ∧ σ "edges" = some (.ref ed) ∧ σ "source" = some (iv s) ∧ σ "sink" = some (iv t) ∧ σ "best" = some (.int B)) ⟨rfl, by simp, by simp, by simp, by simp, by simp, by simp⟩ (fun i σ h' hI => by rw [hI.1]; exact hsd) ?_ ?_
  · rintro i v σ h' K hv ⟨rfl, e1, e2, e3, e4, e5, e6⟩ hK
    have hi : i < 6 := by have := (List.getElem?_eq_some_iff.mp hv).1; simpa using this
    rw [arr_get _ hi] at hv; cases hv
    simp [law_cut_right_b1]
    exact hK _ _ ⟨rfl, by simp [e1], by simp [e2], by simp [e3], by simp [e4], by simp [e5], by simp [e6]⟩
  · rintro σ h' ⟨rfl, e1, e2, e3, e4, e5, e6⟩
    simp [e1, e4, e5, hsd, getIdx_arr, hs, ht, h1, h2, e3, he]
    refine forW_list (xs := xs) (kp := some (ed, xs)) (fun i σ h'' => h'' = h' ∧ σ "side" = some (.ref sd) ∧ σ "flow" = some (.ref fl) ∧ σ "best" = some (.int B) ∧ σ "across" = some (.int (acrL S (es.take i)))) ⟨rfl, by simp [e1], by simp [e2], by simp [e6], by simp [acrL]⟩ (fun i σ h'' hI => by rw [hI.1]; exact he) ?_ ?_
    · rintro i w σ h'' K hwi ⟨rfl, f1, f2, f3, f4⟩ hK
      have hie : i < es.length := by have := (List.getElem?_eq_some_iff.mp hwi).1; rw [A.1] at this; exact this
      obtain ⟨eb, g1, g2⟩ := A.2 i es[i] (List.getElem?_eq_getElem hie)
      have hei : es[i]? = some es[i] := List.getElem?_eq_getElem hie
      rw [g1] at hwi; cases hwi
      have hem := List.getElem_mem hie
      have htk : es.take (i + 1) = es.take i ++ [es[i]] := by rw [List.take_add_one, hei]; rfl
      rw [htk, acrL_snoc] at hK
      obtain ⟨o1, o2⟩ := hok _ hem
      have k3 := h3 _ hem
      have k4 := h4 _ hem
      generalize es[i] = e at *
      simp [law_cut_right_b2, g2, f1, hsd, getIdx_arr, o1, o2]
      cases s1 : S e.1 <;> cases s2 : S e.2.1
      · simp [s1, s2, f1, hsd, getIdx_arr, o1, o2]
        exact hK _ _ ⟨rfl, by simp [f1], by simp [f2], by simp [f3], by simp [f4, s1, s2]⟩
      · have k5 := k4 s2 s1
        simp [s1, s2, f1, f2, hsd, getIdx_arr, o1, o2, law_cut_right_b4, T.top, T.row _ o1, k5]
        exact hK _ _ ⟨rfl, by simp [f1], by simp [f2], by simp [f3], by simp [f4, s1, s2]⟩
      · have k5 := k3 s1 s2
        simp [s1, s2, f1, f2, f4, hsd, getIdx_arr, o1, o2, law_cut_right_b3, T.top, T.row _ o1, k5]
        exact hK _ _ ⟨rfl, by simp [f1], by simp [f2], by simp [f3], by simp [f4, s1, s2]⟩
      · simp [s1, s2, f1, hsd, getIdx_arr, o1, o2]
        exact hK _ _ ⟨rfl, by simp [f1], by simp [f2], by simp [f3], by simp [f4, s1, s2]⟩
    · rintro σ h'' ⟨rfl, f1, f2, f3, f4⟩
      rw [A.1, List.take_length, h5] at f4
      simp [f3, f4]
      exact hQ
end MP.L106

end
section
namespace MP.L106
open MP
/-- the flow along the frame's edges -/
noncomputable def ff (s : Nat) (c : Nat → Int) (M : Nat → Nat → Int) (k : Nat) : Int := c k - M (rot s (fu k)) (rot s (fv k))
structure Found (s : Nat) (c : Nat → Int) (es : List Edge) (f : Nat → Int) (M : Nat → Nat → Int) : Prop where
  hs : s < 6
  fl : Fl c f
  cap : ∀ i j, i < 6 → j < 6 → capM es (rot s i) (rot s j) = ct c i j
  res : ∀ i j, i < 6 → j < 6 → ct c i j - M (rot s i) (rot s j) = ct f i j - ct f j i
  mem : ∀ e ∈ es, ∃ k, k < 7 ∧ e = (rot s (fu k), rot s (fv k), c k)
noncomputable def FF (es : List Edge) (M : Nat → Nat → Int) (u v : Nat) : Int := max (capM es u v - M u v) 0
theorem es_perm {s : Nat} {c : Nat → Int} {es : List Edge} (h : es = frame s c ∨ es = (frame s c).reverse) : es.Perm (frame s c) := by
  rcases h with rfl | rfl
  · exact .refl _
  · exact List.reverse_perm _
theorem es_ok {s : Nat} {c : Nat → Int} {es : List Edge} (h : es.Perm (frame s c)) : ∀ e ∈ es, ∃ k, k < 7 ∧ e = (rot s (fu k), rot s (fv k), c k) := fun e he => by
  obtain ⟨k, hk, rfl⟩ := List.mem_map.mp (h.mem_iff.mp he)
  exact ⟨k, by simpa using hk, rfl⟩
theorem es_nodup {s : Nat} {c : Nat → Int} {es : List Edge} (h : es.Perm (frame s c)) : (es.map fun e => (e.1, e.2.1)).Nodup := by
  rw [(h.map _).nodup_iff]
  unfold frame
  rw [List.map_map]
  unfold List.Nodup
  rw [List.pairwise_map]
  refine List.nodup_range.imp_of_mem ?_
  intro a b ha hb hne he
  have ha : a < 7 := by simpa using ha
  have hb : b < 7 := by simpa using hb
  obtain ⟨a1, _, a2, a3⟩ := kx_edge a ha
  obtain ⟨b1, _, b2, b3⟩ := kx_edge b hb
  simp only [Function.comp, Prod.mk.injEq] at he
  rw [rot_inj a2 b2 he.1, rot_inj a3 b3 he.2, b1] at a1
  exact hne (Option.some.inj a1).symm
theorem found {s : Nat} {c : Nat → Int} {es : List Edge} {M : Nat → Nat → Int} (hs : s < 6) (h : es.Perm (frame s c)) (I : FlowInv 6 s (rot s 5) (capM es) M) : Found s c es (ff s c M) M := by
  have hC : ∀ i j, i < 6 → j < 6 → capM es (rot s i) (rot s j) = ct c i j := fun i j hi hj => by rw [capM_perm h]; exact cap_frame s c hi hj
  obtain ⟨h1, h2⟩ := frame_flow hs hC I
  exact ⟨hs, h1, hC, fun i j hi hj => by rw [← hC i j hi hj]; exact h2 i j hi hj, es_ok h⟩

variable {s : Nat} {c f : Nat → Int} {es : List Edge} {M : Nat → Nat → Int}
theorem ct_nn (F : Fl c f) {i j : Nat} (hi : i < 6) (hj : j < 6) : 0 ≤ ct f i j ∧ ct f i j ≤ ct c i j := by
  cases q : kx i j with
  | none => rw [ct_none q, ct_none q]; exact ⟨Int.le_refl _, Int.le_refl _⟩
  | some k => rw [ct_some q, ct_some q]; have := (kx_of hi hj q).1; exact ⟨F.lo k this, F.hi k this⟩
theorem Found.ff (D : Found s c es f M) {i j : Nat} (hi : i < 6) (hj : j < 6) : FF es M (rot s i) (rot s j) = ct f i j := by
  unfold FF
  rw [D.cap i j hi hj, D.res i j hi hj]
  cases q : kx i j with
  | none =>
    have := (ct_nn D.fl hj hi).1
    rw [ct_none q]; lia
  | some k =>
    have hk := kx_of hi hj q
    have := D.fl.lo k hk.1
    have h2 : kx j i = none := by rw [← hk.2.1, ← hk.2.2]; exact (kx_edge k hk.1).2.1
    rw [ct_some q, ct_none h2]; lia
theorem Found.lim (D : Found s c es f M) : ∀ u v, u < 6 → v < 6 → 0 ≤ FF es M u v ∧ FF es M u v ≤ capM es u v := fun u v hu hv => by
  obtain ⟨i, hi, rfl⟩ := rot_sur s hu
  obtain ⟨j, hj, rfl⟩ := rot_sur s hv
  rw [D.ff hi hj, D.cap i j hi hj]
  exact ct_nn D.fl hi hj
theorem Found.room (D : Found s c es f M) : ∀ u v, u < 6 → v < 6 → (FF es M u v < capM es u v ∨ 0 < FF es M v u) → 0 < M u v := fun u v hu hv => by
  obtain ⟨i, hi, rfl⟩ := rot_sur s hu
  obtain ⟨j, hj, rfl⟩ := rot_sur s hv
  rw [D.ff hi hj, D.ff hj hi, D.cap i j hi hj]
  have h1 := D.res i j hi hj
  have h2 := ct_nn D.fl hi hj
  have h3 := ct_nn D.fl hj hi
  intro h4
  rcases h4 with h4 | h4 <;> lia
/-- a set that nothing leaves is a full cut -/
theorem Found.cut (D : Found s c es f M) {X : Nat → Bool} (h0 : X s = true) (h5 : X (rot s 5) = false) (hcl : ∀ u v, u < 6 → v < 6 → X u = true → (FF es M u v < capM es u v ∨ 0 < FF es M v u) → X v = true) : Cut c f fun i => X (rot s i) := by
  have hs := D.hs
  refine ⟨?_, h5, fun k hk h1 h2 => ?_, fun k hk h1 h2 => ?_⟩
  · show X (rot s 0) = true
    rw [show rot s 0 = s by unfold rot; (first | lia | omega)]; exact h0
  · obtain ⟨k1, _, k2, k3⟩ := kx_edge k hk
    have := hcl _ _ (rot_lt s (fu k)) (rot_lt s (fv k)) h1
    rw [D.ff k2 k3, D.ff k3 k2, D.cap _ _ k2 k3, ct_some k1, ct_some k1, h2] at this
    have h3 := D.fl.hi k hk
    rcases Int.lt_or_le (f k) (c k) with q | q
    · exact absurd (this (.inl q)) (by simp)
    · (first | lia | omega)
  · obtain ⟨k1, _, k2, k3⟩ := kx_edge k hk
    have := hcl _ _ (rot_lt s (fv k)) (rot_lt s (fu k)) h1
    rw [D.ff k2 k3, D.ff k3 k2, D.cap _ _ k3 k2, ct_some k1, h2] at this
    have h3 := D.fl.lo k hk
    rcases Int.lt_or_le 0 (f k) with q | q
    · exact absurd (this (.inr q)) (by simp)
    · (first | lia | omega)
theorem Found.clo (D : Found s c es f M) {prev : Nat → Option Nat} {q : List Nat} (Bf : Bfs 6 (fun u v => 0 < M u v) s prev q q.length 0) : ∀ u v, u < 6 → v < 6 → u ∈ q → (FF es M u v < capM es u v ∨ 0 < FF es M v u) → v ∈ q := fun u v hu hv h1 h2 => by
  obtain ⟨i, hi⟩ := List.mem_iff_getElem?.mp h1
  have hl := (List.getElem?_eq_some_iff.mp hi).1
  exact Bf.clo i u v (.inl hl) hi hv (D.room u v hu hv h2)
theorem Found.value (D : Found s c es f M) {prev : Nat → Option Nat} {q : List Nat} {B : Int} (hc : ∀ k, 0 ≤ c k ∧ c k ≤ 3) (Bf : Bfs 6 (fun u v => 0 < M u v) s prev q q.length 0) (ht : rot s 5 ∉ q) (hB : Best c B) : f 0 + f 1 = B := by
  have hC := D.cut (X := fun v => decide (v ∈ q)) (decide_eq_true (List.mem_iff_getElem?.mpr ⟨0, Bf.hd⟩)) (decide_eq_false ht) fun u v hu hv h1 h2 => decide_eq_true (D.clo Bf u v hu hv (of_decide_eq_true h1) h2)
  exact Int.le_antisymm (val_le D.fl hB) (best_le (fun k _ => (hc k).1) D.fl hC hB)
theorem Found.sums (D : Found s c es f M) {B : Int} (hv : f 0 + f 1 = B) : ∀ v, v < 6 → rsum 6 (fun j => FF es M v j) - rsum 6 (fun i => FF es M i v) = if v = rot s 5 then -B else if v = s then B else 0 := fun v hvl => by
  have hs := D.hs
  obtain ⟨i, hi, rfl⟩ := rot_sur s hvl
  rw [rsum_rot hs, rsum_rot hs (fun i' => FF es M i' (rot s i)), rsum_congr (g := fun j => ct f i j) fun j hj => D.ff hi hj, rsum_congr (g := fun j => ct f j i) fun j hj => D.ff hj hi]
  have e5 : (rot s i = rot s 5) = (i = 5) := propext ⟨rot_inj hi (by (first | lia | omega)), fun e => by rw [e]⟩
  have e0 : (rot s i = s) = (i = 0) := propext ⟨fun e => rot_inj hi (by (first | lia | omega)) (e.trans (by unfold rot; (first | lia | omega))), fun e => by rw [e]; unfold rot; (first | lia | omega)⟩
  rw [rsum6, rsum6]
  simp only [e5, e0]
  have n1 := D.fl.n1; have n2 := D.fl.n2; have n3 := D.fl.n3; have n4 := D.fl.n4
  have : i = 0 ∨ i = 1 ∨ i = 2 ∨ i = 3 ∨ i = 4 ∨ i = 5 := by (first | lia | omega)
  rcases this with rfl | rfl | rfl | rfl | rfl | rfl <;> simp [ct, kx] <;> lia
theorem Found.even (D : Found s c es f M) {B : Int} (hB : Best c B) (hv : f 0 + f 1 = B) : (∀ k, k < 7 → c k = c 0) → ∀ u v, u < 6 → v < 6 → FF es M u v = if u = rot s 1 ∧ v = rot s 3 then 0 else capM es u v := fun he u v hu hvl => by
  have ev := even_flow D.fl hB hv he
  obtain ⟨i, hi, rfl⟩ := rot_sur s hu
  obtain ⟨j, hj, rfl⟩ := rot_sur s hvl
  rw [D.ff hi hj, D.cap i j hi hj]
  cases q : kx i j with
  | none => rw [ct_none q, ct_none q]; split <;> rfl
  | some k =>
    have hk := kx_of hi hj q
    rw [ct_some q, ct_some q, ev k hk.1, he k hk.1]
    by_cases k2 : k = 2
    · subst k2
      rw [if_pos rfl, if_pos ⟨by rw [← hk.2.1]; rfl, by rw [← hk.2.2]; rfl⟩]
    · rw [if_neg k2, if_neg]
      rintro ⟨a, b⟩
      rw [rot_inj hi (by (first | lia | omega)) a, rot_inj hj (by (first | lia | omega)) b] at q
      exact k2 (Option.some.inj q).symm
theorem acrL_perm {S : Nat → Bool} {es es' : List Edge} (p : es.Perm es') : acrL S es = acrL S es' := perm_sum (p.map _)
theorem Found.side (D : Found s c es f M) {prev : Nat → Option Nat} {q : List Nat} {S : Nat → Bool} {B : Int} (Bf : Bfs 6 (fun u v => 0 < M u v) s prev q q.length 0) (ht : rot s 5 ∉ q) (hS : SideOk 6 (fun u v => FF es M u v < capM es u v ∨ 0 < FF es M v u) s S) (hp : es.Perm (frame s c)) (hv : f 0 + f 1 = B) :
    S s = true ∧ S (rot s 5) = false ∧ (∀ e ∈ es, S e.1 = true → S e.2.1 = false → FF es M e.1 e.2.1 = e.2.2) ∧ (∀ e ∈ es, S e.2.1 = true → S e.1 = false → FF es M e.1 e.2.1 = 0) ∧ acrL S es = B := by
  have h0 : S s = true := (hS s D.hs).mpr .nil
  have hq : ∀ v, Rch 6 (fun u v => FF es M u v < capM es u v ∨ 0 < FF es M v u) s v → v ∈ q := fun v r => by
    induction r with
    | nil => exact List.mem_iff_getElem?.mpr ⟨0, Bf.hd⟩
    | snoc _ hu hv hr ih => exact D.clo Bf _ _ hu hv ih hr
  have h5 : S (rot s 5) = false := by
    cases e : S (rot s 5) with
    | false => rfl
    | true => exact absurd (hq _ ((hS _ (rot_lt s 5)).mp e)) ht
  have C := D.cut h0 h5 fun u v hu hv h1 h2 => (hS v hv).mpr (.snoc ((hS u hu).mp h1) hu hv h2)
  refine ⟨h0, h5, fun e he h1 h2 => ?_, fun e he h1 h2 => ?_, ?_⟩
  · obtain ⟨k, hk, rfl⟩ := D.mem e he
    obtain ⟨k1, _, k2, k3⟩ := kx_edge k hk
    show FF es M (rot s (fu k)) (rot s (fv k)) = c k
    rw [D.ff k2 k3, ct_some k1]; exact C.full k hk h1 h2
  · obtain ⟨k, hk, rfl⟩ := D.mem e he
    obtain ⟨k1, _, k2, k3⟩ := kx_edge k hk
    show FF es M (rot s (fu k)) (rot s (fv k)) = 0
    rw [D.ff k2 k3, ct_some k1]; exact C.void k hk h1 h2
  · rw [acrL_perm hp, ← hv, ← across_val D.fl C]
    have : acrL S (frame s c) = rsum 7 fun k => acr c (fun i => S (rot s i)) k := by
      unfold acrL frame; rw [List.map_map]; rfl
    rw [this]
    simp only [rsum_succ, rsum_zero]
    unfold across
    lia
end MP.L106

end
section
namespace MP.L106
open MP

theorem law_run {G G1 G2 G3 G4 G5 G6 G7 G8 G9 G10 G11 G12 G13 G14 G15 : Par} {h0 : H} (FC : FrameC G4.gc h0)
    (kcell : ∀ vs h Q, runFn G1 law_cell_fn vs h Q → G.Γ "_law_cell" vs h Q)
    (kcaps : ∀ vs h Q, runFn G2 law_caps_fn vs h Q → G.Γ "_law_caps" vs h Q) (kcell2 : ∀ vs h Q, runFn G3 law_cell_fn vs h Q → G2.Γ "_law_cell" vs h Q)
    (kedges : ∀ vs h Q, runFn G4 law_edges_fn vs h Q → G.Γ "_law_edges" vs h Q)
    (kbest : ∀ vs h Q, runFn G5 law_best_fn vs h Q → G.Γ "_law_best" vs h Q)
    (kent : ∀ vs h Q, runFn G6 law_entries_right_fn vs h Q → G.Γ "_law_entries_right" vs h Q)
    (ksum : ∀ vs h Q, runFn G7 law_sums_right_fn vs h Q → G.Γ "_law_sums_right" vs h Q) (kfv : ∀ vs h Q, runFn G12 Core.flow_value_fn vs h Q → G7.Γ "flow_value" vs h Q)
    (kcut : ∀ vs h Q, runFn G15 law_cut_right_fn vs h Q → G.Γ "_law_cut_right" vs h Q)
    (kmax : ∀ vs h Q, runFn G8 Core.max_flow_fn vs h Q → G.Γ "max_flow" vs h Q) (kct : ∀ vs h Q, runFn G9 Core.capacity_table_fn vs h Q → G8.Γ "capacity_table" vs h Q)
    (kaug : ∀ vs h Q, runFn G10 Core.augmenting_path_fn vs h Q → G8.Γ "augmenting_path" vs h Q) (kpath : ∀ vs h Q, runFn G11 Core.path_to_fn vs h Q → G10.Γ "path_to" vs h Q)
    (kss : ∀ vs h Q, runFn G13 Core.source_side_fn vs h Q → G.Γ "source_side" vs h Q) (kct2 : ∀ vs h Q, runFn G14 Core.capacity_table_fn vs h Q → G13.Γ "capacity_table" vs h Q) :
    runFn G law_fn [.scr] h0 fun v _ => v = .bool true := by
  refine runFn_of rfl ?_
  simp [law_fn, law_body]
  refine kcell _ _ _ (cell_spec (i := 0) ?_)
  obtain ⟨s, hs, hsn⟩ : ∃ s : Nat, cell G1.ns 0 % 6 = (s : Int) ∧ s < 6 := ⟨(cell G1.ns 0 % 6).toNat, by (first | lia | omega), by (first | lia | omega)⟩
  have hrt : ((s : Int) + 5) % 6 = ((rot s 5 : Nat) : Int) := by unfold rot; (first | lia | omega)
  simp [hs, hrt]
  refine kcaps _ _ _ (caps_spec kcell2 fun c hc ca h1 hca x1 e1 => ?_)
  try simp
  refine kcell _ _ _ (cell_spec (i := 1) ?_)
  try simp
  refine kedges _ _ _ (edges_spec hsn (FC.mono x1) e1 fun ea xs es h2 hea x2 e2 A hes => ?_)
  have hp := es_perm hes
  have hok : okEdges 6 es := fun e he => by obtain ⟨k, hk, rfl⟩ := es_ok hp e he; exact ⟨rot_lt _ _, rot_lt _ _⟩
  have hel : es.length = 7 := by rw [hp.length_eq]; simp [frame]
  have hxl : xs.length < lim := by rw [A.1, hel]; unfold lim; (first | lia | omega)
  simp [e2, alloc]
  intro ka hka
  have x3 : Ext h2 (h2.set ka (.list xs)) := Ext.new _ hka
  have ek : (h2.set ka (.list xs)) ka = some (.list xs) := by simp
  have y3 := x2.trans x3
  have A3 := A.mono x3
  have e23 := x3 _ _ e2
  generalize h2.set ka (.list xs) = h3 at *
  try simp
  refine kbest _ _ _ (best_spec (y3 _ _ e1) hc fun B hB => ?_)
  try simp
  have hst : s ≠ rot s 5 := by unfold rot; (first | lia | omega)
  have l6 : inLim 6 := by unfold inLim; (first | lia | omega)
  have hcn : ∀ u v, u < 6 → v < 6 → 0 ≤ capM es u v := fun u v hu hv => by
    obtain ⟨i, hi, rfl⟩ := rot_sur s hu
    obtain ⟨j, hj, rfl⟩ := rot_sur s hv
    rw [capM_perm hp, cap_frame s c hi hj]
    cases q : kx i j with
    | none => rw [ct_none q]; exact Int.le_refl _
    | some k => rw [ct_some q]; exact (hc k).1
  refine kmax _ _ _ (max_flow_spec (n := 6) (s := s) (t := rot s 5) (FlowInv 6 s (rot s 5) (capM es)) kct kaug kpath (by (first | lia | omega)) hsn (rot_lt _ _) hst (A3.rd e23) hok (fun M hM => FlowInv.start hcn hM) (fun M I => I.nn)
    (fun M M' prev q k ch m I Bf C k1 hm hle _ he => I.step Bf C hm hle he) fun M prev q fa fr h4 I Bf htq x4 _ TF => ?_)
  have D := found hsn hp I
  have hv := D.value hc Bf htq hB
  have TF : Tab h4 fa 6 fr (FF es M) := TF
  have A4 := A3.mono x4
  have e24 := x4 _ _ e23
  have ek4 := x4 _ _ ek
  try simp
  refine eqW_same (A4.rd e24) (A4.rd ek4) (depth_edges _) ?_
  try simp
  have y4 := y3.trans x4
  refine kent _ _ _ (entries_spec hsn TF ek4 A4 hok (es_nodup hp) (by (first | lia | omega)) (y4 _ _ e1) D.lim (D.even hB hv) fun h5 x5 => ?_)
  have TF5 := TF.ext x5
  try simp [TF5.top]
  refine compW_rows (m := 6) (fun i => .ref (fr i)) (fun i j => .int (FF es M i j)) TF5.top ?_ ?_
  · intro i hi h' K hx hK
    simp [hx _ _ (TF5.row i hi)]
    exact fun r hr => hK r hr
  intro wr h6 x6 hwr hwi
  refine ⟨x6 _ _ TF5.top, fun wa hwa => ?_⟩
  have x7 : Ext h6 (h6.set wa (.list (arr 6 fun i => .ref (wr i)))) := Ext.new _ hwa
  have TW : Tab (h6.set wa (.list (arr 6 fun i => .ref (wr i)))) wa 6 wr (FF es M) := by
    refine ⟨by simp, fun i hi => x7 _ _ (hwr i hi).2, hwi, fun i hi e => ?_⟩
    rw [← e, (hwr i hi).2] at hwa; cases hwa
  generalize h6.set wa (.list (arr 6 fun i => .ref (wr i))) = h7 at *
  have z7 := x5.trans (x6.trans x7)
  try simp
  refine ksum _ _ _ (sums_spec kfv (TF.ext z7) (D.sums hv) fun h8 x8 => ?_)
  try simp
  have z8 := z7.trans x8
  have A8 := A4.mono z8
  refine kss _ _ _ (source_side_spec (n := 6) kct2 (by (first | lia | omega)) hsn (A8.rd (z8 _ _ e24)) hok (TF.ext z8) fun S hS sa h9 hsa x9 e9 => ?_)
  obtain ⟨s1, s2, s3, s4, s5⟩ := D.side Bf htq hS hp hv
  have z9 := z8.trans x9
  have A9 := A4.mono z9
  have TW9 := TW.ext (x8.trans x9)
  try simp
  refine kcut _ _ _ (cut_spec e9 TW9 (z9 _ _ ek4) A9 hok hsn (rot_lt _ _) s1 s2 s3 s4 s5 ?_)
  try simp
  refine eqW_same (A9.rd (z9 _ _ e24)) (A9.rd (z9 _ _ ek4)) (depth_edges _) ?_
  try simp
  refine eqW_same (TF.ext z9).rd TW9.rd (depth_tab _ _) ?_
  try simp
noncomputable def fns : List (String × Fn) := [("law", law_fn), ("_law_cut_right", law_cut_right_fn), ("_law_sums_right", law_sums_right_fn), ("_law_entries_right", law_entries_right_fn), ("_law_best", law_best_fn), ("_law_edges", law_edges_fn), ("_law_caps", law_caps_fn), ("_law_cell", law_cell_fn), ("source_side", Core.source_side_fn), ("flow_value", Core.flow_value_fn), ("max_flow", Core.max_flow_fn), ("augmenting_path", Core.augmenting_path_fn), ("capacity_table", Core.capacity_table_fn), ("path_to", Core.path_to_fn)]
theorem law_ok (ns : List Int) (gc : String → Option V) (h0 : H) (FC : FrameC gc h0) : table ns gc fns "law" [.scr] h0 fun v _ => v = .bool true := by
  exact call_of (l := fns) rfl _ _ _ (law_run FC (call_of rfl) (call_of rfl) (call_of rfl) (call_of rfl) (call_of rfl) (call_of rfl) (call_of rfl) (call_of rfl) (call_of rfl) (call_of rfl) (call_of rfl) (call_of rfl) (call_of rfl) (call_of rfl) (call_of rfl))
end MP.L106

end
section
namespace MP.L106
open MP PySem PySem.W PyProof.Rows
noncomputable def nestB (F : Frag) (cs : List String) (x : String) (vss : List (List V)) : Bool :=
  match gcOf F cs x with
  | some (.ref a) => (match h0Of F a with
    | some (.tup rs) => rs.length == vss.length && (List.range vss.length).all fun i => match rs[i]? with
      | some (.ref b) => h0Of F b == some (.tup (vss[i]?.getD []))
      | _ => false
    | _ => false)
  | _ => false
theorem nest_ok {F : Frag} {cs : List String} {x : String} {vss : List (List V)} (e : nestB F cs x vss = true) : ∃ (a : Nat) (fb : Nat → Nat), gcOf F cs x = some (.ref a) ∧ h0Of F a = some (.tup (arr vss.length fun k => .ref (fb k))) ∧ ∀ k, k < vss.length → h0Of F (fb k) = some (.tup (vss[k]?.getD [])) := by
  unfold nestB at e
  split at e
  · rename_i a hn
    split at e
    · rename_i rs hr
      rw [Bool.and_eq_true, beq_iff_eq, List.all_eq_true] at e
      have h1 : ∀ k, k < vss.length → ∃ b, rs[k]? = some (.ref b) ∧ h0Of F b = some (.tup (vss[k]?.getD [])) := fun k hk => by
        have := e.2 k (List.mem_range.mpr hk)
        split at this
        · rename_i b hb
          exact ⟨b, hb, beq_iff_eq.mp this⟩
        · cases this
      refine ⟨a, fun k => if hk : k < vss.length then (h1 k hk).choose else 0, hn, ?_, fun k hk => ?_⟩
      · rw [hr]
        congr 2
        refine List.ext_getElem? fun k => ?_
        by_cases hk : k < vss.length
        · rw [arr_get _ hk]; simp only [dif_pos hk]; exact (h1 k hk).choose_spec.1
        · rw [List.getElem?_eq_none (by rw [e.1]; (first | lia | omega)), List.getElem?_eq_none (by simp; (first | lia | omega))]
      · simp only [dif_pos hk]; exact (h1 k hk).choose_spec.2
    · cases e
  · cases e
noncomputable def lawFrame : List (List V) := [[.int 0, .int 1], [.int 0, .int 2], [.int 1, .int 3], [.int 1, .int 4], [.int 2, .int 3], [.int 3, .int 5], [.int 4, .int 5]]
theorem frameC_of {F : Frag} {h : Heap} (_ : F.In h) (e : nestB F ["_law_frame"] "_law_frame" lawFrame = true) : FrameC (gcOf F ["_law_frame"]) (h0Of F) := by
  obtain ⟨a, fb, h1, h2, h3⟩ := nest_ok e
  refine ⟨a, fb, h1, h2, fun k hk => ?_⟩
  rw [h3 k hk]
  have : k = 0 ∨ k = 1 ∨ k = 2 ∨ k = 3 ∨ k = 4 ∨ k = 5 ∨ k = 6 := by (first | lia | omega)
  rcases this with rfl | rfl | rfl | rfl | rfl | rfl | rfl <;> rfl
end MP.L106

end
open PySem PySem.W PyProof.Rows
noncomputable def MP.L106.vw : Program := MP.viewOf PySem.Challenge.pw_pd_atlas_1_06 [1,2,3,4,5,6,8,9,10,11,12,13,14,15,16]
noncomputable def MP.L106.chk (F : Frag) : Bool := MP.bfB F && (MP.L106.fns.all fun p => MP.fnB F (MP.L106.fns.map (·.1)) p.1 p.2) && MP.L106.nestB F ["_law_frame"] "_law_frame" MP.L106.lawFrame
set_option maxRecDepth 100000 in
set_option maxHeartbeats 8000000 in
theorem MP.L106.left : LeftO PySem.Challenge.rw_pd_atlas_1_06.row.prog MP.L106.vw [] (fun s => xlAt MP.L106.vw [] s && recOk (RowW.records PySem.Challenge.rw_pd_atlas_1_06.row.toRowW) s) (MP.chkHook 160 MP.L106.chk).obs (MP.chkHook 160 MP.L106.chk).val 1090 := by
  intro w
  kernel_rfl
set_option maxRecDepth 100000 in
set_option maxHeartbeats 8000000 in
theorem PySem.Challenge.cw_pd_atlas_1_06_holds : PySem.Challenge.rw_pd_atlas_1_06.Holds := by
  w_on
  o_law
  refine holds_open (q := MP.L106.vw) (loose := []) (Xt := fun s => xlAt MP.L106.vw [] s && recOk (RowW.records PySem.Challenge.rw_pd_atlas_1_06.row.toRowW) s) (XP := XL MP.L106.vw []) (Yf := Hook.obs (MP.chkHook 160 MP.L106.chk)) (Ya := Hook.val (MP.chkHook 160 MP.L106.chk)) (YP := Hook.says (MP.chkHook 160 MP.L106.chk)) (N := 1090) MP.L106.left (Hook.of _) (Hook.keeps _) (fun s e => xl_of s (Bool.and_eq_true_iff.mp e).1) XL.keeps (by rfl) (by rfl) (by rfl) (fun s e => recFacts_of (Bool.and_eq_true_iff.mp e).2) (by rfl) (by assumption) (by decide +kernel) ⟨rfl, rfl, rfl, rfl, rfl, by decide +kernel⟩ ?hw ?hc
  case hw => w_witness2
  intro w s₀ s₁ mg mb G Y fa o pm cd doc dV kV ho hd hcd hD hmg hg args vals as hpre hlay hrd hwl hlo
  obtain ⟨F, KX, hF⟩ := Y
  unfold MP.L106.chk at hF
  rw [Bool.and_eq_true, Bool.and_eq_true] at hF
  refine Ground.open G ?_
  intro T B D TE TW
  wrow_args hpre hlay hrd hwl hlo
  rename_i ns _ _ _ _ _ _ _ scr vs _ hList _ _ _ hInts _ hmost _
  have hlen : ns.length ≤ 63 := by omega
  obtain ⟨hK, hf⟩ := MP.kok_of (os := s₁.os) (fs := MP.L106.fns) (cs := ["_law_frame"]) T KX hF.1.1 hList hInts (by unfold MP.lim; omega) hF.1.2
  refine wpAny_mono (MP.mp_run hK hf rfl rfl hg hmg (by decide) (MP.h0Of_ok KX) (MP.L106.law_ok ns _ _ (MP.L106.frameC_of KX hF.2))) (fun v s' hx => ?_) fun _ _ e => e
  obtain ⟨rfl, h1, h2, h3⟩ := hx
  exact ⟨.inl ⟨_, _, [], rfl, fun _ => rfl, ReadsW.bool true, by wrow_post, fun _ => ⟨List.nodup_nil, fun _ hm => (nomatch hm)⟩⟩, .of_keep h1, h2, h3⟩
