import PyProof.Rows.All
import Wide.All
import OpenK.AllK
import Wide.FinOn
import PySem.Challenge.RW_pd_atlas_1_03
set_option Elab.async false
set_option linter.unusedSimpArgs false
set_option linter.unusedVariables false
set_option maxHeartbeats 4000000
set_option genSizeOf false
set_option maxRecDepth 100000
section
/-! small facts about numbers, each proved once -/
namespace MP.Ar
theorem lt_ne {i j : Nat} (h : j < i + 1) (q : ¬ j = i) : j < i := Nat.lt_of_le_of_ne (Nat.le_of_lt_succ h) q
theorem add_lt {i k n : Nat} (e : i + (k + 1) = n) : i < n := by (first | lia | omega)
theorem add_sw {i k n : Nat} (e : i + (k + 1) = n) : i + 1 + k = n := by (first | lia | omega)
theorem add_sw' {i j : Nat} : i + (j + 1) = i + 1 + j := by (first | lia | omega)
theorem add_swI {i j : Nat} : ((i + (j + 1) : Nat) : Int) = ((i + 1 + j : Nat) : Int) := by (first | lia | omega)
theorem toNat_sub {n m : Nat} : ((n : Int) - (m : Int)).toNat = n - m := by (first | lia | omega)
theorem lim1 {n : Nat} (h : n ≤ 500000) : (-500000 : Int) ≤ n ∧ (n : Int) ≤ 500000 := by (first | lia | omega)
theorem sub_self_zero {k j : Nat} (h : k ≤ j) : k - j = 0 := Nat.sub_eq_zero_of_le h
theorem le_sum1 {z l : Nat} (h : z ≤ l) : z + 1 ≤ l + 1 := Nat.succ_le_succ h
theorem lt_le_pred {j n : Nat} {j' : Nat} (h : j ≤ n + 1) (h' : j' < j) : j' ≤ n := Nat.le_of_lt_succ (Nat.lt_of_lt_of_le h' h)
theorem mod_nat {x : Int} {n : Nat} (h : 0 ≤ x % (n : Int)) : x % (n : Int) = ((x % (n : Int)).toNat : Int) := (Int.toNat_of_nonneg h).symm
theorem pt4 {a b c : Int} (h : a ≤ b) (p : 0 ≤ c) : a ≤ b + c := by (first | lia | omega)
theorem minL {a b : Int} : min a b ≤ a := Int.min_le_left a b
theorem minR {a b : Int} : min a b ≤ b := Int.min_le_right a b
theorem min_r {a b : Int} (h : b ≤ a) : min a b = b := Int.min_eq_right h
theorem min_l {a b : Int} (h : a ≤ b) : min a b = a := Int.min_eq_left h
theorem lex2 {u i v j : Nat} (d : u < i ∨ u = i ∧ v < j) : u < i ∨ u = i ∧ v < j + 1 := by (first | lia | omega)
theorem zadd {n : Nat} : 0 + n = n := Nat.zero_add n
theorem izadd {n : Int} : 0 + n = n := Int.zero_add n
theorem iaddz {n : Int} : n + 0 = n := Int.add_zero n
end MP.Ar

end
section
/-! A small language, its weakest preconditions: plain Lean, no program in sight. -/
namespace MP
open PySem (PyData)

inductive V where
  | none | bool (b : Bool) | int (i : Int) | ref (a : Nat) | scr | ty (t : String)
  deriving DecidableEq, Inhabited

inductive O where
  | list (xs : List V) | tup (xs : List V) | dict (kvs : List ((Int × Int) × Nat × Int))
  deriving DecidableEq, Inhabited

noncomputable abbrev H := Nat → Option O
noncomputable def H.set (h : H) (a : Nat) (o : O) : H := fun b => if b = a then some o else h b
noncomputable abbrev Env := String → Option V
noncomputable def upd (σ : Env) (x : String) (v : V) : Env := fun y => if y = x then some v else σ y

/-- no list is longer -/
noncomputable abbrev lim : Nat := 1000000

mutual
inductive Rd (h : H) : V → PyData → Prop
  | none : Rd h .none .none
  | bool (b : Bool) : Rd h (.bool b) (.bool b)
  | int (i : Int) : Rd h (.int i) (.int i)
  | list {a : Nat} {xs : List V} {ds : List PyData} : h a = some (.list xs) → RdAll h xs ds → Rd h (.ref a) (.list ds)
  | tup {a : Nat} {xs : List V} {ds : List PyData} : h a = some (.tup xs) → RdAll h xs ds → Rd h (.ref a) (.tuple ds)
inductive RdAll (h : H) : List V → List PyData → Prop
  | nil : RdAll h [] []
  | cons {v : V} {d : PyData} {vs : List V} {ds : List PyData} : Rd h v d → RdAll h vs ds → RdAll h (v :: vs) (d :: ds)
end

inductive Op where | add | sub | mul | div | mod
inductive Cm where | lt | le | gt | ge | eq | ne | is | isnt | isin | notin
inductive Bf where | len | list | min | max | sum | type
inductive Mt where | append | reverse | index

/-- names bound by a for or a comprehension -/
inductive Tg where
  | name (x : String)

mutual
inductive PE where
  | none | bool (b : Bool) | int (i : Int)
  | ty (t : String)
  | var (x : String)
  | bin (op : Op) (a b : PE)
  | neg (a : PE)
  | not (a : PE)
  | cmp (op : Cm) (a b : PE)
  | band (es : PEs) | bor (es : PEs)
  | ite (c a b : PE)
  | sub (a i : PE)
  | take (a e : PE)
  | list (es : PEs) | tup (es : PEs)
  | call (f : String) (es : PEs)
  | bfn (f : Bf) (es : PEs)
  | meth (a : PE) (m : Mt) (es : PEs)
  | comp (elt : PE) (t : Tg) (src : Src) (ifs : PEs)
inductive PEs where
  | nil | cons (e : PE) (r : PEs)
inductive Src where
  | up (a : PE) | fromTo (a b : PE) | seq (e : PE)
end

/-- what a store goes to -/
inductive Lv where
  | tg (t : Tg) | sub (a i : PE)

mutual
inductive PS where
  | assign (l : Lv) (e : PE)
  | expr (e : PE)
  | ite (c : PE) (a b : PSs)
  | whl (c : PE) (b : PSs)
  | fr (t : Tg) (src : Src) (b : PSs)
  | ret (e : PE)
  | stop
inductive PSs where
  | nil | cons (s : PS) (r : PSs)
end

structure Par where
  ns : List Int
  gc : String → Option V
  Γ : String → List V → H → (V → H → Prop) → Prop

noncomputable def intsOf : List V → Option (List Int)
  | [] => some []
  | .int i :: r => (intsOf r).map (i :: ·)
  | _ :: _ => Option.none
noncomputable def minL : List Int → Int
  | [] => 0
  | x :: r => r.foldl min x
noncomputable def upTo (a b : Int) : List Int := (List.range (b - a).toNat).map fun i => a + (i : Nat)
noncomputable def inLim (i : Int) : Prop := -500000 ≤ i ∧ i ≤ 500000
noncomputable def getIdx (xs : List V) (k : Int) : Option V := if 0 ≤ k then xs[k.toNat]? else Option.none

noncomputable def alloc (o : O) (h : H) (Q : V → H → Prop) : Prop := ∀ a, h a = Option.none → Q (.ref a) (h.set a o)

noncomputable def binop : Op → V → V → H → (V → H → Prop) → Prop
  | .add, .int i, .int j, h, Q => Q (.int (i + j)) h
  | .sub, .int i, .int j, h, Q => Q (.int (i - j)) h
  | .mul, .int i, .int j, h, Q => inLim i ∧ inLim j ∧ Q (.int (i * j)) h
  | .div, .int i, .int j, h, Q => 0 < j ∧ j ≤ lim ∧ Q (.int (i / j)) h
  | .mod, .int i, .int j, h, Q => 0 < j ∧ Q (.int (i % j)) h
  | .mul, .ref a, .int k, h, Q => (match h a with
    | some (.list xs) => 0 ≤ k ∧ k ≤ lim ∧ xs.length * k.toNat ≤ lim ∧ alloc (.list (List.replicate k.toNat xs).flatten) h Q
    | _ => False)
  | .add, .ref a, .ref b, h, Q => (match h a with
    | some (.list xs) => (match h b with
      | some (.list ys) => xs.length + ys.length ≤ lim ∧ alloc (.list (xs ++ ys)) h Q
      | _ => False)
    | _ => False)
  | _, _, _, _, _ => False

noncomputable def eqW (a b : V) (h : H) (Q : Bool → Prop) : Prop :=
  match a, b with
  | .int i, .int j => Q (decide (i = j))
  | _, _ => ∃ da db, Rd h a da ∧ Rd h b db ∧ da.depth ≤ 8 ∧ db.depth ≤ 8 ∧ Q (PyData.eqv da db)

noncomputable def isW (a b : V) (Q : Bool → Prop) : Prop :=
  match b with
  | .none => Q (decide (a = .none))
  | .bool c => Q (decide (a = .bool c))
  | .ty t => (match a with
    | .ty u => Q (decide (u = t))
    | _ => False)
  | _ => False

/-- whether a value is in a list -/
noncomputable def inW (a b : V) (h : H) (Q : Bool → Prop) : Prop :=
  ∃ da ds, Rd h a da ∧ Rd h b (.list ds) ∧ da.depth ≤ 8 ∧ PyData.depthAll ds ≤ 8 ∧ Q (ds.any fun y => PyData.eqv y da)

noncomputable def pairV (h : H) (v : V) : Option (Int × Int) := match v with
  | .ref b => (match h b with
    | some (.tup [.int i, .int j]) => some (i, j)
    | _ => Option.none)
  | _ => Option.none
/-- what a dict holds for a pair -/
noncomputable def lookK (kvs : List ((Int × Int) × Nat × Int)) (p : Int × Int) : Option Int := (kvs.find? fun e => decide (e.1 = p)).map (·.2.2)
noncomputable def putK (kvs : List ((Int × Int) × Nat × Int)) (p : Int × Int) (t : Nat) (x : Int) : List ((Int × Int) × Nat × Int) :=
  if (kvs.find? fun e => decide (e.1 = p)).isSome then kvs.map fun e => if e.1 = p then (e.1, e.2.1, x) else e else kvs ++ [(p, t, x)]
/-- the keys still stand -/
noncomputable def keysOk (h : H) (kvs : List ((Int × Int) × Nat × Int)) : Prop := ∀ e ∈ kvs, h e.2.1 = some (.tup [.int e.1.1, .int e.1.2])
/-- whether a pair is no key of a dict -/
noncomputable def notinW (a b : V) (h : H) (Q : Bool → Prop) : Prop := match b with
  | .ref r => (match h r with
    | some (.dict kvs) => r ≠ 1 ∧ (match pairV h a with
      | some p => keysOk h kvs ∧ Q (lookK kvs p).isNone
      | Option.none => False)
    | _ => False)
  | _ => False
noncomputable def cmpop : Cm → V → V → H → (V → H → Prop) → Prop
  | .lt, .int i, .int j, h, Q => Q (.bool (decide (i < j))) h
  | .le, .int i, .int j, h, Q => Q (.bool (decide (i ≤ j))) h
  | .gt, .int i, .int j, h, Q => Q (.bool (decide (j < i))) h
  | .ge, .int i, .int j, h, Q => Q (.bool (decide (j ≤ i))) h
  | .eq, a, b, h, Q => eqW a b h fun r => Q (.bool r) h
  | .ne, a, b, h, Q => eqW a b h fun r => Q (.bool (!r)) h
  | .is, a, b, h, Q => isW a b fun r => Q (.bool r) h
  | .isnt, a, b, h, Q => isW a b fun r => Q (.bool (!r)) h
  | .isin, a, b, h, Q => inW a b h fun r => Q (.bool r) h
  | .notin, a, b, h, Q => notinW a b h fun r => Q (.bool r) h
  | _, _, _, _, _ => False

noncomputable def negW (va : V) (h : H) (Q : V → H → Prop) : Prop :=
  match va with
  | .int i => Q (.int (-i)) h
  | _ => False

noncomputable def truth : V → (Bool → Prop) → Prop
  | .bool b, Q => Q b
  | _, _ => False

/-- the name of a value's type -/
noncomputable def typeN (v : V) (h : H) : Option String := match v with
  | .none => some "NoneType"
  | .bool _ => some "bool"
  | .int _ => some "int"
  | .ref a => (match h a with
    | some (.list _) => some "list"
    | some (.tup _) => some "tuple"
    | some (.dict _) => Option.none
    | Option.none => Option.none)
  | _ => Option.none

noncomputable def bfnW (G : Par) : Bf → List V → H → (V → H → Prop) → Prop
  | .len, [.scr], h, Q => Q (.int G.ns.length) h
  | .len, [.ref a], h, Q => (match h a with
    | some (.list xs) => Q (.int xs.length) h
    | some (.tup xs) => Q (.int xs.length) h
    | _ => False)
  | .list, [.ref a], h, Q => (match h a with
    | some (.list xs) => alloc (.list xs) h Q
    | _ => False)
  | .min, [.ref a], h, Q => (match h a with
    | some (.list xs) => (match intsOf xs with
      | some (i :: is) => Q (.int (minL (i :: is))) h
      | _ => False)
    | _ => False)
  | .min, [.int i, .int j], h, Q => Q (.int (min i j)) h
  | .min, [.int i, .int j, .int k], h, Q => Q (.int (min (min i j) k)) h
  | .max, [.int i, .int j], h, Q => Q (.int (max i j)) h
  | .sum, [.ref a], h, Q => (match h a with
    | some (.list xs) => (match intsOf xs with
      | some is => Q (.int is.sum) h
      | _ => False)
    | _ => False)
  | .type, [v], h, Q => (match typeN v h with
    | some t => Q (.ty t) h
    | Option.none => False)
  | _, _, _, _ => False

noncomputable def subW (G : Par) (a i : V) (h : H) (Q : V → H → Prop) : Prop :=
  match a, i with
  | .scr, .int k => (match getIdx (G.ns.map .int) k with
    | some v => Q v h
    | Option.none => False)
  | .ref r, .int k => (match h r with
    | some (.list xs) => (match getIdx xs k with
      | some v => Q v h
      | Option.none => False)
    | some (.tup xs) => (match getIdx xs k with
      | some v => Q v h
      | Option.none => False)
    | _ => False)
  | .ref r, .ref t => (match h r with
    | some (.dict kvs) => (match pairV h (.ref t) with
      | some p => keysOk h kvs ∧ (match lookK kvs p with
        | some x => Q (.int x) h
        | Option.none => False)
      | Option.none => False)
    | _ => False)
  | _, _ => False

/-- the list that a value is -/
noncomputable def ofL (va : V) (h : H) (K : List V → Prop) : Prop :=
  match va with
  | .ref r => (match h r with
    | some (.list xs) => K xs
    | _ => False)
  | _ => False
noncomputable def natI (v : V) (K : Nat → Prop) : Prop :=
  match v with
  | .int k => 0 ≤ k ∧ K k.toNat
  | _ => False

noncomputable def setSub (a i v : V) (h : H) (Q : H → Prop) : Prop :=
  match a, i with
  | .ref r, .ref t => (match h r with
    | some (.dict kvs) => (match pairV h (.ref t) with
      | some p => (match v with
        | .int x => keysOk h kvs ∧ kvs.length < lim ∧ Q (h.set r (.dict (putK kvs p t x)))
        | _ => False)
      | Option.none => False)
    | _ => False)
  | .ref r, .int k => (match h r with
    | some (.list xs) => 0 ≤ k ∧ k < xs.length ∧ Q (h.set r (.list (xs.set k.toNat v)))
    | _ => False)
  | _, _ => False

noncomputable def methW : Mt → V → List V → H → (V → H → Prop) → Prop
  | .append, .ref a, [v], h, Q => (match h a with
    | some (.list xs) => xs.length < lim ∧ Q .none (h.set a (.list (xs ++ [v])))
    | _ => False)
  | .reverse, .ref a, [], h, Q => (match h a with
    | some (.list xs) => Q .none (h.set a (.list xs.reverse))
    | _ => False)
  | .index, .ref a, [.int k], h, Q => (match h a with
    | some (.list xs) => (match intsOf xs with
      | some is => k ∈ is ∧ Q (.int (is.idxOf k : Nat)) h
      | _ => False)
    | _ => False)
  | _, _, _, _, _ => False

noncomputable def isL (va : V) (h : H) : Prop :=
  match va with
  | .ref a => (match h a with
    | some (.list _) => True
    | _ => False)
  | _ => False

/-- a comprehension's or a for's items, and the list that must stay as it is -/
noncomputable abbrev SrcK := List V → Option (Nat × List V) → H → Prop

noncomputable def stays (k : Option (Nat × List V)) (h : H) : Prop :=
  match k with
  | some (a, xs) => h a = some (.list xs)
  | Option.none => True

noncomputable def tgW (t : Tg) (v : V) (σ : Env) (h : H) (Q : Env → Prop) : Prop :=
  match t with
  | .name x => Q (upd σ x v)

/-- the turns of a comprehension -/
noncomputable def compW (turn : V → H → (Option V → H → Prop) → Prop) (k : Option (Nat × List V)) : List V → List V → H → (List V → H → Prop) → Prop
  | [], ys, h, Q => Q ys h
  | v :: r, ys, h, Q => stays k h ∧ turn v h fun w h' => match w with
      | some x => compW turn k r (ys ++ [x]) h' Q
      | Option.none => compW turn k r ys h' Q

inductive Flow where | next | ret (v : V)

noncomputable def forW (turn : V → Env → H → (Flow → Env → H → Prop) → Prop) (k : Option (Nat × List V)) : List V → Env → H → (Flow → Env → H → Prop) → Prop
  | [], σ, h, Q => stays k h ∧ Q .next σ h
  | v :: r, σ, h, Q => stays k h ∧ turn v σ h fun f σ' h' => match f with
      | .next => forW turn k r σ' h' Q
      | .ret w => Q (.ret w) σ' h'

noncomputable def whileW (test : Env → H → (Bool → H → Prop) → Prop) (turn : Env → H → (Flow → Env → H → Prop) → Prop) : Nat → Env → H → (Flow → Env → H → Prop) → Prop
  | 0, _, _, _ => False
  | n + 1, σ, h, Q => test σ h fun b h' => if b then turn σ h' fun f σ' h'' => (match f with
      | .next => whileW test turn n σ' h'' Q
      | .ret w => Q (.ret w) σ' h'') else Q .next σ h'

mutual
noncomputable def ev (G : Par) : PE → Env → H → (V → H → Prop) → Prop
  | .none, _, h, Q => Q .none h
  | .bool b, _, h, Q => Q (.bool b) h
  | .int i, _, h, Q => Q (.int i) h
  | .ty t, _, h, Q => Q (.ty t) h
  | .var x, σ, h, Q => (match σ x with
    | some v => Q v h
    | Option.none => False)
  | .bin op a b, σ, h, Q => ev G a σ h fun va h₁ => ev G b σ h₁ fun vb h₂ => binop op va vb h₂ Q
  | .neg a, σ, h, Q => ev G a σ h fun va h₁ => negW va h₁ Q
  | .not a, σ, h, Q => ev G a σ h fun va h₁ => truth va fun b => Q (.bool (!b)) h₁
  | .cmp op a b, σ, h, Q => ev G a σ h fun va h₁ => ev G b σ h₁ fun vb h₂ => cmpop op va vb h₂ Q
  | .band es, σ, h, Q => evAnd G es σ h Q
  | .bor es, σ, h, Q => evOr G es σ h Q
  | .ite c a b, σ, h, Q => cond G c σ h fun r h₁ => if r then ev G a σ h₁ Q else ev G b σ h₁ Q
  | .sub a i, σ, h, Q => ev G a σ h fun va h₁ => ev G i σ h₁ fun vi h₂ => subW G va vi h₂ Q
  | .take a e, σ, h, Q => ev G a σ h fun va h₁ => ev G e σ h₁ fun vi h₂ => ofL va h₂ fun xs => natI vi fun k => alloc (.list (xs.take k)) h₂ Q
  | .list es, σ, h, Q => evs G es σ h fun vs h₁ => alloc (.list vs) h₁ Q
  | .tup es, σ, h, Q => evs G es σ h fun vs h₁ => alloc (.tup vs) h₁ Q
  | .call f es, σ, h, Q => evs G es σ h fun vs h₁ => G.Γ f vs h₁ Q
  | .bfn f es, σ, h, Q => evs G es σ h fun vs h₁ => bfnW G f vs h₁ Q
  | .meth a m es, σ, h, Q => ev G a σ h fun va h₁ => isL va h₁ ∧ evs G es σ h₁ fun vs h₂ => methW m va vs h₂ Q
  | .comp elt t src ifs, σ, h, Q => evSrc G src σ h fun xs k h₁ =>
      compW (fun v h K => tgW t v σ h fun σ' => condAnd G ifs σ' h fun b h' => if b then ev G elt σ' h' fun w h'' => K (some w) h'' else K Option.none h') k xs [] h₁
        fun ys h₂ => stays k h₂ ∧ alloc (.list ys) h₂ Q
noncomputable def evs (G : Par) : PEs → Env → H → (List V → H → Prop) → Prop
  | .nil, _, h, Q => Q [] h
  | .cons e r, σ, h, Q => ev G e σ h fun v h₁ => evs G r σ h₁ fun vs h₂ => Q (v :: vs) h₂
noncomputable def evAnd (G : Par) : PEs → Env → H → (V → H → Prop) → Prop
  | .nil, _, _, _ => False
  | .cons e .nil, σ, h, Q => ev G e σ h Q
  | .cons e r, σ, h, Q => ev G e σ h fun v h₁ => truth v fun b => if b then evAnd G r σ h₁ Q else Q v h₁
noncomputable def evOr (G : Par) : PEs → Env → H → (V → H → Prop) → Prop
  | .nil, _, _, _ => False
  | .cons e .nil, σ, h, Q => ev G e σ h Q
  | .cons e r, σ, h, Q => ev G e σ h fun v h₁ => truth v fun b => if b then Q v h₁ else evOr G r σ h₁ Q
noncomputable def cond (G : Par) : PE → Env → H → (Bool → H → Prop) → Prop
  | .not a, σ, h, Q => cond G a σ h fun b h₁ => Q (!b) h₁
  | .band es, σ, h, Q => condAnd G es σ h Q
  | .bor es, σ, h, Q => condOr G es σ h Q
  | .cmp op a b, σ, h, Q => ev G a σ h fun va h₁ => ev G b σ h₁ fun vb h₂ => cmpop op va vb h₂ fun v h₃ => truth v fun r => Q r h₃
  | .ite c a b, σ, h, Q => cond G c σ h fun r h₁ => if r then cond G a σ h₁ Q else cond G b σ h₁ Q
  | .none, _, _, _ => False
  | .bool b, _, h, Q => Q b h
  | .int _, _, _, _ => False
  | .ty _, _, _, _ => False
  | .var x, σ, h, Q => (match σ x with
    | some v => truth v fun b => Q b h
    | Option.none => False)
  | .bin _ _ _, _, _, _ => False
  | .neg _, _, _, _ => False
  | .sub a i, σ, h, Q => ev G a σ h fun va h₁ => ev G i σ h₁ fun vi h₂ => subW G va vi h₂ fun v h₃ => truth v fun r => Q r h₃
  | .take _ _, _, _, _ => False
  | .list _, _, _, _ => False
  | .tup _, _, _, _ => False
  | .call f es, σ, h, Q => evs G es σ h fun vs h₁ => G.Γ f vs h₁ fun v h₂ => truth v fun r => Q r h₂
  | .bfn f es, σ, h, Q => evs G es σ h fun vs h₁ => bfnW G f vs h₁ fun v h₂ => truth v fun r => Q r h₂
  | .meth _ _ _, _, _, _ => False
  | .comp _ _ _ _, _, _, _ => False
noncomputable def condAnd (G : Par) : PEs → Env → H → (Bool → H → Prop) → Prop
  | .nil, _, h, Q => Q true h
  | .cons e r, σ, h, Q => cond G e σ h fun b h₁ => if b then condAnd G r σ h₁ Q else Q false h₁
noncomputable def condOr (G : Par) : PEs → Env → H → (Bool → H → Prop) → Prop
  | .nil, _, h, Q => Q false h
  | .cons e r, σ, h, Q => cond G e σ h fun b h₁ => if b then Q true h₁ else condOr G r σ h₁ Q
noncomputable def evSrc (G : Par) : Src → Env → H → SrcK → Prop
  | .up a, σ, h, K => ev G a σ h fun va h₁ => (match va with
    | .int n => inLim n ∧ K ((upTo 0 n).map .int) Option.none h₁
    | _ => False)
  | .fromTo a b, σ, h, K => ev G a σ h fun va h₁ => ev G b σ h₁ fun vb h₂ => (match va, vb with
    | .int m, .int n => inLim m ∧ inLim n ∧ K ((upTo m n).map .int) Option.none h₂
    | _, _ => False)
  | .seq e, σ, h, K => ev G e σ h fun va h₁ => (match va with
    | .ref a => (match h₁ a with
      | some (.list xs) => K xs (some (a, xs)) h₁
      | _ => False)
    | _ => False)
end

mutual
noncomputable def exec (G : Par) : PS → Env → H → (Flow → Env → H → Prop) → Prop
  | .assign (.tg t) e, σ, h, Q => ev G e σ h fun v h₁ => tgW t v σ h₁ fun σ' => Q .next σ' h₁
  | .assign (.sub a i) e, σ, h, Q => ev G e σ h fun v h₁ => ev G a σ h₁ fun va h₂ => ev G i σ h₂ fun vi h₃ => setSub va vi v h₃ fun h₄ => Q .next σ h₄
  | .expr e, σ, h, Q => ev G e σ h fun v h₁ => (match v with
    | .none => Q .next σ h₁
    | _ => False)
  | .ite c a b, σ, h, Q => cond G c σ h fun r h₁ => if r then execs G a σ h₁ Q else execs G b σ h₁ Q
  | .whl c b, σ, h, Q => ∃ n, whileW (fun σ h K => cond G c σ h K) (fun σ h K => execs G b σ h K) n σ h Q
  | .fr t src b, σ, h, Q => evSrc G src σ h fun xs k h₁ => forW (fun v σ h K => tgW t v σ h fun σ' => execs G b σ' h K) k xs σ h₁ Q
  | .ret e, σ, h, Q => ev G e σ h fun v h₁ => Q (.ret v) σ h₁
  | .stop, _, _, _ => False
noncomputable def execs (G : Par) : PSs → Env → H → (Flow → Env → H → Prop) → Prop
  | .nil, σ, h, Q => Q .next σ h
  | .cons s r, σ, h, Q => exec G s σ h fun f σ' h' => match f with
    | .next => execs G r σ' h' Q
    | .ret v => Q (.ret v) σ' h'
end

structure Fn where
  params : List String
  body : PSs

noncomputable def bindP : List String → List V → Env
  | x :: xs, v :: vs => upd (bindP xs vs) x v
  | _, _ => fun _ => Option.none

noncomputable def runFn (G : Par) (f : Fn) (vs : List V) (h : H) (Q : V → H → Prop) : Prop :=
  f.params.length = vs.length ∧ execs G f.body (bindP f.params vs) h fun fl _ h' => Q (match fl with | .ret v => v | .next => .none) h'

/-- the newest first: a def calls those beneath it -/
noncomputable def table (ns : List Int) (gc : String → Option V) : List (String × Fn) → String → List V → H → (V → H → Prop) → Prop
  | [], _, _, _, _ => False
  | (f, d) :: r, g, vs, h, Q => if g = f then runFn ⟨ns, gc, table ns gc r⟩ d vs h Q else table ns gc r g vs h Q

end MP

end
section
/-! The rules of the small language, one by one (printed by a program of mine). -/
namespace MP
theorem r_ev_none {G : Par} {σ : Env} {h : H} {Q : V → H → Prop} : ev G .none σ h Q = (Q .none h) := rfl
theorem r_ev_bool {G : Par} {σ : Env} {h : H} {Q : V → H → Prop} {b} : ev G (.bool b) σ h Q = (Q (.bool b) h) := rfl
theorem r_ev_int {G : Par} {σ : Env} {h : H} {Q : V → H → Prop} {i} : ev G (.int i) σ h Q = (Q (.int i) h) := rfl
theorem r_ev_ty {G : Par} {σ : Env} {h : H} {Q : V → H → Prop} {t} : ev G (.ty t) σ h Q = (Q (.ty t) h) := rfl
theorem r_ev_var {G : Par} {σ : Env} {h : H} {Q : V → H → Prop} {x} : ev G (.var x) σ h Q = ((match σ x with
    | some v => Q v h
    | Option.none => False)) := rfl
theorem r_ev_bin {G : Par} {σ : Env} {h : H} {Q : V → H → Prop} {op a b} : ev G (.bin op a b) σ h Q = (ev G a σ h fun va h₁ => ev G b σ h₁ fun vb h₂ => binop op va vb h₂ Q) := rfl
theorem r_ev_neg {G : Par} {σ : Env} {h : H} {Q : V → H → Prop} {a} : ev G (.neg a) σ h Q = (ev G a σ h fun va h₁ => negW va h₁ Q) := rfl
theorem r_ev_not {G : Par} {σ : Env} {h : H} {Q : V → H → Prop} {a} : ev G (.not a) σ h Q = (ev G a σ h fun va h₁ => truth va fun b => Q (.bool (!b)) h₁) := rfl
theorem r_ev_cmp {G : Par} {σ : Env} {h : H} {Q : V → H → Prop} {op a b} : ev G (.cmp op a b) σ h Q = (ev G a σ h fun va h₁ => ev G b σ h₁ fun vb h₂ => cmpop op va vb h₂ Q) := rfl
theorem r_ev_band {G : Par} {σ : Env} {h : H} {Q : V → H → Prop} {es} : ev G (.band es) σ h Q = (evAnd G es σ h Q) := rfl
theorem r_ev_bor {G : Par} {σ : Env} {h : H} {Q : V → H → Prop} {es} : ev G (.bor es) σ h Q = (evOr G es σ h Q) := rfl
theorem r_ev_ite {G : Par} {σ : Env} {h : H} {Q : V → H → Prop} {c a b} : ev G (.ite c a b) σ h Q = (cond G c σ h fun r h₁ => if r then ev G a σ h₁ Q else ev G b σ h₁ Q) := rfl
theorem r_ev_sub {G : Par} {σ : Env} {h : H} {Q : V → H → Prop} {a i} : ev G (.sub a i) σ h Q = (ev G a σ h fun va h₁ => ev G i σ h₁ fun vi h₂ => subW G va vi h₂ Q) := rfl
theorem r_ev_take {G : Par} {σ : Env} {h : H} {Q : V → H → Prop} {a e} : ev G (.take a e) σ h Q = (ev G a σ h fun va h₁ => ev G e σ h₁ fun vi h₂ => ofL va h₂ fun xs => natI vi fun k => alloc (.list (xs.take k)) h₂ Q) := rfl
theorem r_ev_list {G : Par} {σ : Env} {h : H} {Q : V → H → Prop} {es} : ev G (.list es) σ h Q = (evs G es σ h fun vs h₁ => alloc (.list vs) h₁ Q) := rfl
theorem r_ev_tup {G : Par} {σ : Env} {h : H} {Q : V → H → Prop} {es} : ev G (.tup es) σ h Q = (evs G es σ h fun vs h₁ => alloc (.tup vs) h₁ Q) := rfl
theorem r_ev_call {G : Par} {σ : Env} {h : H} {Q : V → H → Prop} {f es} : ev G (.call f es) σ h Q = (evs G es σ h fun vs h₁ => G.Γ f vs h₁ Q) := rfl
theorem r_ev_bfn {G : Par} {σ : Env} {h : H} {Q : V → H → Prop} {f es} : ev G (.bfn f es) σ h Q = (evs G es σ h fun vs h₁ => bfnW G f vs h₁ Q) := rfl
theorem r_ev_meth {G : Par} {σ : Env} {h : H} {Q : V → H → Prop} {a m es} : ev G (.meth a m es) σ h Q = (ev G a σ h fun va h₁ => isL va h₁ ∧ evs G es σ h₁ fun vs h₂ => methW m va vs h₂ Q) := rfl
theorem r_ev_comp {G : Par} {σ : Env} {h : H} {Q : V → H → Prop} {elt t src ifs} : ev G (.comp elt t src ifs) σ h Q = (evSrc G src σ h fun xs k h₁ =>
      compW (fun v h K => tgW t v σ h fun σ' => condAnd G ifs σ' h fun b h' => if b then ev G elt σ' h' fun w h'' => K (some w) h'' else K Option.none h') k xs [] h₁
        fun ys h₂ => stays k h₂ ∧ alloc (.list ys) h₂ Q) := rfl
theorem r_evs_nil {G : Par} {σ : Env} {h : H} {Q : List V → H → Prop} : evs G .nil σ h Q = (Q [] h) := rfl
theorem r_evs_cons {G : Par} {σ : Env} {h : H} {Q : List V → H → Prop} {e r} : evs G (.cons e r) σ h Q = (ev G e σ h fun v h₁ => evs G r σ h₁ fun vs h₂ => Q (v :: vs) h₂) := rfl
theorem r_cond_not {G : Par} {σ : Env} {h : H} {Q : Bool → H → Prop} {a} : cond G (.not a) σ h Q = (cond G a σ h fun b h₁ => Q (!b) h₁) := rfl
theorem r_cond_band {G : Par} {σ : Env} {h : H} {Q : Bool → H → Prop} {es} : cond G (.band es) σ h Q = (condAnd G es σ h Q) := rfl
theorem r_cond_bor {G : Par} {σ : Env} {h : H} {Q : Bool → H → Prop} {es} : cond G (.bor es) σ h Q = (condOr G es σ h Q) := rfl
theorem r_cond_cmp {G : Par} {σ : Env} {h : H} {Q : Bool → H → Prop} {op a b} : cond G (.cmp op a b) σ h Q = (ev G a σ h fun va h₁ => ev G b σ h₁ fun vb h₂ => cmpop op va vb h₂ fun v h₃ => truth v fun r => Q r h₃) := rfl
theorem r_cond_ite {G : Par} {σ : Env} {h : H} {Q : Bool → H → Prop} {c a b} : cond G (.ite c a b) σ h Q = (cond G c σ h fun r h₁ => if r then cond G a σ h₁ Q else cond G b σ h₁ Q) := rfl
theorem r_cond_none {G : Par} {σ : Env} {h : H} {Q : Bool → H → Prop} : cond G .none σ h Q = (False) := rfl
theorem r_cond_bool {G : Par} {σ : Env} {h : H} {Q : Bool → H → Prop} {b} : cond G (.bool b) σ h Q = (Q b h) := rfl
theorem r_cond_int {G : Par} {σ : Env} {h : H} {Q : Bool → H → Prop} {z1} : cond G (.int z1) σ h Q = (False) := rfl
theorem r_cond_ty {G : Par} {σ : Env} {h : H} {Q : Bool → H → Prop} {z1} : cond G (.ty z1) σ h Q = (False) := rfl
theorem r_cond_var {G : Par} {σ : Env} {h : H} {Q : Bool → H → Prop} {x} : cond G (.var x) σ h Q = ((match σ x with
    | some v => truth v fun b => Q b h
    | Option.none => False)) := rfl
theorem r_cond_bin {G : Par} {σ : Env} {h : H} {Q : Bool → H → Prop} {z1 z2 z3} : cond G (.bin z1 z2 z3) σ h Q = (False) := rfl
theorem r_cond_neg {G : Par} {σ : Env} {h : H} {Q : Bool → H → Prop} {z1} : cond G (.neg z1) σ h Q = (False) := rfl
theorem r_cond_sub {G : Par} {σ : Env} {h : H} {Q : Bool → H → Prop} {a i} : cond G (.sub a i) σ h Q = (ev G a σ h fun va h₁ => ev G i σ h₁ fun vi h₂ => subW G va vi h₂ fun v h₃ => truth v fun r => Q r h₃) := rfl
theorem r_cond_list {G : Par} {σ : Env} {h : H} {Q : Bool → H → Prop} {z1} : cond G (.list z1) σ h Q = (False) := rfl
theorem r_cond_tup {G : Par} {σ : Env} {h : H} {Q : Bool → H → Prop} {z1} : cond G (.tup z1) σ h Q = (False) := rfl
theorem r_cond_call {G : Par} {σ : Env} {h : H} {Q : Bool → H → Prop} {f es} : cond G (.call f es) σ h Q = (evs G es σ h fun vs h₁ => G.Γ f vs h₁ fun v h₂ => truth v fun r => Q r h₂) := rfl
theorem r_cond_bfn {G : Par} {σ : Env} {h : H} {Q : Bool → H → Prop} {f es} : cond G (.bfn f es) σ h Q = (evs G es σ h fun vs h₁ => bfnW G f vs h₁ fun v h₂ => truth v fun r => Q r h₂) := rfl
theorem r_cond_meth {G : Par} {σ : Env} {h : H} {Q : Bool → H → Prop} {z1 z2 z3} : cond G (.meth z1 z2 z3) σ h Q = (False) := rfl
theorem r_cond_comp {G : Par} {σ : Env} {h : H} {Q : Bool → H → Prop} {z1 z2 z3 z4} : cond G (.comp z1 z2 z3 z4) σ h Q = (False) := rfl
theorem r_condAnd_nil {G : Par} {σ : Env} {h : H} {Q : Bool → H → Prop} : condAnd G .nil σ h Q = (Q true h) := rfl
theorem r_condAnd_cons {G : Par} {σ : Env} {h : H} {Q : Bool → H → Prop} {e r} : condAnd G (.cons e r) σ h Q = (cond G e σ h fun b h₁ => if b then condAnd G r σ h₁ Q else Q false h₁) := rfl
theorem r_condOr_nil {G : Par} {σ : Env} {h : H} {Q : Bool → H → Prop} : condOr G .nil σ h Q = (Q false h) := rfl
theorem r_condOr_cons {G : Par} {σ : Env} {h : H} {Q : Bool → H → Prop} {e r} : condOr G (.cons e r) σ h Q = (cond G e σ h fun b h₁ => if b then Q true h₁ else condOr G r σ h₁ Q) := rfl
theorem r_evSrc_up {G : Par} {σ : Env} {h : H} {K : SrcK} {a} : evSrc G (.up a) σ h K = (ev G a σ h fun va h₁ => (match va with
    | .int n => inLim n ∧ K ((upTo 0 n).map .int) Option.none h₁
    | _ => False)) := rfl
theorem r_evSrc_fromTo {G : Par} {σ : Env} {h : H} {K : SrcK} {a b} : evSrc G (.fromTo a b) σ h K = (ev G a σ h fun va h₁ => ev G b σ h₁ fun vb h₂ => (match va, vb with
    | .int m, .int n => inLim m ∧ inLim n ∧ K ((upTo m n).map .int) Option.none h₂
    | _, _ => False)) := rfl
theorem r_evSrc_seq {G : Par} {σ : Env} {h : H} {K : SrcK} {e} : evSrc G (.seq e) σ h K = (ev G e σ h fun va h₁ => (match va with
    | .ref a => (match h₁ a with
      | some (.list xs) => K xs (some (a, xs)) h₁
      | _ => False)
    | _ => False)) := rfl
theorem r_exec_assign_tg {G : Par} {σ : Env} {h : H} {Q : Flow → Env → H → Prop} {t e} : exec G (.assign (.tg t) e) σ h Q = (ev G e σ h fun v h₁ => tgW t v σ h₁ fun σ' => Q .next σ' h₁) := rfl
theorem r_exec_assign_sub {G : Par} {σ : Env} {h : H} {Q : Flow → Env → H → Prop} {a i e} : exec G (.assign (.sub a i) e) σ h Q = (ev G e σ h fun v h₁ => ev G a σ h₁ fun va h₂ => ev G i σ h₂ fun vi h₃ => setSub va vi v h₃ fun h₄ => Q .next σ h₄) := rfl
theorem r_exec_expr {G : Par} {σ : Env} {h : H} {Q : Flow → Env → H → Prop} {e} : exec G (.expr e) σ h Q = (ev G e σ h fun v h₁ => (match v with
    | .none => Q .next σ h₁
    | _ => False)) := rfl
theorem r_exec_ite {G : Par} {σ : Env} {h : H} {Q : Flow → Env → H → Prop} {c a b} : exec G (.ite c a b) σ h Q = (cond G c σ h fun r h₁ => if r then execs G a σ h₁ Q else execs G b σ h₁ Q) := rfl
theorem r_exec_whl {G : Par} {σ : Env} {h : H} {Q : Flow → Env → H → Prop} {c b} : exec G (.whl c b) σ h Q = (∃ n, whileW (fun σ h K => cond G c σ h K) (fun σ h K => execs G b σ h K) n σ h Q) := rfl
theorem r_exec_fr {G : Par} {σ : Env} {h : H} {Q : Flow → Env → H → Prop} {t src b} : exec G (.fr t src b) σ h Q = (evSrc G src σ h fun xs k h₁ => forW (fun v σ h K => tgW t v σ h fun σ' => execs G b σ' h K) k xs σ h₁ Q) := rfl
theorem r_exec_ret {G : Par} {σ : Env} {h : H} {Q : Flow → Env → H → Prop} {e} : exec G (.ret e) σ h Q = (ev G e σ h fun v h₁ => Q (.ret v) σ h₁) := rfl
theorem r_execs_nil {G : Par} {σ : Env} {h : H} {Q : Flow → Env → H → Prop} : execs G .nil σ h Q = (Q .next σ h) := rfl
theorem r_execs_cons {G : Par} {σ : Env} {h : H} {Q : Flow → Env → H → Prop} {s r} : execs G (.cons s r) σ h Q = (exec G s σ h fun f σ' h' => match f with
    | .next => execs G r σ' h' Q
    | .ret v => Q (.ret v) σ' h') := rfl
end MP

end
section
/-! How the small language's state lies in the machine's. -/
namespace MP
open PySem PyProof.Rows

theorem map_toNat_inj : ∀ {a b : List Char}, a.map Char.toNat = b.map Char.toNat → a = b
  | [], [], _ => rfl
  | [], _ :: _, h => by simp at h
  | _ :: _, [], h => by simp at h
  | x :: a, y :: b, h => by
    simp only [List.map_cons, List.cons.injEq] at h
    have h1 : x = y := Char.ext (UInt32.toNat_inj.mp h.1)
    rw [h1, map_toNat_inj h.2]
theorem ofString_inj {a b : String} (h : Str.ofString a = Str.ofString b) : a = b := by
  rw [Str.ofString_eq_toList, Str.ofString_eq_toList] at h
  have h2 : (a.toList.map Char.toNat) = b.toList.map Char.toNat := by
    have := congrArg (fun x : Str => x.cps.toList) h
    simpa using this
  exact String.toList_inj.mp (map_toNat_inj h2)

/-- what stays the same throughout a call of the law -/
structure KK where
  scr : PySem.Addr
  os : OsState
  base : Heap
  mg : Str → Option Value
  mb : Str → Option Value
  ns : List Int
  gc : String → Option V
  fns : List String
  /-- the frames that stand, the newest first -/
  fl : List PySem.Env
  /-- the table of a code that may grow: the base has nothing there -/
  tab : Option PySem.Addr := none

inductive VR (K : KK) : V → Value → Prop
  | none : VR K .none .none
  | bool (b : Bool) : VR K (.bool b) (.bool b)
  | int (i : Int) (t : Tok) : VR K (.int i) (.int i t)
  | ref (a : Nat) : VR K (.ref a) (.ref a)
  | scr : VR K .scr (.ref K.scr)
  | ty (t : String) : VR K (.ty t) (.type t)

inductive VRs (K : KK) : List V → List Value → Prop
  | nil : VRs K [] []
  | cons {v : V} {r : Value} {vs : List V} {rs : List Value} : VR K v r → VRs K vs rs → VRs K (v :: vs) (r :: rs)

section
variable {K : KK}
theorem VRs.length {vs : List V} {rs : List Value} (h : VRs K vs rs) : vs.length = rs.length := by
  induction h with
  | nil => rfl
  | cons _ _ ih => simp [ih]
theorem VRs.append {vs ws : List V} {rs ts : List Value} (h : VRs K vs rs) (h' : VRs K ws ts) : VRs K (vs ++ ws) (rs ++ ts) := by
  induction h with
  | nil => exact h'
  | cons a _ ih => exact .cons a ih
theorem VRs.one {v : V} {r : Value} (h : VR K v r) : VRs K [v] [r] := .cons h .nil
theorem VRs.reverse {vs : List V} {rs : List Value} (h : VRs K vs rs) : VRs K vs.reverse rs.reverse := by
  induction h with
  | nil => exact .nil
  | cons a _ ih => simp only [List.reverse_cons]; exact ih.append (.one a)
theorem VRs.get {vs : List V} {rs : List Value} (h : VRs K vs rs) : ∀ {i : Nat} {v : V}, vs[i]? = some v → ∃ r, rs[i]? = some r ∧ VR K v r := by
  induction h with
  | nil => intro i v e; simp at e
  | cons a _ ih =>
    intro i v e
    cases i with
    | zero => simp at e; subst e; exact ⟨_, rfl, a⟩
    | succ i => simp at e; simpa using ih e
theorem VRs.get_none {vs : List V} {rs : List Value} (h : VRs K vs rs) {i : Nat} (e : vs[i]? = Option.none) : rs[i]? = Option.none := by
  rw [List.getElem?_eq_none_iff] at *; rw [← h.length]; exact e
theorem VRs.set {vs : List V} {rs : List Value} (h : VRs K vs rs) {v : V} {r : Value} (hv : VR K v r) : ∀ (i : Nat), VRs K (vs.set i v) (rs.set i r) := by
  induction h with
  | nil => intro i; simp; exact .nil
  | cons a b ih =>
    intro i
    cases i with
    | zero => simp; exact .cons hv b
    | succ i => simp; exact .cons a (ih i)
end

noncomputable def O.isMut : O → Bool
  | .dict _ => true
  | .list _ => true
  | .tup _ => false

noncomputable abbrev listOb (items : Array Value) (n : Nat) : Obj := { cls := .type "list", dict := none, data := .seq items n, slots := #[] }
noncomputable abbrev tupOb (items : Array Value) (n : Nat) : Obj := { cls := .type "tuple", dict := none, data := .seq items n, slots := #[] }

/-- an entry of a dict -/
noncomputable def ent (x : List Int × PySem.Addr × Value) : DictEntry := ⟨reduceHash (Builtin.Tuple.tupleHashOf (x.1.map hashInt)), .ref x.2.1, x.2.2⟩
noncomputable abbrev dictOb (es : Array DictEntry) (ep : Nat) : Obj := { cls := .type "dict", dict := none, data := .dict es ep, slots := #[] }
inductive XR : List ((Int × Int) × Nat × Int) → List (List Int × PySem.Addr × Value) → Prop
  | nil : XR [] []
  | cons {p : Int × Int} {a : Nat} {v : Int} {t : Tok} {kvs : List ((Int × Int) × Nat × Int)} {xs : List (List Int × PySem.Addr × Value)} : XR kvs xs → XR ((p, a, v) :: kvs) (([p.1, p.2], a, .int v t) :: xs)

inductive OR (K : KK) : O → Obj → Prop
  | dict {kvs : List ((Int × Int) × Nat × Int)} {xs : List (List Int × PySem.Addr × Value)} {es : Array DictEntry} {ep : Nat} : XR kvs xs → es.toList = xs.map ent → (xs.map (·.1)).Nodup → kvs.length ≤ lim → OR K (.dict kvs) (dictOb es ep)
  | list {xs : List V} {items : Array Value} {n : Nat} : VRs K xs items.toList → xs.length ≤ lim → OR K (.list xs) (listOb items n)
  | tup {xs : List V} {items : Array Value} {n : Nat} : VRs K xs items.toList → xs.length ≤ lim → OR K (.tup xs) (tupOb items n)

theorem OR.data {K : KK} {o : O} {ob : Obj} (h : OR K o ob) : (∃ items n, ob.data = .seq items n) ∨ ∃ es n, ob.data = .dict es n := by
  cases h
  · exact .inr ⟨_, _, rfl⟩
  · exact .inl ⟨_, _, rfl⟩
  · exact .inl ⟨_, _, rfl⟩
theorem OR.dataL {K : KK} {xs : List V} {ob : Obj} (h : OR K (.list xs) ob) : ∃ items n, ob.data = .seq items n := by
  cases h; exact ⟨_, _, rfl⟩

/-- no list or the like of ours lies there -/
noncomputable def NM (h : H) (a : Nat) : Prop := ∀ o, h a = some o → o.isMut = false

noncomputable abbrev Prt := PySem.Addr → Option Obj

noncomputable abbrev tabOb (ps : Array Value) : Obj := { cls := .none, data := .fields ps }
/-- a table of codes grows -/
noncomputable def Grows (o o' : Obj) : Prop := ∃ ps more, o = tabOb ps ∧ o' = tabOb (ps ++ more) ∧ (TriplesOk ps.toList → TriplesOk (ps ++ more).toList)
/-- the same, but for the slots of a namespace, or the table that may grow -/
noncomputable def Sim (T : Option PySem.Addr) (b : PySem.Addr) (o o' : Obj) : Prop := o' = o ∨ ((∃ es n, o.data = .dict es n) ∧ ∃ sl, o' = { o with slots := sl }) ∨ (T = some b ∧ Grows o o')
theorem Sim.refl {T : Option PySem.Addr} {x : PySem.Addr} (o : Obj) : Sim T x o o := .inl rfl
theorem Sim.trans {T : Option PySem.Addr} {z : PySem.Addr} {a b c : Obj} (x : Sim T z a b) (y : Sim T z b c) : Sim T z a c := by
  rcases x with rfl | ⟨⟨es, n, h1⟩, sl, rfl⟩ | ⟨hT, ps, m, rfl, rfl, t⟩
  · exact y
  · rcases y with rfl | ⟨_, sl', rfl⟩ | ⟨_, ps, m, h2, _⟩
    · exact .inr (.inl ⟨⟨es, n, h1⟩, sl, rfl⟩)
    · exact .inr (.inl ⟨⟨es, n, h1⟩, sl', rfl⟩)
    · have := congrArg Obj.data h2
      rw [show ({ a with slots := sl } : Obj).data = a.data from rfl, h1] at this; cases this
  · rcases y with rfl | ⟨⟨es, n, h1⟩, sl', rfl⟩ | ⟨_, ps', m', h2, rfl, t'⟩
    · exact .inr (.inr ⟨hT, ps, m, rfl, rfl, t⟩)
    · cases h1
    · have : ps' = ps ++ m := by injection h2 with _ _ h3; injection h3 with h4; exact h4.symm
      subst this
      exact .inr (.inr ⟨hT, ps, m ++ m', rfl, by rw [Array.append_assoc], fun q => by rw [← Array.append_assoc]; exact t' (t q)⟩)
theorem Sim.data {T : Option PySem.Addr} {z : PySem.Addr} {a b : Obj} (x : Sim T z a b) (hd : ∀ fs, a.data ≠ .fields fs) : b.data = a.data := by
  rcases x with rfl | ⟨_, _, rfl⟩ | ⟨_, ps, m, rfl, _⟩
  · rfl
  · rfl
  · exact absurd rfl (hd ps)
theorem Sim.eq {T : Option PySem.Addr} {z : PySem.Addr} {a b : Obj} (x : Sim T z a b) (h : ∀ es n, a.data ≠ .dict es n) (hT : T ≠ some z) : b = a := by
  rcases x with rfl | ⟨⟨es, n, h1⟩, _⟩ | ⟨q, _⟩
  · rfl
  · exact absurd h1 (h es n)
  · exact absurd q hT
noncomputable def TabOk (o : Obj) : Prop := ∃ ps, o = tabOb ps ∧ TriplesOk ps.toList
theorem Sim.tabOk {T : Option PySem.Addr} {z : PySem.Addr} {a b : Obj} (x : Sim T z a b) (h : TabOk a) : TabOk b := by
  obtain ⟨ps, rfl, t⟩ := h
  rcases x with rfl | ⟨⟨es, n, h1⟩, _⟩ | ⟨_, ps', m, h2, rfl, t'⟩
  · exact ⟨ps, rfl, t⟩
  · cases h1
  · have : ps' = ps := by injection h2 with _ _ h3; injection h3 with h4; exact h4.symm
    subst this
    exact ⟨_, rfl, t' t⟩
/-- what must be guarded -/
noncomputable def Sub (K : KK) (P : Prt) : Prop := (∀ b o, K.base.get? b = some o → P b = some o) ∧ ∀ t, K.tab = some t → ∃ o, P t = some o ∧ TabOk o
/-- a frame's namespace stands -/
noncomputable def FrAt (base h : Heap) (e : PySem.Env) : Prop := e.scope.kind = .function ∧ ∃ L m, e.frame = some L ∧ base.get? L = none ∧ h.Ns L m

theorem Sub.ne {K : KK} {P : Prt} (S : Sub K P) {I : Nat} (hP : P I = none) : K.tab ≠ some I := fun e => by
  obtain ⟨o, h1, _⟩ := S.2 I e
  rw [hP] at h1; cases h1
structure Rel (K : KK) (P : Prt) (h : H) (s : Shared) : Prop where
  sub : Sub K P
  base : ∀ b o, K.base.get? b = some o → s.heap.get? b = some o
  keep : ∀ b o, P b = some o → ∃ o', s.heap.get? b = some o' ∧ Sim K.tab b o o'
  frs : ∀ e ∈ K.fl, FrAt K.base s.heap e
  frm : ∀ e ∈ K.fl, ∀ L, e.frame = some L → NM h L
  objs : ∀ a o, h a = some o → ∃ ob, s.heap.get? a = some ob ∧ OR K o ob ∧ (o.isMut = true → P a = none)
  os : s.os = K.os
  gens : AllBare s.gens

noncomputable def isCF (k : Option NameKind) : Prop := k = some .cell ∨ k = some .free

structure FR (K : KK) (P : Prt) (own : Str → Bool) (env : PySem.Env) (σ : Env) (h : H) (s : Shared) : Prop where
  kind : env.scope.kind = .function
  glb : env.globals = mainGlobals
  bui : env.builtins = builtinsNs
  loc : ∃ m, s.heap.Ns env.locals m ∧ ∀ (x : String) v, x ≠ ".0" → σ x = some v → env.kindOf (Str.ofString x) = some .local → ∃ rv, m (Str.ofString x) = some rv ∧ VR K v rv
  locP : P env.locals = none
  locM : NM h env.locals
  cells : ∀ n, isCF (env.kindOf n) → ∃ c ov, env.cells.lookup n = some c ∧ s.heap.IsCell c ov ∧ (∀ (x : String) v, n = Str.ofString x → σ x = some v → ∃ rv, ov = some rv ∧ VR K v rv) ∧ (own n = true → P c = none)
  apart : ∀ n n' c, isCF (env.kindOf n) → isCF (env.kindOf n') → env.cells.lookup n = some c → env.cells.lookup n' = some c → n = n'

structure St (K : KK) (P : Prt) (own : Str → Bool) (env : PySem.Env) (σ : Env) (h : H) (s : Shared) : Prop where
  rel : Rel K P h s
  fr : FR K P own env σ h s

/-- nothing old is changed -/
structure Grown (s s' : Shared) : Prop where
  heap : ∀ b o, s.heap.get? b = some o → s'.heap.get? b = some o
  os : s'.os = s.os
  gens : s'.gens = s.gens

theorem Grown.refl (s : Shared) : Grown s s := ⟨fun _ _ e => e, rfl, rfl⟩
theorem Grown.trans {a b c : Shared} (x : Grown a b) (y : Grown b c) : Grown a c := ⟨fun _ _ e => y.heap _ _ (x.heap _ _ e), y.os.trans x.os, y.gens.trans x.gens⟩
theorem Grown.tok (s : Shared) (t : Nat) : Grown s { s with toks := t } := ⟨fun _ _ e => e, rfl, rfl⟩
theorem Grown.push (s : Shared) (o : Obj) (t : Nat) : Grown s { s with heap := s.heap.push o, toks := t } := ⟨fun _ _ e => Heap.get?_push_of_some o e, rfl, rfl⟩
theorem Grown.push' (s : Shared) (o : Obj) : Grown s { s with heap := s.heap.push o } := ⟨fun _ _ e => Heap.get?_push_of_some o e, rfl, rfl⟩
theorem Grown.of {s : Shared} {h' : Heap} {t : Nat} (x : ∀ b o, s.heap.get? b = some o → h'.get? b = some o) : Grown s { s with heap := h', toks := t } := ⟨x, rfl, rfl⟩
theorem Grown.of' {s : Shared} {h' : Heap} (x : ∀ b o, s.heap.get? b = some o → h'.get? b = some o) : Grown s { s with heap := h' } := ⟨x, rfl, rfl⟩

section
variable {K : KK} {P : Prt} {own : Str → Bool} {env : PySem.Env} {σ : Env} {h : H} {s s' : Shared}

theorem FrAt.keeps {base h h' : Heap} {e : PySem.Env} (F : FrAt base h e) (k : ∀ b o, h.get? b = some o → h'.get? b = some o) : FrAt base h' e := by
  obtain ⟨h1, L, m, h2, h3, h4⟩ := F
  exact ⟨h1, L, m, h2, h3, h4.keeps k⟩
/-- all stays but I, and I is no namespace, or stays one -/
theorem FrAt.but {base h h' : Heap} {e : PySem.Env} (F : FrAt base h e) {I : Nat} (k : ∀ b o, b ≠ I → h.get? b = some o → h'.get? b = some o) (hI : ∀ m, h.Ns I m → ∃ m', h'.Ns I m') : FrAt base h' e := by
  obtain ⟨h1, L, m, h2, h3, h4⟩ := F
  by_cases q : L = I
  · subst q
    obtain ⟨m', h5⟩ := hI m h4
    exact ⟨h1, L, m', h2, h3, h5⟩
  · obtain ⟨o, es, ep, h5, h6⟩ := h4
    exact ⟨h1, L, m, h2, h3, o, es, ep, k _ _ q h5, h6⟩
theorem ns_not {h : Heap} {I : Nat} {ob : Obj} {m : Str → Option Value} (hI : h.get? I = some ob) (hd : ∀ es n, ob.data ≠ .dict es n) (hn : h.Ns I m) {p : Prop} : p := by
  obtain ⟨o, es, ep, h1, h2, _⟩ := hn
  rw [hI] at h1; cases h1; exact absurd h2 (hd _ _)

theorem Rel.grow (R : Rel K P h s) (g : Grown s s') : Rel K P h s' :=
  ⟨R.sub, fun b o e => g.heap _ _ (R.base b o e), fun b o e => let ⟨o', h1, h2⟩ := R.keep b o e; ⟨o', g.heap _ _ h1, h2⟩, fun e he => (R.frs e he).keeps g.heap, R.frm, fun a o e => let ⟨ob, h1, h2⟩ := R.objs a o e; ⟨ob, g.heap _ _ h1, h2⟩, g.os.trans R.os, g.gens ▸ R.gens⟩
theorem FR.grow (F : FR K P own env σ h s) (g : Grown s s') : FR K P own env σ h s' :=
  ⟨F.kind, F.glb, F.bui, let ⟨m, h1, h2⟩ := F.loc; ⟨m, h1.keeps g.heap, h2⟩, F.locP, F.locM, fun n hn => let ⟨c, ov, h1, h2, h3⟩ := F.cells n hn; ⟨c, ov, h1, h2.keeps g.heap, h3⟩, F.apart⟩
theorem St.grow (X : St K P own env σ h s) (g : Grown s s') : St K P own env σ h s' := ⟨X.rel.grow g, X.fr.grow g⟩

theorem Rel.none_of (R : Rel K P h s) {a : Nat} (e : s.heap.get? a = none) : h a = Option.none := by
  cases q : h a with
  | none => rfl
  | some o => obtain ⟨ob, h1, _⟩ := R.objs a o q; rw [e] at h1; cases h1
theorem Rel.p_none_of (R : Rel K P h s) {a : Nat} (e : s.heap.get? a = none) : P a = none := by
  cases q : P a with
  | none => rfl
  | some o => obtain ⟨o', h1, _⟩ := R.keep a o q; rw [h1] at e; cases e
theorem Rel.fr_ne (R : Rel K P h s) {L : Nat} (hL : s.heap.get? L = none) : ∀ e ∈ K.fl, e.frame ≠ some L := fun e he q => by
  obtain ⟨_, L', m, h2, _, o, _, _, h5, _⟩ := R.frs e he
  rw [q] at h2; cases h2; rw [hL] at h5; cases h5
theorem fresh_none (hp : Heap) : hp.get? hp.objs.size = none := by
  cases q : hp.get? hp.objs.size with
  | none => rfl
  | some o => exact absurd (Heap.lt_size q) (Nat.lt_irrefl _)

theorem nm_set {h : H} {a L : Nat} {o : O} (hm : NM h L) (hne : L ≠ a) : NM (h.set a o) L := fun o' e => by
  unfold H.set at e; rw [if_neg hne] at e; exact hm o' e
/-- a new object -/
theorem St.add (X : St K P own env σ h s) {a : Nat} {o : O} {ob : Obj} (g : Grown s s') (ha : s.heap.get? a = none) (hb : s'.heap.get? a = some ob) (ho : OR K o ob) :
    h a = Option.none ∧ St K P own env σ (h.set a o) s' := by
  have hn := X.rel.none_of ha
  have Y := X.grow g
  refine ⟨hn, ⟨Y.rel.sub, Y.rel.base, Y.rel.keep, Y.rel.frs, fun e he L hL => nm_set (X.rel.frm e he L hL) (fun q => X.rel.fr_ne ha e he (q ▸ hL)), fun b o' e => ?_, Y.rel.os, Y.rel.gens⟩, ⟨Y.fr.kind, Y.fr.glb, Y.fr.bui, Y.fr.loc, Y.fr.locP, fun o' e => ?_, Y.fr.cells, Y.fr.apart⟩⟩
  · unfold H.set at e
    split at e
    · rename_i q; subst q; cases e; exact ⟨ob, hb, ho, fun _ => X.rel.p_none_of ha⟩
    · exact Y.rel.objs b o' e
  · unfold H.set at e
    split at e
    · rename_i q
      obtain ⟨m, hm, _⟩ := X.fr.loc
      obtain ⟨o1, _, _, h1, _⟩ := hm
      rw [q] at h1; rw [ha] at h1; cases h1
    · exact Y.fr.locM o' e

theorem St.addPush (X : St K P own env σ h s) {o : O} {ob : Obj} (ho : OR K o ob) (hf : ob.isFreed = false := by rfl) {t : Nat} :
    h s.heap.objs.size = Option.none ∧ St K P own env σ (h.set s.heap.objs.size o) { s with heap := s.heap.push ob, toks := t } :=
  X.add (Grown.push s ob t) (fresh_none _) (Heap.get?_push_size _ hf) ho

/-- what is neither ours nor guarded nor the frame's may change -/
theorem St.junk (X : St K P own env σ h s) {I : Nat} {ob : Obj} (hI : s.heap.get? I = some ob) (hd : ∃ fs, ob.data = .fields fs) (hP : P I = none)
    (hk : ∀ b o, b ≠ I → s.heap.get? b = some o → s'.heap.get? b = some o) (hos : s'.os = s.os) (hg : s'.gens = s.gens) : St K P own env σ h s' := by
  obtain ⟨fs, hd⟩ := hd
  have hB : ∀ b o, P b = some o → b ≠ I := fun b o e q => by rw [q, hP] at e; cases e
  refine ⟨⟨X.rel.sub, fun b o e => hk b o (hB b o (X.rel.sub.1 b o e)) (X.rel.base b o e), fun b o e => let ⟨o', h1, h2⟩ := X.rel.keep b o e; ⟨o', hk b o' (hB b o e) h1, h2⟩, fun e he => (X.rel.frs e he).but hk fun m hn => ns_not hI (by rw [hd]; intros; simp) hn, X.rel.frm, fun a o e => ?_, hos.trans X.rel.os, hg ▸ X.rel.gens⟩,
    ⟨X.fr.kind, X.fr.glb, X.fr.bui, ?_, X.fr.locP, X.fr.locM, fun n hn => ?_, X.fr.apart⟩⟩
  · obtain ⟨ob', h1, h2, h3⟩ := X.rel.objs a o e
    refine ⟨ob', hk _ _ (fun q => ?_) h1, h2, h3⟩
    rw [q, hI] at h1; cases h1
    rcases h2.data with ⟨_, _, hq⟩ | ⟨_, _, hq⟩ <;> (rw [hd] at hq; cases hq)
  · obtain ⟨m, hm, hv⟩ := X.fr.loc
    refine ⟨m, ?_, hv⟩
    obtain ⟨o, es, ep, h1, h2, h3⟩ := hm
    refine ⟨o, es, ep, hk _ _ (fun q => ?_) h1, h2, h3⟩
    rw [q, hI] at h1; cases h1; rw [hd] at h2; cases h2
  · obtain ⟨c, ov, h1, h2, h3⟩ := X.fr.cells n hn
    refine ⟨c, ov, h1, ?_, h3⟩
    obtain ⟨o, h4, h5⟩ := h2
    refine ⟨o, hk _ _ (fun q => ?_) h4, h5⟩
    rw [q, hI] at h4; cases h4; rw [hd] at h5; cases h5

/-- a list of ours changes -/
theorem St.setList (X : St K P own env σ h s) {a : Nat} {xs : List V} {o : O} {ob : Obj} (ha : h a = some (.list xs)) (hm : o.isMut = true)
    (hk : ∀ b, b ≠ a → s'.heap.get? b = s.heap.get? b) (hb : s'.heap.get? a = some ob) (ho : OR K o ob) (hos : s'.os = s.os) (hg : s'.gens = s.gens) : St K P own env σ (h.set a o) s' := by
  obtain ⟨oa, g1, g2, g3⟩ := X.rel.objs a _ ha
  obtain ⟨its, nn, gd⟩ := g2.dataL
  have gP := g3 rfl
  have hB : ∀ b o, P b = some o → b ≠ a := fun b o e q => by rw [q, gP] at e; cases e
  refine ⟨⟨X.rel.sub, fun b o e => (hk b (hB b o (X.rel.sub.1 b o e))).trans (X.rel.base b o e), fun b o e => let ⟨o', h1, h2⟩ := X.rel.keep b o e; ⟨o', (hk b (hB b o e)).trans h1, h2⟩, fun e he => (X.rel.frs e he).but (fun b o q e => (hk b q).trans e) fun m hn => ns_not g1 (by rw [gd]; intros; simp) hn, fun e he L hL => nm_set (X.rel.frm e he L hL) (fun q => by have := X.rel.frm e he L hL _ (q ▸ ha); cases this), fun b o' e => ?_, hos.trans X.rel.os, hg ▸ X.rel.gens⟩,
    ⟨X.fr.kind, X.fr.glb, X.fr.bui, ?_, X.fr.locP, fun o' e => ?_, fun n hn => ?_, X.fr.apart⟩⟩
  · unfold H.set at e
    split at e
    · rename_i q; subst q; cases e; exact ⟨ob, hb, ho, fun _ => gP⟩
    · rename_i q
      obtain ⟨ob', h1, h2⟩ := X.rel.objs b o' e
      exact ⟨ob', (hk b q).trans h1, h2⟩
  · obtain ⟨m, hm', hv⟩ := X.fr.loc
    refine ⟨m, ?_, hv⟩
    obtain ⟨o1, es, ep, h1, h2, h3⟩ := hm'
    refine ⟨o1, es, ep, (hk _ (fun q => ?_)).trans h1, h2, h3⟩
    rw [q, g1] at h1; cases h1; rw [gd] at h2; cases h2
  · unfold H.set at e
    split at e
    · rename_i q
      obtain ⟨m, hm', _⟩ := X.fr.loc
      obtain ⟨o1, es, ep, h1, h2, _⟩ := hm'
      rw [q, g1] at h1; cases h1; rw [gd] at h2; cases h2
    · exact X.fr.locM o' e
  · obtain ⟨c, ov, h1, h2, h3⟩ := X.fr.cells n hn
    refine ⟨c, ov, h1, ?_, h3⟩
    obtain ⟨o1, h4, h5⟩ := h2
    refine ⟨o1, (hk _ (fun q => ?_)).trans h4, h5⟩
    rw [q, g1] at h4; cases h4; rw [gd] at h5; cases h5

/-- guard one more object -/
noncomputable def Prt.put (P : Prt) (I : Nat) (ob : Obj) : Prt := fun b => if b = I then some ob else P b

theorem Sub.put {K : KK} {P : Prt} (S : Sub K P) {I : Nat} {ob : Obj} (hP : P I = none) : Sub K (P.put I ob) :=
  ⟨fun b o e => by
    have := S.1 b o e
    unfold Prt.put; split
    · rename_i q; rw [q, hP] at this; cases this
    · exact this, fun t ht => by
    obtain ⟨o, h1, h2⟩ := S.2 t ht
    unfold Prt.put; split
    · rename_i q; rw [q, hP] at h1; cases h1
    · exact ⟨o, h1, h2⟩⟩
theorem St.guard (X : St K P own env σ h s) {I : Nat} {ob : Obj} (hI : s.heap.get? I = some ob) (hM : NM h I) (hL : env.locals ≠ I)
    (hC : ∀ n c, isCF (env.kindOf n) → own n = true → env.cells.lookup n = some c → c ≠ I) (hB : ∀ o, K.base.get? I = some o → o = ob) : St K (P.put I ob) own env σ h s := by
  refine ⟨⟨⟨fun b o e => ?_, fun t ht => ?_⟩, X.rel.base, fun b o e => ?_, X.rel.frs, X.rel.frm, fun a o e => ?_, X.rel.os, X.rel.gens⟩, ⟨X.fr.kind, X.fr.glb, X.fr.bui, X.fr.loc, ?_, X.fr.locM, fun n hn => ?_, X.fr.apart⟩⟩
  · unfold Prt.put; split
    · rename_i q; subst q; rw [hB o e]
    · exact X.rel.sub.1 b o e
  · obtain ⟨o, h1, h2⟩ := X.rel.sub.2 t ht
    unfold Prt.put; split
    · rename_i q; subst q
      obtain ⟨o', h3, h4⟩ := X.rel.keep _ _ h1
      rw [hI] at h3; cases h3
      exact ⟨_, rfl, h4.tabOk h2⟩
    · exact ⟨o, h1, h2⟩
  · unfold Prt.put at e; split at e
    · rename_i q; subst q; cases e; exact ⟨_, hI, .refl _⟩
    · exact X.rel.keep b o e
  · obtain ⟨ob', h1, h2, h3⟩ := X.rel.objs a o e
    refine ⟨ob', h1, h2, fun hm => ?_⟩
    unfold Prt.put; split
    · rename_i q; subst q; rw [hM o e] at hm; cases hm
    · exact h3 hm
  · unfold Prt.put; rw [if_neg hL]; exact X.fr.locP
  · obtain ⟨c, ov, h1, h2, h3, h4⟩ := X.fr.cells n hn
    refine ⟨c, ov, h1, h2, h3, fun ho => ?_⟩
    unfold Prt.put; rw [if_neg (hC n c hn ho h1)]; exact h4 ho

theorem St.unguard (X : St K (P.put I ob) own env σ h s) (hs : Sub K P) (hP : P I = none) (hd : ∀ es n, ob.data ≠ .dict es n) : St K P own env σ h s ∧ s.heap.get? I = some ob ∧ NM h I := by
  have up : ∀ b o, P b = some o → P.put I ob b = some o := fun b o e => by
    unfold Prt.put; split
    · rename_i q; rw [q, hP] at e; cases e
    · exact e
  have dn : ∀ b, P.put I ob b = none → P b = none := fun b e => by
    unfold Prt.put at e; split at e
    · cases e
    · exact e
  refine ⟨⟨⟨hs, X.rel.base, fun b o e => X.rel.keep b o (up b o e), X.rel.frs, X.rel.frm, fun a o e => ?_, X.rel.os, X.rel.gens⟩, ⟨X.fr.kind, X.fr.glb, X.fr.bui, X.fr.loc, dn _ X.fr.locP, X.fr.locM, fun n hn => ?_, X.fr.apart⟩⟩, (by obtain ⟨o', h1, h2⟩ := X.rel.keep I ob (by simp [Prt.put]); rw [h2.eq hd (hs.ne hP)] at h1; exact h1), fun o e => ?_⟩
  · obtain ⟨ob', h1, h2, h3⟩ := X.rel.objs a o e
    exact ⟨ob', h1, h2, fun hm => dn _ (h3 hm)⟩
  · obtain ⟨c, ov, h1, h2, h3, h4⟩ := X.fr.cells n hn
    exact ⟨c, ov, h1, h2, h3, fun ho => dn _ (h4 ho)⟩
  · obtain ⟨ob', h1, h2, h3⟩ := X.rel.objs I o e
    cases q : o.isMut with
    | false => rfl
    | true => have := h3 q; simp [Prt.put] at this
end

/-- the same tables, other frames -/
noncomputable abbrev KK.at (K : KK) (l : List PySem.Env) : KK := { K with fl := l }
section
variable {K : KK} {l l' : List PySem.Env}
theorem VR.at {v : V} {r : Value} (x : VR (K.at l) v r) (l') : VR (K.at l') v r := by
  cases x
  · exact .none
  · exact .bool _
  · exact .int _ _
  · exact .ref _
  · exact .scr (K := K.at l')
  · exact .ty _
theorem VRs.at {vs : List V} {rs : List Value} (x : VRs (K.at l) vs rs) (l') : VRs (K.at l') vs rs := by
  induction x with
  | nil => exact .nil
  | cons a _ ih => exact .cons (a.at l') ih
theorem OR.at {o : O} {ob : Obj} (x : OR (K.at l) o ob) (l') : OR (K.at l') o ob := by
  cases x with
  | list h hl => exact .list (h.at l') hl
  | tup h hl => exact .tup (h.at l') hl
  | dict a b c d => exact .dict a b c d
theorem Rel.at {P : Prt} {h : H} {s : Shared} (R : Rel (K.at l) P h s) (l') (hf : ∀ e ∈ l', FrAt K.base s.heap e) (hm : ∀ e ∈ l', ∀ L, e.frame = some L → NM h L) : Rel (K.at l') P h s :=
  ⟨R.sub, R.base, R.keep, hf, hm, fun a o e => let ⟨ob, h1, h2, h3⟩ := R.objs a o e; ⟨ob, h1, h2.at l', h3⟩, R.os, R.gens⟩
end
end MP

end
section
/-! The small language's plain operations are the machine's. -/
namespace MP
open PySem PyProof.Rows

noncomputable def opOf : Op → Operator
  | .add => .Add | .sub => .Sub | .mul => .Mult | .div => .FloorDiv | .mod => .Mod
noncomputable def cmOf : Cm → CmpOp
  | .lt => .Lt | .le => .LtE | .gt => .Gt | .ge => .GtE | .eq => .Eq | .ne => .NotEq | .is => .Is | .isnt => .IsNot | .isin => .In | .notin => .NotIn

structure Rm (A : Around) (k : Nat) : Prop where
  hd : A.handled = none
  dp : A.depth + k < recursionLimit
  un : A.units + 4 * k + 100 < cLine

noncomputable abbrev EP (K : KK) (P : Prt) (own : Str → Bool) (env : PySem.Env) (σ : Env) (Q : V → H → Prop) : Value → Shared → Prop :=
  fun r s' => ∃ v h', VR K v r ∧ St K P own env σ h' s' ∧ Q v h'
noncomputable abbrev BP (K : KK) (P : Prt) (own : Str → Bool) (env : PySem.Env) (σ : Env) (Q : Bool → H → Prop) : Bool → Shared → Prop :=
  fun b s' => ∃ h', St K P own env σ h' s' ∧ Q b h'

section
variable {K : KK} {P : Prt} {h : H} {s : Shared}
mutual
theorem reads_of (R : Rel K P h s) : ∀ {v : V} {d : PyData}, Rd h v d → ∀ {r : Value}, VR K v r → ∃ as, Reads s.heap r d as
  | _, _, .none, _, hv => by cases hv; exact ⟨_, .none⟩
  | _, _, .bool b, _, hv => by cases hv; exact ⟨_, .bool b⟩
  | _, _, .int i, _, hv => by cases hv; exact ⟨_, .int i _⟩
  | _, _, .list ha hr, _, hv => by
    cases hv
    obtain ⟨ob, h1, h2, _⟩ := R.objs _ _ ha
    cases h2 with
    | list hx _ =>
      obtain ⟨as, h3⟩ := reads_all_of R hr hx
      exact ⟨_, .list h1 rfl rfl h3⟩
  | _, _, .tup ha hr, _, hv => by
    cases hv
    obtain ⟨ob, h1, h2, _⟩ := R.objs _ _ ha
    cases h2 with
    | tup hx _ =>
      obtain ⟨as, h3⟩ := reads_all_of R hr hx
      exact ⟨_, .tuple h1 rfl rfl h3⟩
theorem reads_all_of (R : Rel K P h s) : ∀ {vs : List V} {ds : List PyData}, RdAll h vs ds → ∀ {rs : List Value}, VRs K vs rs → ∃ as, ReadsAll s.heap rs ds as
  | _, _, .nil, _, hv => by cases hv; exact ⟨_, .nil⟩
  | _, _, .cons h1 h2, _, hv => by
    cases hv with
    | cons a b =>
      obtain ⟨as, h3⟩ := reads_of R h1 a
      obtain ⟨bs, h4⟩ := reads_all_of R h2 b
      exact ⟨_, .cons h3 h4⟩
end
mutual
theorem rd_canLay : ∀ {v : V} {d : PyData}, Rd h v d → d.canLay0 = true
  | _, _, .none => rfl
  | _, _, .bool _ => rfl
  | _, _, .int _ => rfl
  | _, _, .list _ hr => rdAll_canLay hr
  | _, _, .tup _ hr => rdAll_canLay hr
theorem rdAll_canLay : ∀ {vs : List V} {ds : List PyData}, RdAll h vs ds → PyData.canLayAll0 ds = true
  | _, _, .nil => rfl
  | _, _, .cons h1 h2 => by unfold PyData.canLayAll0; rw [rd_canLay h1, rdAll_canLay h2]; rfl
end
theorem rd_shaped {v : V} {d : PyData} (hr : Rd h v d) (hd : d.depth ≤ 8) : SeqAt.shaped d = true := by
  unfold SeqAt.shaped; rw [rd_canLay hr, decide_eq_true (show d.depth ≤ 64 by (first | lia | omega))]; rfl
end

theorem log2_small {k : Int} (h : inLim k) : Builtin.Int.intBits k ≤ 64 := intBits_le_64 (by unfold inLim at h; (first | lia | omega)) (by unfold inLim at h; (first | lia | omega))

section
variable {prog : Program} {w : World} {A : Around} {E : Value → Shared → Prop} {k : Nat}
variable {K : KK} {P : Prt} {own : Str → Bool} {env : PySem.Env} {σ : Env} {h : H} {s : Shared}

theorem snd_neg {va : V} {ra : Value} {Q : V → H → Prop} (X : St K P own env σ h s) (ha : VR K va ra) (hq : negW va h Q) :
    wpAny (model prog w) A (unaryOp .USub ra) (EP K P own env σ Q) E s := by
  cases ha <;> (try exact hq.elim)
  exact neg_int ⟨_, _, .int _ _, X.grow (.tok s _), hq⟩

theorem snd_truth {va : V} {ra : Value} {Q : Bool → H → Prop} (X : St K P own env σ h s) (ha : VR K va ra) (hq : truth va fun b => Q b h) :
    wpAny (model prog w) A (truthy ra) (BP K P own env σ Q) E s := by
  cases ha <;> (try exact hq.elim)
  exact wpAny_truthy_bool ⟨_, X, hq⟩

theorem snd_eq {va vb : V} {ra rb : Value} {Q : Bool → Prop} (X : St K P own env σ h s) (hu : A.units + 64 < cLine) (ha : VR K va ra) (hb : VR K vb rb) (hq : eqW va vb h Q) :
    wpAny (model prog w) A (compareOp .Eq ra rb) (fun r s' => ∃ b, r = .bool b ∧ s' = s ∧ Q b) E s := by
  have gen : (∃ da db, Rd h va da ∧ Rd h vb db ∧ da.depth ≤ 8 ∧ db.depth ≤ 8 ∧ Q (PyData.eqv da db)) → wpAny (model prog w) A (compareOp .Eq ra rb) (fun r s' => ∃ b, r = .bool b ∧ s' = s ∧ Q b) E s := by
    rintro ⟨da, db, h1, h2, h3, h4, h5⟩
    obtain ⟨as, r1⟩ := reads_of X.rel h1 ha
    obtain ⟨bs, r2⟩ := reads_of X.rel h2 hb
    exact SeqAt.compareEq_shaped r1 r2 (rd_shaped h1 h3) (rd_shaped h2 h4) hu ⟨_, rfl, rfl, h5⟩
  cases ha with
  | int i t =>
    cases hb with
    | int j u => exact eq_int ⟨_, rfl, rfl, by rw [show (i == j) = decide (i = j) from rfl]; exact hq⟩
    | _ => exact gen hq
  | _ => exact gen hq

theorem snd_ne {va vb : V} {ra rb : Value} {Q : Bool → Prop} (X : St K P own env σ h s) (hu : A.units + 64 < cLine) (ha : VR K va ra) (hb : VR K vb rb) (hq : eqW va vb h Q) :
    wpAny (model prog w) A (compareOp .NotEq ra rb) (fun r s' => ∃ b, r = .bool (!b) ∧ s' = s ∧ Q b) E s := by
  have gen : (∃ da db, Rd h va da ∧ Rd h vb db ∧ da.depth ≤ 8 ∧ db.depth ≤ 8 ∧ Q (PyData.eqv da db)) → wpAny (model prog w) A (compareOp .NotEq ra rb) (fun r s' => ∃ b, r = .bool (!b) ∧ s' = s ∧ Q b) E s := by
    rintro ⟨da, db, h1, h2, h3, h4, h5⟩
    obtain ⟨as, r1⟩ := reads_of X.rel h1 ha
    obtain ⟨bs, r2⟩ := reads_of X.rel h2 hb
    exact SeqAt.compareNe_shaped r1 r2 (rd_shaped h1 h3) (rd_shaped h2 h4) hu ⟨_, rfl, rfl, h5⟩
  cases ha with
  | int i t =>
    cases hb with
    | int j u => exact ne_int ⟨decide (i = j), rfl, rfl, hq⟩
    | _ => exact gen hq
  | _ => exact gen hq

theorem snd_in {va vb : V} {ra rb : Value} {Q : Bool → Prop} (X : St K P own env σ h s) (hu : A.units + 64 < cLine) (ha : VR K va ra) (hb : VR K vb rb) (hq : inW va vb h Q) :
    wpAny (model prog w) A (compareOp .In ra rb) (fun r s' => ∃ b, r = .bool b ∧ s' = s ∧ Q b) E s := by
  obtain ⟨da, ds, h1, h2, h3, h4, h5⟩ := hq
  obtain ⟨as, r1⟩ := reads_of X.rel h1 ha
  obtain ⟨bs, r2⟩ := reads_of X.rel h2 hb
  have hc : PyData.canLayAll0 ds = true := rd_canLay h2
  exact SeqAt.in_list_reads r2 r1 hc (rd_canLay h1) (by have := Nat.min_le_left (PyData.depthAll ds) da.depth; (first | lia | omega)) ⟨_, rfl, rfl, h5⟩
theorem vr_none {va : V} {ra : Value} (ha : VR K va ra) : (ra == Value.none) = decide (va = .none) := by cases ha <;> rfl

theorem vr_bool {va : V} {ra : Value} {c : Bool} (ha : VR K va ra) : (ra == Value.bool c) = decide (va = .bool c) := by
  cases ha <;> (try rfl)
  rename_i b; cases b <;> cases c <;> rfl
theorem beq_ty (t u : String) : (Value.type t == Value.type u) = decide (t = u) := by
  by_cases q : t = u
  · subst q; simp
  · simp [q]
theorem is_boolG {va : V} {v : Value} {c : Bool} {Q : Value → Shared → Prop} (ha : VR K va v) (h : Q (.bool (v == .bool c)) s) : wpAny (model prog w) A (compareOp .Is v (.bool c)) Q E s := by
  cases ha <;> exact wpAny_pure h
theorem isnot_boolG {va : V} {v : Value} {c : Bool} {Q : Value → Shared → Prop} (ha : VR K va v) (h : Q (.bool (!(v == .bool c))) s) : wpAny (model prog w) A (compareOp .IsNot v (.bool c)) Q E s := by
  cases ha <;> exact wpAny_pure h
theorem is_tyG {t u : String} {Q : Value → Shared → Prop} (h : Q (.bool (Value.type t == .type u)) s) : wpAny (model prog w) A (compareOp .Is (.type t) (.type u)) Q E s := wpAny_pure h
theorem isnot_tyG {t u : String} {Q : Value → Shared → Prop} (h : Q (.bool (!(Value.type t == .type u))) s) : wpAny (model prog w) A (compareOp .IsNot (.type t) (.type u)) Q E s := wpAny_pure h

end
end MP

end
section
/-! Lists, tuples, the built-in functions. -/
namespace MP
open PySem PyProof.Rows

section
variable {K : KK}
theorem ints_vrs : ∀ {xs : List V} {is : List Int} {rs : List Value}, intsOf xs = some is → VRs K xs rs → IntsAre rs is
  | [], is, rs, e, h => by cases h; cases e; exact .nil
  | .int i :: r, is, rs, e, h => by
    cases h with
    | cons a b =>
      cases a
      simp only [intsOf] at e
      cases q : intsOf r with
      | none => rw [q] at e; cases e
      | some js => rw [q] at e; cases e; exact .cons _ _ (ints_vrs q b)
  | .none :: _, _, _, e, _ => nomatch e
  | .bool _ :: _, _, _, e, _ => nomatch e
  | .ref _ :: _, _, _, e, _ => nomatch e
  | .scr :: _, _, _, e, _ => nomatch e
  | .ty _ :: _, _, _, e, _ => nomatch e
end

theorem foldl_min_le : ∀ (l : List Int) (a : Int), l.foldl min a ≤ a ∧ (∀ x ∈ l, l.foldl min a ≤ x) ∧ (l.foldl min a = a ∨ l.foldl min a ∈ l)
  | [], a => ⟨Int.le_refl _, fun _ h => (nomatch h), Or.inl rfl⟩
  | b :: r, a => by
    obtain ⟨h1, h2, h3⟩ := foldl_min_le r (min a b)
    simp only [List.foldl_cons]
    refine ⟨by (first | lia | omega), fun x hx => ?_, ?_⟩
    · rcases List.mem_cons.mp hx with rfl | hx
      · (first | lia | omega)
      · exact h2 x hx
    · rcases h3 with h3 | h3
      · rw [h3]
        by_cases q : a ≤ b
        · left; (first | lia | omega)
        · right; rw [show min a b = b by (first | lia | omega)]; exact List.mem_cons_self
      · right; exact List.mem_cons_of_mem _ h3
theorem minL_spec {l : List Int} (hne : l ≠ []) : minL l ∈ l ∧ ∀ x ∈ l, minL l ≤ x := by
  cases l with
  | nil => exact absurd rfl hne
  | cons a r =>
    obtain ⟨h1, h2, h3⟩ := foldl_min_le r a
    refine ⟨?_, fun x hx => ?_⟩
    · rcases h3 with h3 | h3
      · show r.foldl min a ∈ _; rw [h3]; exact List.mem_cons_self
      · exact List.mem_cons_of_mem _ h3
    · rcases List.mem_cons.mp hx with rfl | hx
      · exact h1
      · exact h2 x hx
theorem minL_unique {l : List Int} {m : Int} (h1 : m ∈ l) (h2 : ∀ x ∈ l, m ≤ x) : m = minL l := by
  have h3 := minL_spec (l := l) (fun e => by rw [e] at h1; cases h1)
  have h4 := h2 _ h3.1
  have h5 := h3.2 _ h1
  (first | lia | omega)

noncomputable def bfVal : Bf → Value
  | .len => .builtin "len" | .list => .type "list" | .min => .builtin "min" | .max => .builtin "max" | .sum => .builtin "sum" | .type => .type "type"
noncomputable def bfName : Bf → String
  | .len => "len" | .list => "list" | .min => "min" | .max => "max" | .sum => "sum" | .type => "type"
noncomputable def tyNames : List String := ["int", "bool", "list", "tuple"]
noncomputable def mtName : Mt → String
  | .append => "append" | .reverse => "reverse" | .index => "index"

/-- what is known of the machine ahead of the law's call -/
structure KOk (K : KK) : Prop where
  noLim : K.base.NoLimit
  nsG : K.base.Ns mainGlobals K.mg
  nsB : K.base.Ns builtinsNs K.mb
  bf : ∀ f, K.mg (Str.ofString (bfName f)) = none ∧ K.mb (Str.ofString (bfName f)) = some (bfVal f)
  rng : K.mg (Str.ofString "range") = none ∧ K.mb (Str.ofString "range") = some (.type "range")
  ty : ∀ t ∈ tyNames, K.mg (Str.ofString t) = none ∧ K.mb (Str.ofString t) = some (.type t)
  scr : ∃ items, K.base.IsList K.scr items ∧ VRs K (K.ns.map .int) items.toList
  scrL : K.ns.length ≤ lim
  fn : ∀ f, K.fns.contains f = true → ∃ a o fd, K.mg (Str.ofString f) = some (.ref a) ∧ K.base.get? a = some o ∧ o.data = .func fd
  gc : ∀ x v, K.gc x = some v → ∃ rv, K.mg (Str.ofString x) = some rv ∧ VR K v rv

theorem sizeLine_lim {n : Nat} (h : n ≤ lim) : n ≤ sizeLine := by rw [sizeLine_eq]; unfold lim at h; (first | lia | omega)

section
variable {prog : Program} {w : World} {A : Around} {E : Value → Shared → Prop} {k : Nat}
variable {K : KK} {P : Prt} {own : Str → Bool} {env : PySem.Env} {σ : Env} {h : H} {s : Shared}

theorem Rel.list (R : Rel K P h s) {a : Nat} {xs : List V} (e : h a = some (.list xs)) : ∃ items n, s.heap.get? a = some (listOb items n) ∧ VRs K xs items.toList ∧ xs.length ≤ lim := by
  obtain ⟨ob, h1, h2, _⟩ := R.objs _ _ e
  cases h2 with
  | list hx hl => exact ⟨_, _, h1, hx, hl⟩
theorem Rel.tup (R : Rel K P h s) {a : Nat} {xs : List V} (e : h a = some (.tup xs)) : ∃ items n, s.heap.get? a = some (tupOb items n) ∧ VRs K xs items.toList ∧ xs.length ≤ lim := by
  obtain ⟨ob, h1, h2, _⟩ := R.objs _ _ e
  cases h2 with
  | tup hx hl => exact ⟨_, _, h1, hx, hl⟩

theorem getIdx_some {xs : List V} {i : Int} {v : V} (e : getIdx xs i = some v) : 0 ≤ i ∧ xs[i.toNat]? = some v := by
  unfold getIdx at e
  split at e
  · exact ⟨by assumption, e⟩
  · cases e
theorem get?_lt {α : Type} {xs : List α} {i : Nat} {v : α} (e : xs[i]? = some v) : i < xs.length := by
  rw [List.getElem?_eq_some_iff] at e; exact e.1

theorem getItem_listV {l : Nat} {items : Array Value} {xs : List V} {i : Int} {t : Tok} {v : V} {Q : Value → Shared → Prop} (hl : s.heap.IsList l items) (hx : VRs K xs items.toList) (hlen : xs.length ≤ lim)
    (e : getIdx xs i = some v) (hq : ∀ r, VR K v r → Q r s) : wpAny (model prog w) A (getItem (.ref l) (.int i t)) Q E s := by
  obtain ⟨h0, e1⟩ := getIdx_some e
  obtain ⟨r, h1, h2⟩ := hx.get e1
  have h3 := get?_lt e1
  exact wpAny_getItem_list hl h0 (by unfold lim at hlen; (first | lia | omega)) (by rw [← Array.getElem?_toList]; exact h1) (hq r h2)

theorem setItem_exact {l : Nat} {items : Array Value} {n : Nat} {i : Int} {t : Tok} {v : Value} {Q : Unit → Shared → Prop} (ho : s.heap.get? l = some (listOb items n))
    (h0 : 0 ≤ i) (hn : i < items.size) (hz : items.size ≤ lim)
    (hQ : ∀ h' n', h'.get? l = some (listOb (items.setIfInBounds i.toNat v) n') → (∀ b, b ≠ l → h'.get? b = s.heap.get? b) → Q () { s with heap := h' }) :
    wpAny (model prog w) A (setItem (.ref l) (.int i t) v) Q E s := by
  have hl : s.heap.IsList l items := ⟨_, ho, rfl, _, rfl⟩
  unfold setItem
  try with_reducible refine wpAny_holding ?_
  first | refine wpAny_bind (wpAny_pure ?_) | skip
  refine wpAny_bind (wpAny_sequenceKey hl.typeIs (by decide) ?_)
  refine wpAny_bind (wpAny_callSpecial?_slot (name := Str.ofString "__setitem__") hl.typeIs slot_list_setitem
    (wpAny_call_entry slot_list_setitem hl.typeIs entry_list_setitem ?_ (args_list_setitem _ _ _)))
  show wpAny _ _ (Builtin.List.listSubscript? (.int i t) >>= _) _ _ s
  refine wpAny_bind (wpAny_listSubscript_int (fitsIndex_of h0 (by unfold lim at hz; (first | lia | omega))) ?_)
  obtain ⟨j, rfl⟩ := Int.eq_ofNat_of_zero_le h0
  have hj : j < items.size := by (first | lia | omega)
  have hx' : items[j]? = some items[j] := Array.getElem?_eq_getElem hj
  show wpAny _ _ ((seqItemAt l j >>= fun r => pure (r.map (j, ·))) >>= _) _ _ s
  refine wpAny_bind (wpAny_bind (wpAny_seqItemAt ho rfl (wpAny_pure ?_)))
  rw [hx']
  show wpAny _ _ (setSeqItemAt l j v >>= _) _ _ s
  have hfin := hQ (s.heap.update l (Obj.mapSeq (·.setIfInBounds j v))) _ (Heap.get?_update_self _ ho rfl) (fun b hb => Heap.get?_update_ne _ _ _ _ hb)
  refine wpAny_bind (wpAny_setSeqItemAt ho rfl ?_)
  first
    | exact wpAny_bind (wpAny_pure (wpAny_pure ⟨.none, rfl, wpAny_pure hfin⟩))
    | exact wpAny_pure ⟨.none, rfl, wpAny_pure hfin⟩

theorem XR.mem : ∀ {kvs : List ((Int × Int) × Nat × Int)} {xs : List (List Int × PySem.Addr × Value)}, XR kvs xs → ∀ x ∈ xs, ∃ e ∈ kvs, x.1 = [e.1.1, e.1.2] ∧ x.2.1 = e.2.1
  | _, _, .nil, x, hx => by cases hx
  | _, _, .cons r, x, hx => by
    rcases List.mem_cons.mp hx with rfl | hx
    · exact ⟨_, List.mem_cons_self, rfl, rfl⟩
    · obtain ⟨e, h1, h2⟩ := r.mem x hx
      exact ⟨e, List.mem_cons_of_mem _ h1, h2⟩
theorem key_iff {p q : Int × Int} : ([q.1, q.2] = [p.1, p.2]) ↔ q = p := by
  constructor
  · intro h; cases p; cases q; simpa using h
  · rintro rfl; rfl
theorem XR.look : ∀ {kvs : List ((Int × Int) × Nat × Int)} {xs : List (List Int × PySem.Addr × Value)}, XR kvs xs → ∀ p : Int × Int,
    (match kvs.find? (fun e => decide (e.1 = p)) with | some e => ∃ t, xs.find? (fun x => decide (x.1 = [p.1, p.2])) = some ([p.1, p.2], e.2.1, .int e.2.2 t) | Option.none => xs.find? (fun x => decide (x.1 = [p.1, p.2])) = none)
  | _, _, .nil, p => rfl
  | _, _, .cons (p := q) r, p => by
    by_cases c : q = p
    · subst c
      simp only [List.find?_cons, decide_true]
      exact ⟨_, rfl⟩
    · have c' : ¬ ([q.1, q.2] = [p.1, p.2]) := fun e => c (key_iff.mp e)
      simp only [List.find?_cons, decide_eq_false c, decide_eq_false c']
      exact r.look p
theorem XR.map {p : Int × Int} {x : Int} {t : Tok} : ∀ {kvs : List ((Int × Int) × Nat × Int)} {xs : List (List Int × PySem.Addr × Value)}, XR kvs xs → XR (kvs.map fun e => if e.1 = p then (e.1, e.2.1, x) else e) (xs.map (putAt [p.1, p.2] (.int x t)))
  | _, _, .nil => .nil
  | _, _, .cons (p := q) r => by
    simp only [List.map_cons]
    by_cases c : q = p
    · subst c
      rw [if_pos rfl]
      unfold putAt
      rw [if_pos rfl]
      exact .cons r.map
    · rw [if_neg c]
      unfold putAt
      rw [if_neg fun e => c (key_iff.mp e)]
      exact .cons r.map
theorem XR.snoc {p : Int × Int} {a : Nat} {x : Int} {t : Tok} : ∀ {kvs : List ((Int × Int) × Nat × Int)} {xs : List (List Int × PySem.Addr × Value)}, XR kvs xs → XR (kvs ++ [(p, a, x)]) (xs ++ [([p.1, p.2], a, .int x t)])
  | _, _, .nil => .cons .nil
  | _, _, .cons r => .cons r.snoc
theorem XR.stored {kvs : List ((Int × Int) × Nat × Int)} {xs : List (List Int × PySem.Addr × Value)} (r : XR kvs xs) (p : Int × Int) (a : Nat) (x : Int) (t : Tok) : XR (putK kvs p a x) (storedH xs [p.1, p.2] a (.int x t)) := by
  have hl := r.look p
  unfold putK storedH atKey
  cases q : kvs.find? (fun e => decide (e.1 = p)) with
  | none =>
    rw [q] at hl
    dsimp only at hl
    rw [hl]
    exact r.snoc
  | some e =>
    rw [q] at hl
    obtain ⟨t', hl⟩ := hl
    rw [hl]
    exact r.map
theorem XR.len : ∀ {kvs : List ((Int × Int) × Nat × Int)} {xs : List (List Int × PySem.Addr × Value)}, XR kvs xs → xs.length = kvs.length
  | _, _, .nil => rfl
  | _, _, .cons r => by simp [r.len]
theorem putK_len (kvs : List ((Int × Int) × Nat × Int)) (p : Int × Int) (a : Nat) (x : Int) : (putK kvs p a x).length ≤ kvs.length + 1 := by
  unfold putK; split <;> simp
theorem pair_is {a : Nat} {i j : Int} (R : Rel K P h s) (e : h a = some (.tup [.int i, .int j])) : IsTupleKey (intKind prog w) s.heap [i, j] a := by
  obtain ⟨items, n, h1, h2, _⟩ := R.tup e
  refine ⟨_, items, n, h1, rfl, rfl, ?_⟩
  generalize items.toList = l at h2
  cases h2 with
  | cons a1 a2 =>
    cases a1
    cases a2 with
    | cons b1 b2 =>
      cases b1; cases b2
      exact .cons (by simp [intKind, Value.isInt]) (.cons (by simp [intKind, Value.isInt]) .nil)
theorem dict_of {d : Nat} {kvs : List ((Int × Int) × Nat × Int)} (R : Rel K P h s) (e : h d = some (.dict kvs)) (hk : keysOk h kvs) : ∃ xs, s.heap.DictOfH (tupleKind (intKind prog w)) d xs ∧ XR kvs xs ∧ kvs.length ≤ lim := by
  obtain ⟨ob, h1, h2, _⟩ := R.objs _ _ e
  cases h2 with
  | dict hx he hn hl =>
    rename_i xs es ep
    refine ⟨xs, ⟨_, es, ep, h1, ⟨rfl, rfl, rfl⟩, rfl, he, fun x hm => ?_, hn⟩, hx, hl⟩
    obtain ⟨e', h3, h4, h5⟩ := hx.mem x hm
    show IsTupleKey _ _ x.1 x.2.1
    rw [h4, h5]
    exact pair_is R (hk e' h3)
/-- a dict of ours changes -/
theorem St.setDict {s' : Shared} (X : St K P own env σ h s) {a : Nat} {kvs : List ((Int × Int) × Nat × Int)} {o : O} {ob : Obj} (ha : h a = some (.dict kvs)) (hm : o.isMut = true)
    (hk : ∀ b, b ≠ a → s'.heap.get? b = s.heap.get? b) (hb : s'.heap.get? a = some ob) (ho : OR K o ob) (hos : s'.os = s.os) (hg : s'.gens = s.gens) : St K P own env σ (h.set a o) s' := by
  obtain ⟨oa, g1, g2, g3⟩ := X.rel.objs a _ ha
  have gd : ∃ es ep, oa.data = .dict es ep := by cases g2; exact ⟨_, _, rfl⟩
  obtain ⟨es0, ep0, gd⟩ := gd
  have gP := g3 rfl
  have hB : ∀ b o, P b = some o → b ≠ a := fun b o e q => by rw [q, gP] at e; cases e
  have hF : ∀ e ∈ K.fl, ∀ L, e.frame = some L → L ≠ a := fun e he L hL q => by have := X.rel.frm e he L hL _ (q ▸ ha); cases this
  have hLa : env.locals ≠ a := fun q => by have := X.fr.locM _ (q ▸ ha); cases this
  refine ⟨⟨X.rel.sub, fun b o e => (hk b (hB b o (X.rel.sub.1 b o e))).trans (X.rel.base b o e), fun b o e => let ⟨o', h1, h2⟩ := X.rel.keep b o e; ⟨o', (hk b (hB b o e)).trans h1, h2⟩, fun e he => ?_, fun e he L hL => nm_set (X.rel.frm e he L hL) (hF e he L hL), fun b o' e => ?_, hos.trans X.rel.os, hg ▸ X.rel.gens⟩,
    ⟨X.fr.kind, X.fr.glb, X.fr.bui, ?_, X.fr.locP, nm_set X.fr.locM hLa, fun n hn => ?_, X.fr.apart⟩⟩
  · obtain ⟨k1, L, m, k2, k3, o1, es, ep, k4, k5⟩ := X.rel.frs e he
    exact ⟨k1, L, m, k2, k3, o1, es, ep, (hk _ (hF e he L k2)).trans k4, k5⟩
  · unfold H.set at e
    split at e
    · rename_i q; subst q; cases e; exact ⟨ob, hb, ho, fun _ => gP⟩
    · rename_i q
      obtain ⟨ob', h1, h2⟩ := X.rel.objs b o' e
      exact ⟨ob', (hk b q).trans h1, h2⟩
  · obtain ⟨m, hm', hv⟩ := X.fr.loc
    obtain ⟨o1, es, ep, h1, h2⟩ := hm'
    exact ⟨m, ⟨o1, es, ep, (hk _ hLa).trans h1, h2⟩, hv⟩
  · obtain ⟨c, ov, h1, h2, h3⟩ := X.fr.cells n hn
    refine ⟨c, ov, h1, ?_, h3⟩
    obtain ⟨o1, h4, h5⟩ := h2
    refine ⟨o1, (hk _ (fun q => ?_)).trans h4, h5⟩
    rw [q, g1] at h4; cases h4; rw [gd] at h5; cases h5
theorem dictOb_of {h' : Heap} {d : Nat} {xs : List (List Int × PySem.Addr × Value)} (hm : h'.DictOfH (tupleKind (intKind prog w)) d xs) : ∃ es ep, h'.get? d = some (dictOb es ep) ∧ es.toList = xs.map ent ∧ (xs.map (·.1)).Nodup := by
  obtain ⟨o, es, ep, h1, h2, h3, h4, _, h6⟩ := hm
  obtain ⟨c, d', dt, sl⟩ := o
  obtain ⟨rfl, rfl, rfl⟩ := h2
  dsimp only at h3
  subst h3
  exact ⟨es, ep, h1, h4, h6⟩

theorem snd_setSub {va vi v : V} {ra ri r : Value} {Q : H → Prop} (X : St K P own env σ h s) (hu : A.units + 1 < cLine) (ha : VR K va ra) (hi : VR K vi ri) (hv : VR K v r) (hq : setSub va vi v h Q) :
    wpAny (model prog w) A (setItem ra ri r) (fun _ s' => ∃ h', St K P own env σ h' s' ∧ Q h') E s := by
  cases ha with
  | ref a =>
    cases hi with
    | int i t =>
      simp only [setSub] at hq
      cases q : h a with
      | none => simp only [q] at hq
      | some o =>
        cases o with
        | dict kvs => simp only [q] at hq
        | list xs =>
          simp only [q] at hq
          obtain ⟨items, n, h1, h2, h3⟩ := X.rel.list q
          have h7 : items.size = xs.length := by rw [← Array.length_toList, h2.length]
          refine setItem_exact h1 hq.1 (by rw [h7]; exact hq.2.1) (by rw [h7]; exact h3) fun h' n' g1 g2 => ?_
          refine ⟨_, X.setList q rfl g2 g1 (.list ?_ ?_) rfl rfl, hq.2.2⟩
          · rw [Array.toList_setIfInBounds]; exact h2.set hv _
          · simpa using h3
        | tup xs => simp only [q] at hq
    | ref t =>
      simp only [setSub] at hq
      cases q : h a with
      | none => simp only [q] at hq
      | some o =>
        cases o with
        | list xs => simp only [q] at hq
        | tup xs => simp only [q] at hq
        | dict kvs =>
          simp only [q] at hq
          cases q2 : pairV h (.ref t) with
          | none => simp only [q2] at hq
          | some p =>
            simp only [q2] at hq
            cases hv <;> (try exact hq.elim)
            rename_i x tx
            obtain ⟨hk, hl, hq⟩ := hq
            obtain ⟨xs, g1, g2, g3⟩ := dict_of (prog := prog) (w := w) X.rel q hk
            have hb : h t = some (.tup [.int p.1, .int p.2]) := by
              unfold pairV at q2
              dsimp only at q2
              split at q2
              · rename_i i j hb; cases q2; exact hb
              · cases q2
            have hkey : (tupleKind (intKind prog w)).is s.heap [p.1, p.2] t := pair_is X.rel hb
            refine wpAny_setItem_heap (knd := tupleKind (intKind prog w)) (k := [p.1, p.2]) (xs := xs) hu hkey g1 (fun h' hm hs => ?_) (by rw [g2.len]; exact sizeLine_lim (by (first | lia | omega)))
            obtain ⟨es, ep, m1, m2, m3⟩ := dictOb_of hm
            have X' := X.setDict (s' := { s with heap := h', toks := s.toks + (tupleKind (intKind prog w)).draws [p.1, p.2] }) q (o := .dict (putK kvs p t x)) rfl (fun b hb => hs.2 b hb) m1 (.dict (g2.stored p t x tx) m2 m3 (by have := putK_len kvs p t x; (first | lia | omega))) rfl rfl
            exact ⟨_, X', hq⟩
    | _ => exact hq.elim
  | _ => exact hq.elim

theorem append_exact {l : Nat} {items : Array Value} {n : Nat} {x : Value} {Q : Value → Shared → Prop} (ho : s.heap.get? l = some (listOb items n)) (hsz : items.size ≤ sizeLine)
    (hQ : ∀ h' n', h'.get? l = some (listOb (items.push x) n') → (∀ b, b ≠ l → h'.get? b = s.heap.get? b) → Q .none { s with heap := h' }) :
    wpAny (model prog w) A (call (.builtin "list.append") [.ref l, x]) Q E s := by
  have hl : s.heap.IsList l items := ⟨_, ho, rfl, _, rfl⟩
  refine wpAny_call_entry slot_list_append hl.typeIs entry_list_append ?_ (args_list_append _ _)
  show wpAny _ _ (updateSeq l (·.push x) >>= fun _ => ret .none) _ _ s
  refine wpAny_bind ?_
  refine wpAny_updateSeq ho rfl (wpAny_pure ⟨.none, rfl, hQ _ _ (Heap.get?_update_self _ ho rfl) (fun b hb => Heap.get?_update_ne _ _ _ _ hb)⟩)

theorem reverse_exact {l : Nat} {items : Array Value} {n : Nat} {Q : Value → Shared → Prop} (ho : s.heap.get? l = some (listOb items n)) (hsz : items.size ≤ sizeLine)
    (hQ : ∀ h' n', h'.get? l = some (listOb items.reverse n') → (∀ b, b ≠ l → h'.get? b = s.heap.get? b) → Q .none { s with heap := h' }) :
    wpAny (model prog w) A (call (.builtin "list.reverse") [.ref l]) Q E s :=
  call_meets F.slot_list_reverse ⟨_, ho, rfl⟩ F.entry_list_reverse (F.args_list_reverse_1 _) (AutoSeq1.list_reverse_list_0 l items n hsz) ⟨ho, hQ _ _ (Heap.get?_update_self _ ho rfl) (fun b hb => Heap.get?_update_ne _ _ _ _ hb)⟩

open PySem.SeqAt in
theorem index_ints {l : Nat} {vs : List Value} {ns : List Int} {k : Int} {t : Tok} {Q : Value → Shared → Prop} (hl : s.heap.IsList l vs.toArray) (hi : IntsAre vs ns)
    (hb : ns.length ≤ lim) (hk : k ∈ ns) (h : Q (.int (ns.idxOf k : Nat) s.toks) { s with toks := s.toks + 1 }) :
    wpAny (model prog w) A (call (.builtin "list.index") [.ref l, .int k t]) Q E s := by
  obtain ⟨⟨cls, dd, data, sl⟩, ho, hc, n, hd⟩ := id hl
  simp only at hc hd
  subst hc hd
  have hlen := hi.length
  have hj : ns.idxOf k < ns.length := List.idxOf_lt_length_iff.mpr hk
  unfold lim at hb
  refine call_meets PySem.F.slot_list_index ⟨_, ho, rfl⟩ PySem.F.entry_list_index (PySem.F.args_list_index_2 _ _)
    (list_indexAt l vs.toArray n dd sl (.int k t) (isInt k) (ns.idxOf k) (by simpa [hlen] using hj) (by (first | lia | omega)) ?_ ?_) ⟨ho, fun y hy => (eq_isInt k t hi y (by simpa using hy)).at _ _, h⟩
  · show isInt k vs[ns.idxOf k] = true
    rw [isInt_at k hi _ (by (first | lia | omega)) hj]
    simpa using List.getElem_idxOf hj
  · intro j hjs hlt
    show isInt k vs[j] = false
    rw [isInt_at k hi j (by simpa using hjs) (by (first | lia | omega))]
    exact ne_of_lt_idxOf hlt _
theorem snd_meth {m : Mt} {va : V} {vs : List V} {ra : Value} {rs : List Value} {Q : V → H → Prop} (X : St K P own env σ h s) (ha : VR K va ra) (hs : VRs K vs rs) (hq : methW m va vs h Q) :
    wpAny (model prog w) A (call (.builtin ("list." ++ mtName m)) (ra :: rs)) (EP K P own env σ Q) E s := by
  cases m with
  | append =>
    cases ha <;> (try exact hq.elim)
    rename_i a
    cases hs with
    | nil => exact hq.elim
    | cons hv hr =>
      cases hr with
      | cons _ _ => exact hq.elim
      | nil =>
        rename_i v r
        simp only [methW] at hq
        cases q : h a with
        | none => simp only [q] at hq
        | some o =>
          cases o with
          | dict kvs => simp only [q] at hq
          | tup xs => simp only [q] at hq
          | list xs =>
            simp only [q] at hq
            obtain ⟨items, n, h1, h2, h3⟩ := X.rel.list q
            have h7 : items.size = xs.length := by rw [← Array.length_toList, h2.length]
            refine append_exact h1 (by rw [h7]; exact sizeLine_lim h3) fun h' n' g1 g2 => ?_
            refine ⟨_, _, .none, X.setList q rfl g2 g1 (.list ?_ ?_) rfl rfl, hq.2⟩
            · rw [Array.toList_push]; exact h2.append (.one hv)
            · have := hq.1; simp; (first | lia | omega)
  | reverse =>
    cases ha <;> (try exact hq.elim)
    rename_i a
    cases hs with
    | cons _ _ => exact hq.elim
    | nil =>
      simp only [methW] at hq
      cases q : h a with
      | none => simp only [q] at hq
      | some o =>
        cases o with
        | dict kvs => simp only [q] at hq
        | tup xs => simp only [q] at hq
        | list xs =>
          simp only [q] at hq
          obtain ⟨items, n, h1, h2, h3⟩ := X.rel.list q
          have h7 : items.size = xs.length := by rw [← Array.length_toList, h2.length]
          refine reverse_exact h1 (by rw [h7]; exact sizeLine_lim h3) fun h' n' g1 g2 => ?_
          refine ⟨_, _, .none, X.setList q rfl g2 g1 (.list ?_ ?_) rfl rfl, hq⟩
          · rw [Array.toList_reverse]; exact h2.reverse
          · simpa using h3
  | index =>
    cases ha <;> (try exact hq.elim)
    rename_i a
    cases hs with
    | nil => exact hq.elim
    | cons hv hr =>
      cases hv <;> (try exact hq.elim)
      cases hr with
      | cons _ _ => exact hq.elim
      | nil =>
        simp only [methW] at hq
        cases q : h a with
        | none => simp only [q] at hq
        | some o =>
          cases o with
          | dict kvs => simp only [q] at hq
          | tup xs => simp only [q] at hq
          | list xs =>
            simp only [q] at hq
            cases q2 : intsOf xs with
            | none => simp only [q2] at hq
            | some is =>
              simp only [q2] at hq
              obtain ⟨items, n, h1, h2, h3⟩ := X.rel.list q
              have hi := ints_vrs q2 h2
              exact index_ints (vs := items.toList) ⟨_, h1, rfl, _, rfl⟩ hi (by rw [← hi.length, ← h2.length]; exact h3) hq.1 ⟨_, _, .int _ _, X.grow (Grown.tok s _), hq.2⟩
theorem pairV_inv {h : H} {v : V} {p : Int × Int} (q2 : pairV h v = some p) : ∃ t, v = .ref t ∧ h t = some (.tup [.int p.1, .int p.2]) := by
  cases v <;> (try (simp only [pairV] at q2; cases q2))
  rename_i t
  refine ⟨t, rfl, ?_⟩
  unfold pairV at q2
  dsimp only at q2
  split at q2
  · rename_i i j hb; cases q2; exact hb
  · cases q2
theorem snd_notinD {va vb : V} {ra rb : Value} {Q : Bool → Prop} (X : St K P own env σ h s) (hu : A.units + 64 < cLine) (ha : VR K va ra) (hb : VR K vb rb) (hq : notinW va vb h Q) :
    wpAny (model prog w) A (compareOp .NotIn ra rb) (fun r s' => ∃ b, r = .bool b ∧ St K P own env σ h s' ∧ Q b) E s := by
  cases hb with
  | ref r =>
    simp only [notinW] at hq
    cases q : h r with
    | none => simp only [q] at hq
    | some o =>
      cases o with
      | list xs => simp only [q] at hq
      | tup xs => simp only [q] at hq
      | dict kvs =>
        simp only [q] at hq
        obtain ⟨hne, hq⟩ := hq
        cases q2 : pairV h va with
        | none => simp only [q2] at hq
        | some p =>
          simp only [q2] at hq
          obtain ⟨hk, hq⟩ := hq
          obtain ⟨t', rfl, ht⟩ := pairV_inv q2
          cases ha
          obtain ⟨xs, m1, m2, m3⟩ := dict_of (prog := prog) (w := w) X.rel q hk
          have hl := m2.look p
          refine wpAny_notIn_heap (knd := tupleKind (intKind prog w)) (by show A.units + 1 < cLine; (first | lia | omega)) (pair_is X.rel ht) (beq_eq_false_iff_ne.mpr hne) m1 ⟨_, rfl, X.grow (.tok s _), ?_⟩
          have : (!(atKey xs [p.1, p.2]).isSome) = (lookK kvs p).isNone := by
            unfold atKey lookK
            cases q3 : kvs.find? (fun e => decide (e.1 = p)) with
            | none => rw [q3] at hl; dsimp only at hl; rw [hl]; rfl
            | some e => rw [q3] at hl; obtain ⟨tt, hl⟩ := hl; rw [hl]; rfl
          rw [this]; exact hq
  | _ => exact hq.elim
theorem snd_sub {G : Par} {value slice : Expr} {va vi : V} {ra ri : Value} {Q : V → H → Prop} (X : St K P own env σ h s) (hu : A.units + 64 < cLine) (hK : KOk K) (hG : G.ns = K.ns) (ha : VR K va ra) (hi : VR K vi ri) (hq : subW G va vi h Q)
    (hsl : ∀ o i, subscripted slice false o i = operate [o, i] (getItem o i)) :
    wpAny (model prog w) A (subscriptTail value slice ra ri) (EP K P own env σ Q) E s := by
  cases ha with
  | ref a =>
    cases hi with
    | int i t =>
      simp only [subW] at hq
      cases q : h a with
      | none => simp only [q] at hq
      | some o =>
        cases o with
        | dict kvs => simp only [q] at hq
        | list xs =>
          simp only [q] at hq
          obtain ⟨items, n, h1, h2, h3⟩ := X.rel.list q
          cases q2 : getIdx xs i with
          | none => simp only [q2] at hq
          | some v =>
            simp only [q2] at hq
            exact tail_any (T := "list") ⟨_, h1, rfl⟩ slot_list_getitem.lookup (getItem_listV ⟨_, h1, rfl, _, rfl⟩ h2 h3 q2 fun r hr => ⟨_, _, hr, X, hq⟩) (hsl _ _)
        | tup xs =>
          simp only [q] at hq
          obtain ⟨items, n, h1, h2, h3⟩ := X.rel.tup q
          cases q2 : getIdx xs i with
          | none => simp only [q2] at hq
          | some v =>
            simp only [q2] at hq
            obtain ⟨h0, e1⟩ := getIdx_some q2
            obtain ⟨r, h4, h5⟩ := h2.get e1
            have h6 := get?_lt e1
            have h7 : items.size = xs.length := by rw [← Array.length_toList, h2.length]
            exact tail_any (T := "tuple") ⟨_, h1, rfl⟩ slot_tuple_getitem.lookup (getItem_tuple (j := i.toNat) ⟨_, h1, rfl, _, rfl⟩ (by (first | lia | omega)) (by unfold lim at h3; (first | lia | omega))
              (by unfold seqIndex?; (repeat' split) <;> (try simp) <;> (first | lia | omega)) (by rw [← Array.getElem?_toList]; exact h4) ⟨_, _, h5, X, hq⟩) (hsl _ _)
    | ref t =>
      simp only [subW] at hq
      cases q : h a with
      | none => simp only [q] at hq
      | some o =>
        cases o with
        | list xs => simp only [q] at hq
        | tup xs => simp only [q] at hq
        | dict kvs =>
          simp only [q] at hq
          cases q2 : pairV h (.ref t) with
          | none => simp only [q2] at hq
          | some p =>
            simp only [q2] at hq
            obtain ⟨hk, hq⟩ := hq
            obtain ⟨t', e', ht⟩ := pairV_inv q2
            cases e'
            obtain ⟨xs, m1, m2, m3⟩ := dict_of (prog := prog) (w := w) X.rel q hk
            have hl := m2.look p
            cases q3 : kvs.find? (fun e => decide (e.1 = p)) with
            | none => unfold lookK at hq; rw [q3] at hq; exact hq.elim
            | some e =>
              unfold lookK at hq; rw [q3] at hl hq
              obtain ⟨tt, hl⟩ := hl
              refine tail_any m1.typeIs slot_dict_getitem.lookup (wpAny_getItem_heap (knd := tupleKind (intKind prog w)) (p := (e.2.1, .int e.2.2 tt)) (by show A.units + 1 < cLine; (first | lia | omega)) (pair_is X.rel ht) m1 (by unfold atKey; rw [hl]; rfl) ?_) (hsl _ _)
              exact ⟨_, _, .int _ _, X.grow (.tok s _), hq⟩
    | _ => exact hq.elim
  | scr =>
    cases hi with
    | int i t =>
      simp only [subW] at hq
      cases q2 : getIdx (G.ns.map V.int) i with
      | none => simp only [q2] at hq
      | some v =>
        simp only [q2] at hq
        obtain ⟨items, h1, h2⟩ := hK.scr
        have h1' : s.heap.IsList K.scr items := h1.at fun o e => X.rel.base _ _ e
        rw [hG] at q2
        exact tail_any h1'.typeIs slot_list_getitem.lookup (getItem_listV h1' h2 (by simpa using hK.scrL) q2 fun r hr => ⟨_, _, hr, X, hq⟩) (hsl _ _)
    | _ => exact hq.elim
  | _ => exact hq.elim

end
end MP

end
section
namespace MP
open PySem PyProof.Rows
section
variable {prog : Program} {w : World} {A : Around} {E : Value → Shared → Prop} {k : Nat}
variable {K : KK} {P : Prt} {own : Str → Bool} {env : PySem.Env} {σ : Env} {h : H} {s : Shared}
theorem snd_cmp {op : Cm} {va vb : V} {ra rb : Value} {Q : V → H → Prop} (X : St K P own env σ h s) (hR : Rm A k) (ha : VR K va ra) (hb : VR K vb rb) (hq : cmpop op va vb h Q) :
    wpAny (model prog w) A (compareOp (cmOf op) ra rb) (EP K P own env σ Q) E s := by
  have hu : A.units + 64 < cLine := by have := hR.un; (first | lia | omega)
  cases op with
  | eq =>
    have hq : eqW va vb h fun r => Q (.bool r) h := hq
    exact wpAny_mono (snd_eq X hu ha hb hq) (fun r s' hx => by obtain ⟨b, rfl, rfl, hq'⟩ := hx; exact ⟨_, _, .bool _, X, hq'⟩) fun _ _ x => x
  | ne =>
    have hq : eqW va vb h fun r => Q (.bool (!r)) h := hq
    exact wpAny_mono (snd_ne X hu ha hb hq) (fun r s' hx => by obtain ⟨b, rfl, rfl, hq'⟩ := hx; exact ⟨_, _, .bool _, X, hq'⟩) fun _ _ x => x
  | isin =>
    have hq : inW va vb h fun r => Q (.bool r) h := hq
    exact wpAny_mono (snd_in X hu ha hb hq) (fun r s' hx => by obtain ⟨b, rfl, rfl, hq'⟩ := hx; exact ⟨_, _, .bool _, X, hq'⟩) fun _ _ x => x
  | notin =>
    have hq : notinW va vb h fun r => Q (.bool r) h := hq
    exact wpAny_mono (snd_notinD X hu ha hb hq) (fun r s' hx => by obtain ⟨b, rfl, X', hq'⟩ := hx; exact ⟨_, _, .bool _, X', hq'⟩) fun _ _ x => x
  | is =>
    cases hb <;> (try exact hq.elim)
    · exact is_none ⟨_, _, .bool _, X, by rw [vr_none ha]; exact hq⟩
    · exact is_boolG ha ⟨_, _, .bool _, X, by rw [vr_bool ha]; exact hq⟩
    · cases ha <;> (try exact hq.elim)
      exact is_tyG ⟨_, _, .bool _, X, by rw [beq_ty]; exact hq⟩
  | isnt =>
    cases hb <;> (try exact hq.elim)
    · exact isNot_none ⟨_, _, .bool _, X, by rw [vr_none ha]; exact hq⟩
    · exact isnot_boolG ha ⟨_, _, .bool _, X, by rw [vr_bool ha]; exact hq⟩
    · cases ha <;> (try exact hq.elim)
      exact isnot_tyG ⟨_, _, .bool _, X, by rw [beq_ty]; exact hq⟩
  | lt =>
    cases ha with
    | int i t =>
      cases hb <;> (try exact hq.elim)
      exact lt_int ⟨_, _, .bool _, X, hq⟩
    | _ => exact hq.elim
  | le =>
    cases ha <;> (try exact hq.elim)
    cases hb <;> (try exact hq.elim)
    exact le_int ⟨_, _, .bool _, X, hq⟩
  | gt =>
    cases ha <;> (try exact hq.elim)
    cases hb <;> (try exact hq.elim)
    exact gt_int ⟨_, _, .bool _, X, hq⟩
  | ge =>
    cases ha <;> (try exact hq.elim)
    cases hb <;> (try exact hq.elim)
    exact ge_int ⟨_, _, .bool _, X, hq⟩
end
end MP

end
section
namespace MP
open PySem PyProof.Rows

theorem intItems_of {rs : List Value} {is : List Int} (hi : IntsAre rs is) : ∃ xs : Array (Int × Tok), rs.toArray = intItems xs ∧ is = xs.toList.map (·.1) := by
  induction hi with
  | nil => exact ⟨#[], by simp [intItems], rfl⟩
  | cons n t _ ih =>
    obtain ⟨xs, h1, h2⟩ := ih
    refine ⟨((n, t) :: xs.toList).toArray, ?_, by simp [h2]⟩
    have : (_ : Array Value).toList = _ := congrArg Array.toList h1
    simp [intItems] at this ⊢
    exact this

section
variable {prog : Program} {w : World} {A : Around} {E : Value → Shared → Prop} {k : Nat}
variable {K : KK} {P : Prt} {own : Str → Bool} {env : PySem.Env} {σ : Env} {h : H} {s : Shared}

theorem min_ints {l : Nat} {items : Array Value} {n : Nat} {is : List Int} {Q : Value → Shared → Prop} (hh : A.handled = none) (ho : s.heap.get? l = some (listOb items n)) (hi : IntsAre items.toList is) (hne : is ≠ [])
    (hQ : ∀ t s', Grown s s' → Q (.int (minL is) t) s') : wpAny (model prog w) A (call (.builtin "min") [.ref l]) Q E s := by
  obtain ⟨xs, e, hns⟩ := intItems_of hi
  have hl : s.heap.IsList l (intItems xs) := by rw [← e]; exact ⟨_, ho, rfl, n, by simp⟩
  have hsz : 0 < xs.size := by
    cases q : xs.size with
    | zero => exact absurd (by rw [hns, List.map_eq_nil_iff]; exact List.eq_nil_of_length_eq_zero (by rw [Array.length_toList, q])) hne
    | succ j => (first | lia | omega)
  refine min_intList hh hl hsz fun v h' tk hv hk => ?_
  obtain ⟨t, rfl⟩ := intItems_at hv
  obtain ⟨h1, h2⟩ := argBest_lt (numAt xs) (xs.size - 1)
  have hm : numAt xs (argBest (fun i j => decide (numAt xs i < numAt xs j)) (xs.size - 1)) = minL is := by
    refine minL_unique ?_ fun a ha => ?_
    · rw [hns, numAt_eq]; exact getD_mem (by rw [List.length_map, Array.length_toList]; (first | lia | omega))
    · rw [hns] at ha
      obtain ⟨j, hj, rfl⟩ := mem_getD ha
      rw [List.length_map, Array.length_toList] at hj
      rw [← numAt_eq]; exact h2 j (by (first | lia | omega))
  rw [hm]
  exact hQ _ _ (.of hk)

theorem sum_ints {l : Nat} {items : Array Value} {n : Nat} {is : List Int} {Q : Value → Shared → Prop} (hh : A.handled = none) (ho : s.heap.get? l = some (listOb items n)) (hi : IntsAre items.toList is)
    (hQ : ∀ t s', Grown s s' → Q (.int is.sum t) s') : wpAny (model prog w) A (call (.builtin "sum") [.ref l]) Q E s := by
  obtain ⟨xs, e, hns⟩ := intItems_of hi
  have hl : s.heap.IsList l (intItems xs) := by rw [← e]; exact ⟨_, ho, rfl, n, by simp⟩
  refine sum_intListG hh hl fun h' tk t' hk => ?_
  have hm : preSum (numAt xs) xs.size = is.sum := by
    rw [preSum_eq, hns, List.take_of_length_le (by rw [List.length_map, Array.length_toList]; exact Nat.le_refl _)]
  rw [hm]
  exact hQ _ _ (.of hk)

theorem snd_bfn {G : Par} {f : Bf} {vs : List V} {rs : List Value} {Q : V → H → Prop} (X : St K P own env σ h s) (hK : KOk K) (hG : G.ns = K.ns) (hR : Rm A k) (hs : VRs K vs rs) (hq : bfnW G f vs h Q) :
    wpAny (model prog w) A (call (bfVal f) rs) (EP K P own env σ Q) E s := by
  cases hs with
  | nil => cases f <;> exact hq.elim
  | cons ha hr =>
  cases hr with
  | nil =>
    cases f with
    | len =>
      cases ha <;> (try exact hq.elim)
      · rename_i a
        conv at hq => whnf
        cases q : h a with
        | none => simp only [q] at hq
        | some o =>
          cases o with
          | dict kvs => simp only [q] at hq
          | tup xs =>
            simp only [q] at hq
            obtain ⟨items, n, h1, h2, h3⟩ := X.rel.tup q
            have h7 : items.size = xs.length := by rw [← Array.length_toList, h2.length]
            refine len_tuple ⟨_, h1, rfl, _, rfl⟩ (by rw [h7]; unfold lim at h3; (first | lia | omega)) ⟨_, _, .int _ _, X.grow (.tok s _), ?_⟩
            rw [h7]; exact hq
          | list xs =>
            simp only [q] at hq
            obtain ⟨items, n, h1, h2, h3⟩ := X.rel.list q
            have h7 : items.size = xs.length := by rw [← Array.length_toList, h2.length]
            refine Calls.call_len_list ⟨_, h1, rfl, _, rfl⟩ (by rw [h7]; unfold lim at h3; (first | lia | omega)) ⟨_, _, .int _ _, X.grow (.tok s _), ?_⟩
            rw [h7]; exact hq
      · obtain ⟨items, h1, h2⟩ := hK.scr
        have h1' : s.heap.IsList K.scr items := h1.at fun o e => X.rel.base _ _ e
        have h3 := hK.scrL
        have h7 : items.size = K.ns.length := by rw [← Array.length_toList, ← h2.length, List.length_map]
        refine Calls.call_len_list h1' (by rw [h7]; unfold lim at h3; (first | lia | omega)) ⟨_, _, .int _ _, X.grow (.tok s _), ?_⟩
        rw [h7, ← hG]; exact hq
    | list =>
      cases ha <;> (try exact hq.elim)
      rename_i a
      conv at hq => whnf
      cases q : h a with
      | none => simp only [q] at hq
      | some o =>
        cases o with
        | dict kvs => simp only [q] at hq
        | tup xs => simp only [q] at hq
        | list xs =>
          simp only [q] at hq
          obtain ⟨items, n, h1, h2, h3⟩ := X.rel.list q
          have h7 : items.size = xs.length := by rw [← Array.length_toList, h2.length]
          refine call_list_seq (T := "list") a (.inl rfl) h1 rfl rfl (fun h' c' hk hD => ?_) (by rw [h7]; exact sizeLine_lim h3)
          obtain ⟨g1, g2⟩ := X.add (.of' hk) (fresh_none _) hD (.list h2 h3)
          exact ⟨_, _, .ref _, g2, hq _ g1⟩
    | min =>
      cases ha <;> (try exact hq.elim)
      rename_i a
      conv at hq => whnf
      cases q : h a with
      | none => simp only [q] at hq
      | some o =>
        cases o with
        | dict kvs => simp only [q] at hq
        | tup xs => simp only [q] at hq
        | list xs =>
          simp only [q] at hq
          cases q2 : intsOf xs with
          | none => simp only [q2] at hq
          | some is =>
            cases is with
            | nil => simp only [q2] at hq
            | cons i is =>
              simp only [q2] at hq
              obtain ⟨items, n, h1, h2, h3⟩ := X.rel.list q
              exact min_ints hR.hd h1 (ints_vrs q2 h2) (by simp) fun t s' g => ⟨_, _, .int _ _, X.grow g, hq⟩
    | sum =>
      cases ha <;> (try exact hq.elim)
      rename_i a
      conv at hq => whnf
      cases q : h a with
      | none => simp only [q] at hq
      | some o =>
        cases o with
        | dict kvs => simp only [q] at hq
        | tup xs => simp only [q] at hq
        | list xs =>
          simp only [q] at hq
          cases q2 : intsOf xs with
          | none => simp only [q2] at hq
          | some is =>
            simp only [q2] at hq
            obtain ⟨items, n, h1, h2, h3⟩ := X.rel.list q
            exact sum_ints hR.hd h1 (ints_vrs q2 h2) fun t s' g => ⟨_, _, .int _ _, X.grow g, hq⟩
    | max => cases ha <;> exact hq.elim
    | type =>
      conv at hq => whnf
      cases ha with
      | none => exact call_type_of (Tx := "NoneType") rfl (by decide) ⟨_, _, .ty _, X, hq⟩
      | bool b => exact call_type_of (Tx := "bool") rfl (by decide) ⟨_, _, .ty _, X, hq⟩
      | int i t => exact call_type_of (Tx := "int") rfl (by decide) ⟨_, _, .ty _, X, hq⟩
      | scr => exact hq.elim
      | ty t => exact hq.elim
      | ref a =>
        simp only [typeN] at hq
        cases q : h a with
        | none => simp only [q] at hq
        | some o =>
          cases o with
          | dict kvs => simp only [q] at hq
          | list xs =>
            simp only [q] at hq
            obtain ⟨items, n, h1, h2, h3⟩ := X.rel.list q
            exact call_type_of (Tx := "list") ⟨_, h1, rfl⟩ (by decide) ⟨_, _, .ty _, X, hq⟩
          | tup xs =>
            simp only [q] at hq
            obtain ⟨ob, h1, h2, _⟩ := X.rel.objs _ _ q
            cases h2 with
            | tup hx _ => exact call_type_of (Tx := "tuple") ⟨_, h1, rfl⟩ (by decide) ⟨_, _, .ty _, X, hq⟩
  | cons hb hr =>
    cases hr with
    | cons hc hr =>
      cases f with
      | len => cases ha <;> exact hq.elim
      | list => cases ha <;> exact hq.elim
      | min =>
        cases ha <;> (try exact hq.elim)
        cases hb <;> (try exact hq.elim)
        cases hr with
        | cons _ _ => cases hc <;> exact hq.elim
        | nil =>
          cases hc <;> (try exact hq.elim)
          rename_i i t j u k x
          have hq : Q (.int (min (min i j) k)) h := hq
          refine min_three_ints hR.hd fun h' tk hk => ?_
          split
          · split
            · exact ⟨_, _, .int _ _, X.grow (.of hk), by rw [show min (min i j) k = k by (first | lia | omega)] at hq; exact hq⟩
            · exact ⟨_, _, .int _ _, X.grow (.of hk), by rw [show min (min i j) k = j by (first | lia | omega)] at hq; exact hq⟩
          · split
            · exact ⟨_, _, .int _ _, X.grow (.of hk), by rw [show min (min i j) k = k by (first | lia | omega)] at hq; exact hq⟩
            · exact ⟨_, _, .int _ _, X.grow (.of hk), by rw [show min (min i j) k = i by (first | lia | omega)] at hq; exact hq⟩
      | max => cases ha <;> (try exact hq.elim) <;> cases hb <;> exact hq.elim
      | sum => cases ha <;> exact hq.elim
      | type => exact hq.elim
    | nil =>
      cases f with
      | len => cases ha <;> exact hq.elim
      | list => cases ha <;> exact hq.elim
      | min =>
        cases ha <;> (try exact hq.elim)
        cases hb <;> (try exact hq.elim)
        refine min_two_ints hR.hd fun h' tk hk => ?_
        rename_i i t j u
        have hq : Q (.int (min i j)) h := hq
        split
        · exact ⟨_, _, .int _ _, X.grow (.of hk), by rw [show min i j = j by (first | lia | omega)] at hq; exact hq⟩
        · exact ⟨_, _, .int _ _, X.grow (.of hk), by rw [show min i j = i by (first | lia | omega)] at hq; exact hq⟩
      | max =>
        cases ha <;> (try exact hq.elim)
        cases hb <;> (try exact hq.elim)
        refine max_two_ints hR.hd fun h' tk hk => ?_
        rename_i i t j u
        have hq : Q (.int (max i j)) h := hq
        split
        · exact ⟨_, _, .int _ _, X.grow (.of hk), by rw [show max i j = j by (first | lia | omega)] at hq; exact hq⟩
        · exact ⟨_, _, .int _ _, X.grow (.of hk), by rw [show max i j = i by (first | lia | omega)] at hq; exact hq⟩
      | sum => cases ha <;> exact hq.elim
      | type => exact hq.elim
end
end MP

end
section
/-! Entering a call or a comprehension, coming back; stores; what is not ours. -/
namespace MP
open PySem PyProof.Rows

section
variable {K : KK} {P : Prt} {own : Str → Bool} {env : PySem.Env} {σ : Env} {h : H} {s s' : Shared}

theorem Rel.none_fields (R : Rel K P h s) {I : Nat} {ob : Obj} (hI : s.heap.get? I = some ob) (hd : ∀ it n, ob.data ≠ .seq it n) (hd' : ∀ es n, ob.data ≠ .dict es n) : h I = Option.none := by
  cases q : h I with
  | none => rfl
  | some o =>
    obtain ⟨ob', h1, h2, _⟩ := R.objs I o q
    rw [hI] at h1; cases h1
    rcases h2.data with ⟨_, _, hq⟩ | ⟨_, _, hq⟩
    · exact absurd hq (hd _ _)
    · exact absurd hq (hd' _ _)
theorem Rel.none_ns (R : Rel K P h s) {I : Nat} {ob : Obj} (hI : s.heap.get? I = some ob) (hd : ∃ es n, ob.data = .dict es n) (hM : NM h I) : h I = Option.none := by
  obtain ⟨es, n, hd⟩ := hd
  cases q : h I with
  | none => rfl
  | some o =>
    have hm := hM o q
    obtain ⟨ob', h1, h2, _⟩ := R.objs I o q
    rw [hI] at h1; cases h1
    cases h2
    · cases hm
    · cases hm
    · cases hd
theorem Rel.none_list (R : Rel K P h s) {D : Nat} {items : Array Value} {n : Nat} (hD : s.heap.get? D = some (listOb items n)) (hM : NM h D) : h D = Option.none := by
  cases q : h D with
  | none => rfl
  | some o =>
    obtain ⟨ob', h1, h2, _⟩ := R.objs D o q
    rw [hD] at h1
    cases h2 with
    | list _ _ => have := hM _ q; cases this
    | tup _ _ => simp at h1
    | dict _ _ _ _ => simp at h1

theorem Rel.junk (R : Rel K P h s) {I : Nat} (hh : h I = Option.none) (hP : P I = none) (hF : (∀ m, s.heap.Ns I m → ∃ m', s'.heap.Ns I m') ∨ ∀ e ∈ K.fl, e.frame ≠ some I)
    (hk : ∀ b o, b ≠ I → s.heap.get? b = some o → s'.heap.get? b = some o) (hos : s'.os = s.os) (hg : s'.gens = s.gens) : Rel K P h s' :=
  have hB : ∀ b o, P b = some o → b ≠ I := fun b o e q => by rw [q, hP] at e; cases e
  ⟨R.sub, fun b o e => hk b o (hB b o (R.sub.1 b o e)) (R.base b o e), fun b o e => let ⟨o', h1, h2⟩ := R.keep b o e; ⟨o', hk b o' (hB b o e) h1, h2⟩, fun e he => by
    rcases hF with hF | hF
    · exact (R.frs e he).but hk hF
    · obtain ⟨h1, L, m, h2, h3, o, es, ep, h5, h6⟩ := R.frs e he
      exact ⟨h1, L, m, h2, h3, o, es, ep, hk _ _ (fun q => hF e he (by rw [h2, q])) h5, h6⟩, R.frm, fun a o e => by
    obtain ⟨ob', h1, h2, h3⟩ := R.objs a o e
    exact ⟨ob', hk _ _ (fun q => by rw [q, hh] at e; cases e) h1, h2, h3⟩, hos.trans R.os, hg ▸ R.gens⟩

theorem FR.cell_ne (F : FR K P own env σ h s) {I : Nat} {ob : Obj} (hI : s.heap.get? I = some ob) (hd : ∀ v, ob.data ≠ .cell v) {n : Str} {c : Nat} (hn : isCF (env.kindOf n)) (hc : env.cells.lookup n = some c) : c ≠ I := by
  obtain ⟨c', ov, h1, h2, _⟩ := F.cells n hn
  rw [hc] at h1; cases h1
  obtain ⟨o, h4, h5⟩ := h2
  intro q
  rw [q, hI] at h4; cases h4; exact hd _ h5
theorem FR.loc_ne (F : FR K P own env σ h s) {I : Nat} {ob : Obj} (hI : s.heap.get? I = some ob) (hd : ∀ es n, ob.data ≠ .dict es n) : env.locals ≠ I := by
  obtain ⟨m, hm, _⟩ := F.loc
  obtain ⟨o, es, ep, h1, h2, _⟩ := hm
  intro q
  rw [q, hI] at h1; cases h1; exact hd _ _ h2

theorem St.junkG (X : St K P own env σ h s) {I : Nat} (hh : h I = Option.none) (hP : P I = none) (hL : env.locals ≠ I) (hC : ∀ n c, isCF (env.kindOf n) → env.cells.lookup n = some c → c ≠ I) (hF : (∀ m, s.heap.Ns I m → ∃ m', s'.heap.Ns I m') ∨ ∀ e ∈ K.fl, e.frame ≠ some I)
    (hk : ∀ b o, b ≠ I → s.heap.get? b = some o → s'.heap.get? b = some o) (hos : s'.os = s.os) (hg : s'.gens = s.gens) : St K P own env σ h s' := by
  refine ⟨X.rel.junk hh hP hF hk hos hg, ⟨X.fr.kind, X.fr.glb, X.fr.bui, ?_, X.fr.locP, X.fr.locM, fun n hn => ?_, X.fr.apart⟩⟩
  · obtain ⟨m, hm, hv⟩ := X.fr.loc
    obtain ⟨o, es, ep, h1, h2⟩ := hm
    exact ⟨m, ⟨o, es, ep, hk _ _ hL h1, h2⟩, hv⟩
  · obtain ⟨c, ov, h1, h2, h3⟩ := X.fr.cells n hn
    obtain ⟨o, h4, h5⟩ := h2
    exact ⟨c, ov, h1, ⟨o, hk _ _ (hC n c hn h1) h4, h5⟩, h3⟩

theorem St.junkF (X : St K P own env σ h s) {I : Nat} {ob : Obj} (hI : s.heap.get? I = some ob) (hd : ∃ fs, ob.data = .fields fs) (hP : P I = none)
    (hk : ∀ b o, b ≠ I → s.heap.get? b = some o → s'.heap.get? b = some o) (hos : s'.os = s.os) (hg : s'.gens = s.gens) : St K P own env σ h s' := by
  obtain ⟨fs, hd⟩ := hd
  exact X.junkG (X.rel.none_fields hI (by rw [hd]; intros; simp) (by rw [hd]; intros; simp)) hP (X.fr.loc_ne hI (by rw [hd]; intros; simp)) (fun n c hn hc => X.fr.cell_ne hI (by rw [hd]; intros; simp) hn hc) (.inl fun m hn => ns_not hI (by rw [hd]; intros; simp) hn) hk hos hg
theorem St.junkL (X : St K P own env σ h s) {D : Nat} {items : Array Value} {n : Nat} (hD : s.heap.get? D = some (listOb items n)) (hM : NM h D) (hP : P D = none)
    (hk : ∀ b o, b ≠ D → s.heap.get? b = some o → s'.heap.get? b = some o) (hos : s'.os = s.os) (hg : s'.gens = s.gens) : St K P own env σ h s' :=
  X.junkG (X.rel.none_list hD hM) hP (X.fr.loc_ne hD (by intros; simp)) (fun _ _ hn hc => X.fr.cell_ne hD (by intros; simp) hn hc) (.inl fun m hn => ns_not hD (by intros; simp) hn) hk hos hg
theorem St.junkD (X : St K P own env σ h s) {C : Nat} {ob : Obj} (hI : s.heap.get? C = some ob) (hd : ∃ es n, ob.data = .dict es n) (hP : P C = none) (hL : env.locals ≠ C) (hF : ∀ e ∈ K.fl, e.frame ≠ some C) (hM : NM h C)
    (hk : ∀ b o, b ≠ C → s.heap.get? b = some o → s'.heap.get? b = some o) (hos : s'.os = s.os) (hg : s'.gens = s.gens) : St K P own env σ h s' := by
  have hz := X.rel.none_ns hI hd hM
  obtain ⟨es, n, hd⟩ := hd
  exact X.junkG hz hP hL (fun n c hn hc => X.fr.cell_ne hI (by rw [hd]; intros; simp) hn hc) (.inr hF) hk hos hg

/-- a list that was made aside becomes ours -/
theorem St.adopt (X : St K P own env σ h s) {D : Nat} {xs : List V} {items : Array Value} {n : Nat} (hD : s.heap.get? D = some (listOb items n)) (hh : h D = Option.none) (hP : P D = none) (hx : VRs K xs items.toList) (hl : xs.length ≤ lim) :
    St K P own env σ (h.set D (.list xs)) s := by
  refine ⟨⟨X.rel.sub, X.rel.base, X.rel.keep, X.rel.frs, fun e he L hL => nm_set (X.rel.frm e he L hL) (fun q => by
      obtain ⟨_, L', m, g2, _, ob, _, _, g5, g6, _⟩ := X.rel.frs e he
      rw [hL] at g2; cases g2; rw [q, hD] at g5; cases g5; cases g6), fun b o' e => ?_, X.rel.os, X.rel.gens⟩, ⟨X.fr.kind, X.fr.glb, X.fr.bui, X.fr.loc, X.fr.locP, fun o' e => ?_, X.fr.cells, X.fr.apart⟩⟩
  · unfold H.set at e
    split at e
    · rename_i q; subst q; cases e; exact ⟨_, hD, .list hx hl, fun _ => hP⟩
    · exact X.rel.objs b o' e
  · unfold H.set at e
    split at e
    · rename_i q; exact absurd q (X.fr.loc_ne hD (by intros; simp))
    · exact X.fr.locM o' e

open Classical in
/-- all that stands is guarded, but our own lists -/
noncomputable def prtOf (h : H) (s : Shared) : Prt := fun b => if ∃ o, h b = some o ∧ o.isMut = true then none else s.heap.get? b

theorem prtOf_some {h : H} {s : Shared} {b : Nat} {o : Obj} (e : prtOf h s b = some o) : s.heap.get? b = some o ∧ NM h b := by
  unfold prtOf at e
  split at e
  · cases e
  · rename_i q
    refine ⟨e, fun o' e' => ?_⟩
    cases r : o'.isMut with
    | false => rfl
    | true => exact absurd ⟨o', e', r⟩ q
theorem prtOf_of {h : H} {s : Shared} {b : Nat} {o : Obj} (e : s.heap.get? b = some o) (hM : NM h b) : prtOf h s b = some o := by
  unfold prtOf
  rw [if_neg]
  · exact e
  · rintro ⟨o', e1, e2⟩
    rw [hM o' e1] at e2; cases e2
theorem prtOf_none {h : H} {s : Shared} {b : Nat} (e : s.heap.get? b = none) : prtOf h s b = none := by
  unfold prtOf; split
  · rfl
  · exact e

theorem Rel.nm_of (R : Rel K P h s) {b : Nat} {o : Obj} (e : P b = some o) : NM h b := fun o' e' => by
  obtain ⟨_, _, _, h3⟩ := R.objs b o' e'
  cases q : o'.isMut with
  | false => rfl
  | true => rw [h3 q] at e; cases e
theorem Rel.nm_shape (R : Rel K P h s) {b : Nat} {ob : Obj} (e : s.heap.get? b = some ob) (hd : ∀ it n, ob.data ≠ .seq it n) (hd' : ∀ es n, ob.data ≠ .dict es n) : NM h b := fun o' e' => by
  rw [R.none_fields e hd hd'] at e'; cases e'

theorem Rel.enter (R : Rel K P h s) : Rel K (prtOf h s) h s :=
  ⟨⟨fun b o e => prtOf_of (R.base b o e) (R.nm_of (R.sub.1 b o e)), fun t ht => by
    obtain ⟨o, h1, h2⟩ := R.sub.2 t ht
    obtain ⟨o', h3, h4⟩ := R.keep _ _ h1
    exact ⟨o', prtOf_of h3 (R.nm_of h1), h4.tabOk h2⟩⟩, R.base, fun _ _ e => ⟨_, (prtOf_some e).1, .refl _⟩, R.frs, R.frm, fun a o e => by
    obtain ⟨ob, h1, h2, _⟩ := R.objs a o e
    refine ⟨ob, h1, h2, fun hm => ?_⟩
    unfold prtOf; rw [if_pos ⟨o, e, hm⟩], R.os, R.gens⟩

theorem St.back (X : St K P own env σ h s) {h' : H} {s' : Shared} (R : Rel K (prtOf h s) h' s') : St K P own env σ h' s' := by
  have nm' : ∀ {b o}, prtOf h s b = some o → NM h' b := fun e => R.nm_of e
  refine ⟨⟨X.rel.sub, R.base, fun b o e => (by
      obtain ⟨o1, g1, g2⟩ := X.rel.keep b o e
      obtain ⟨o2, g3, g4⟩ := R.keep b o1 (prtOf_of g1 (X.rel.nm_of e))
      exact ⟨o2, g3, g2.trans g4⟩), R.frs, R.frm, fun a o e => ?_, R.os, R.gens⟩, ⟨X.fr.kind, X.fr.glb, X.fr.bui, ?_, X.fr.locP, ?_, fun n hn => ?_, X.fr.apart⟩⟩
  · obtain ⟨ob, h1, h2, h3⟩ := R.objs a o e
    refine ⟨ob, h1, h2, fun hm => ?_⟩
    cases q : P a with
    | none => rfl
    | some o1 =>
      obtain ⟨o2, g1, _⟩ := X.rel.keep a o1 q
      have := prtOf_of g1 (X.rel.nm_of q)
      rw [h3 hm] at this; cases this
  · obtain ⟨m, hm, hv⟩ := X.fr.loc
    obtain ⟨o, es, ep, h1, h2⟩ := hm
    obtain ⟨o2, g3, g4⟩ := R.keep _ _ (prtOf_of h1 X.fr.locM)
    exact ⟨m, ⟨o2, es, ep, g3, by rw [g4.data (by rw [h2.1]; intros; simp)]; exact h2.1, h2.2⟩, hv⟩
  · obtain ⟨m, hm, hv⟩ := X.fr.loc
    obtain ⟨o, es, ep, h1, h2⟩ := hm
    exact nm' (prtOf_of h1 X.fr.locM)
  · obtain ⟨c, ov, h1, h2, h3⟩ := X.fr.cells n hn
    obtain ⟨o, h4, h5⟩ := h2
    obtain ⟨o2, g3, g4⟩ := R.keep _ _ (prtOf_of h4 (X.rel.nm_shape h4 (by rw [h5]; intros; simp) (by rw [h5]; intros; simp)))
    exact ⟨c, ov, h1, ⟨o2, g3, by rw [g4.data (by rw [h5]; intros; simp)]; exact h5⟩, h3⟩

end

section
variable {M : Model} {A : Around} {E : Value → Shared → Prop}
variable {K : KK} {P : Prt} {own : Str → Bool} {env : PySem.Env} {σ : Env} {h : H} {s : Shared}

/-- a name is bound -/
theorem St.store (X : St K P own env σ h s) {x : String} {v : V} {r : Value} {Q : Unit → Shared → Prop} (hx : x ≠ ".0") (hv : VR K v r)
    (hk : env.kindOf (Str.ofString x) = some .local ∨ (env.kindOf (Str.ofString x) = some .cell ∧ own (Str.ofString x) = true))
    (hQ : ∀ s', St K P own env (upd σ x v) h s' → (∀ b o, s.heap.get? b = some o → (∀ es n, o.data ≠ .dict es n) → (∀ v, o.data ≠ .cell v) → s'.heap.get? b = some o) → (∀ b, b ≠ env.locals → ∀ o, s.heap.get? b = some o → (∀ v, o.data ≠ .cell v) → s'.heap.get? b = some o) → Q () s') :
    wpAny M A (storeName env (Str.ofString x) r) Q E s := by
  obtain ⟨m, hm, hmv⟩ := X.fr.loc
  rcases hk with hk | ⟨hk, ho⟩
  · refine wpAny_storeName_local hk hm (fun h' hn hs => ?_) (by rw [X.fr.kind]; rfl)
    obtain ⟨oL, esL, epL, hL1, hL2, _⟩ := id hm
    have hk' : ∀ b o, b ≠ env.locals → s.heap.get? b = some o → h'.get? b = some o := fun b o hb e => (hs.2 b hb).trans e
    refine hQ _ ⟨X.rel.junk (X.rel.none_ns hL1 ⟨_, _, hL2⟩ X.fr.locM) X.fr.locP (.inl fun _ _ => ⟨_, hn⟩) hk' rfl rfl, ⟨X.fr.kind, X.fr.glb, X.fr.bui, ⟨_, hn, fun y v' hy e hky => ?_⟩, X.fr.locP, X.fr.locM, fun n hn' => ?_, X.fr.apart⟩⟩
      (fun b o e hd _ => hk' b o (fun q => by rw [q, hL1] at e; cases e; exact hd _ _ hL2) e) (fun b hb o e _ => hk' b o hb e)
    · unfold upd at e
      split at e
      · rename_i q; subst q; cases e; exact ⟨r, by simp, hv⟩
      · rename_i q
        obtain ⟨rv, h1, h2⟩ := hmv y v' hy e hky
        exact ⟨rv, by rw [if_neg (fun q' => q (ofString_inj q'))]; exact h1, h2⟩
    · obtain ⟨c, ov, h1, h2, h3, h4⟩ := X.fr.cells n hn'
      obtain ⟨o, h5, h6⟩ := h2
      refine ⟨c, ov, h1, ⟨o, hk' _ _ (fun q => by rw [q, hL1] at h5; cases h5; rw [hL2] at h6; cases h6) h5, h6⟩, fun y v' hy e => ?_, h4⟩
      unfold upd at e
      split at e
      · rename_i q; subst q; subst hy; rw [hk] at hn'; rcases hn' with hn' | hn' <;> cases hn'
      · exact h3 y v' hy e
  · obtain ⟨c, ov, h1, h2, h3, h4⟩ := X.fr.cells (Str.ofString x) (.inl hk)
    refine wpAny_storeName_cell X.fr.kind hk h1 h2 fun h' hc hs => ?_
    obtain ⟨oc, h5, h6⟩ := id h2
    have hk' : ∀ b o, b ≠ c → s.heap.get? b = some o → h'.get? b = some o := fun b o hb e => (hs.2 b hb).trans e
    obtain ⟨oL, esL, epL, hL1, hL2, hL3⟩ := id hm
    have hLc : env.locals ≠ c := fun q => by rw [q, h5] at hL1; cases hL1; rw [hL2] at h6; cases h6
    refine hQ _ ⟨X.rel.junk (X.rel.none_fields h5 (by rw [h6]; intros; simp) (by rw [h6]; intros; simp)) (h4 ho) (.inl fun m hn => ns_not h5 (by rw [h6]; intros; simp) hn) hk' rfl rfl, ⟨X.fr.kind, X.fr.glb, X.fr.bui, ⟨m, ⟨oL, esL, epL, hk' _ _ hLc hL1, hL2, hL3⟩, fun y v' hy e hky => ?_⟩, X.fr.locP, X.fr.locM, fun n hn' => ?_, X.fr.apart⟩⟩
      (fun b o e _ hd => hk' b o (fun q => by rw [q, h5] at e; cases e; exact hd _ h6) e) (fun b _ o e hd => hk' b o (fun q => by rw [q, h5] at e; cases e; exact hd _ h6) e)
    · unfold upd at e
      split at e
      · rename_i q; subst q; rw [hk] at hky; cases hky
      · exact hmv y v' hy e hky
    · obtain ⟨c', ov', g1, g2, g3, g4⟩ := X.fr.cells n hn'
      by_cases hcc : c' = c
      · have hnn : n = Str.ofString x := X.fr.apart n _ c hn' (.inl hk) (hcc ▸ g1) h1
        subst hnn
        refine ⟨c, some r, h1, hc, fun y v' hy e => ?_, h4⟩
        unfold upd at e
        split at e
        · cases e; exact ⟨r, rfl, hv⟩
        · rename_i q; exact absurd (ofString_inj hy).symm q
      · obtain ⟨o, h7, h8⟩ := g2
        refine ⟨c', ov', g1, ⟨o, hk' _ _ hcc h7, h8⟩, fun y v' hy e => ?_, g4⟩
        unfold upd at e
        split at e
        · rename_i q; subst q; subst hy; rw [h1] at g1; cases g1; exact absurd rfl hcc
        · exact g3 y v' hy e
end
end MP

end
section

namespace MP
open PySem PyProof.Rows
section
variable {prog : Program} {w : World} {A : Around} {E : Value → Shared → Prop} {k : Nat}
variable {K : KK} {P : Prt} {own : Str → Bool} {env : PySem.Env} {σ : Env} {h : H} {s : Shared}

theorem add_two {l b : Nat} {items items2 : Array Value} {n n2 : Nat} {Q : Value → Shared → Prop} (ho : s.heap.get? l = some (listOb items n)) (ho2 : s.heap.get? b = some (listOb items2 n2)) (hsz : items.size + items2.size ≤ sizeLine)
    (h : Q (.ref s.heap.objs.size) { s with heap := s.heap.push (listOb (items ++ items2) 0) }) : wpAny (model prog w) A (binaryOp .Add (.ref l) (.ref b)) Q E s := by
  refine concat_meets ⟨_, ho, rfl⟩ ⟨_, ho2, rfl⟩ noFill_list_add seq_list_add PySem.F.slot_list_add PySem.F.entry_list_add (PySem.F.args_list_add_2 _ _) (list_addW l b items items2 n n2 none none #[] #[] hsz) ⟨ho, ho2, ?_⟩
  exact h

theorem mul_two {l : Nat} {items : Array Value} {n : Nat} {x : Int} {u : Tok} {Q : Value → Shared → Prop} (ho : s.heap.get? l = some (listOb items n)) (hlo : 0 ≤ x) (hhi : x ≤ 1000000) (hsz : items.size * x.toNat ≤ 1000000)
    (h : Q (.ref s.heap.objs.size) { s with heap := s.heap.push (listOb (List.replicate x.toNat items.toList).flatten.toArray 0) }) : wpAny (model prog w) A (binaryOp .Mult (.ref l) (.int x u)) Q E s := by
  refine wpAny_binaryOp_repeat_ref (T := "list") (U := "int") (by decide) ⟨_, ho, rfl⟩ (fun s' => typeIs_int s' x u) noFill_list_mul F.fills_int_mul F.slot_int_rmul repeat_list F.slot_int_index.lookup
    (call_meets F.slot_int_rmul (typeIs_int s x u) F.entry_int_rmul (F.args_int_rmul_2 _ _) (lm_int_rmul_list_any x u l items n none #[])
      ⟨ho, rfl, ⟨_, ho, rfl⟩, call_meets F.slot_list_mul ⟨_, ho, rfl⟩ F.entry_list_mul (F.args_list_mul_2 _ _)
        (lm_list_mul_any l items n none #[] x u (by simp [Builtin.List.listFitsIndex]; (first | lia | omega)) (by (first | lia | omega)) (by simp [Builtin.List.listTooLong, sizeLine]; (first | lia | omega)))
        ⟨ho, ?_⟩⟩)
  rw [listMul_foldl_if]
  exact h

theorem VRs.flat {vs : List V} {rs : List Value} (hv : VRs K vs rs) : ∀ k, VRs K (List.replicate k vs).flatten (List.replicate k rs).flatten
  | 0 => by simp; exact .nil
  | k + 1 => by simp only [List.replicate_succ, List.flatten_cons]; exact hv.append (hv.flat k)

theorem snd_binop {op : Op} {va vb : V} {ra rb : Value} {Q : V → H → Prop} (X : St K P own env σ h s) (ha : VR K va ra) (hb : VR K vb rb) (hq : binop op va vb h Q) :
    wpAny (model prog w) A (binaryOp (opOf op) ra rb) (EP K P own env σ Q) E s := by
  cases ha with
  | int i t =>
    cases hb <;> (try (cases op <;> exact hq.elim))
    rename_i j u
    cases op with
    | add => exact add_int ⟨_, _, .int _ _, X.grow (.tok s _), hq⟩
    | sub => exact sub_int ⟨_, _, .int _ _, X.grow (.tok s _), hq⟩
    | mul => exact mul_int ⟨_, _, .int _ _, X.grow (.tok s _), hq.2.2⟩ (.of_left (log2_small hq.1))
    | div =>
      refine floordiv_int (by have := hq.1; (first | lia | omega)) ⟨_, _, .int _ _, X.grow (.tok s _), ?_⟩ (.inl (PyProof.noPylong_small (by have := hq.1; have := hq.2.1; unfold lim at *; (first | lia | omega))))
      rw [Int.fdiv_eq_ediv_of_nonneg _ (by have := hq.1; (first | lia | omega))]; exact hq.2.2
    | mod =>
      refine mod_int (by have := hq.1; (first | lia | omega)) ⟨_, _, .int _ _, X.grow (.tok s _), ?_⟩
      rw [Int.fmod_eq_emod_of_nonneg _ (by have := hq.1; (first | lia | omega))]; exact hq.2
  | ref a =>
    cases hb <;> (try (cases op <;> exact hq.elim))
    · rename_i k t
      cases op <;> (try exact hq.elim)
      conv at hq => whnf
      cases q : h a with
      | none => simp only [q] at hq
      | some o =>
        cases o with
        | dict kvs => simp only [q] at hq
        | tup xs => simp only [q] at hq
        | list xs =>
          simp only [q] at hq
          obtain ⟨items, n, h1, h2, h3⟩ := X.rel.list q
          have e1 : items.size = xs.length := by rw [← Array.length_toList, h2.length]
          obtain ⟨hk0, hk1, hk2, hq⟩ := hq
          refine mul_two h1 hk0 (by unfold lim at hk1; (first | lia | omega)) (by rw [e1]; exact hk2) ?_
          obtain ⟨k1, k2⟩ := X.addPush (o := .list (List.replicate k.toNat xs).flatten) (ob := listOb (List.replicate k.toNat items.toList).flatten.toArray 0) (t := s.toks) (.list (by simpa using h2.flat k.toNat) (by simpa [Nat.mul_comm] using hk2))
          exact ⟨_, _, .ref _, k2, hq _ k1⟩
    rename_i b
    cases op <;> (try exact hq.elim)
    conv at hq => whnf
    cases q : h a with
    | none => simp only [q] at hq
    | some o =>
      cases o with
      | dict kvs => simp only [q] at hq
      | tup xs => simp only [q] at hq
      | list xs =>
        simp only [q] at hq
        cases q2 : h b with
        | none => simp only [q2] at hq
        | some o =>
          cases o with
          | dict kvs => simp only [q2] at hq
          | tup xs => simp only [q2] at hq
          | list ys =>
            simp only [q2] at hq
            obtain ⟨items, n, h1, h2, h3⟩ := X.rel.list q
            obtain ⟨items2, n2, g1, g2, g3⟩ := X.rel.list q2
            have e1 : items.size = xs.length := by rw [← Array.length_toList, h2.length]
            have e2 : items2.size = ys.length := by rw [← Array.length_toList, g2.length]
            refine add_two h1 g1 (by rw [e1, e2]; exact sizeLine_lim hq.1) ?_
            obtain ⟨k1, k2⟩ := X.addPush (o := .list (xs ++ ys)) (ob := listOb (items ++ items2) 0) (t := s.toks) (.list (by simpa using h2.append g2) (by simpa using hq.1))
            exact ⟨_, _, .ref _, k2, hq.2 _ k1⟩
  | _ => cases op <;> exact hq.elim

theorem ofL_list {va : V} {K : List V → Prop} (hq : ofL va h K) : ∃ a xs, va = .ref a ∧ h a = some (.list xs) ∧ K xs := by
  cases va <;> (try exact hq.elim)
  rename_i a
  conv at hq => whnf
  cases q : h a with
  | none => simp only [q] at hq
  | some o =>
    cases o with
    | dict kvs => simp only [q] at hq
    | tup xs => simp only [q] at hq
    | list xs => simp only [q] at hq; exact ⟨_, _, rfl, q, hq⟩
theorem natI_int {v : V} {K : Nat → Prop} (hq : natI v K) : ∃ k : Nat, v = .int k ∧ K k := by
  cases v <;> (try exact hq.elim)
  rename_i i
  exact ⟨i.toNat, by rw [Int.toNat_of_nonneg hq.1], hq.2⟩
theorem VRs.take {vs : List V} {rs : List Value} (hv : VRs K vs rs) : ∀ k, VRs K (vs.take k) (rs.take k) := by
  induction hv with
  | nil => intro k; simp; exact .nil
  | cons a _ ih =>
    intro k
    cases k with
    | zero => exact .nil
    | succ k => exact .cons a (ih k)
theorem VRs.drop {vs : List V} {rs : List Value} (hv : VRs K vs rs) : ∀ k, VRs K (vs.drop k) (rs.drop k) := by
  induction hv with
  | nil => intro k; simp; exact .nil
  | cons a r ih =>
    intro k
    cases k with
    | zero => exact .cons a r
    | succ k => exact ih k
end
end MP

end
section
/-! What a loop goes over. -/
namespace MP
open PySem PyProof.Rows

noncomputable def rngL (x d : Int) : Nat → List V
  | 0 => []
  | n + 1 => .int x :: rngL (x + d) d n
theorem rngL_length (d : Int) : ∀ (n : Nat) (x : Int), (rngL x d n).length = n
  | 0, _ => rfl
  | n + 1, x => by simp [rngL, rngL_length d n]
theorem rngL_get (d : Int) : ∀ (n : Nat) (x : Int) (i : Nat), i < n → (rngL x d n)[i]? = some (.int (x + d * (i : Int)))
  | 0, _, _, h => absurd h (Nat.not_lt_zero _)
  | n + 1, x, 0, _ => by simp [rngL]
  | n + 1, x, i + 1, h => by
    simp only [rngL, List.getElem?_cons_succ]
    rw [rngL_get d n (x + d) i (by (first | lia | omega))]
    congr 2
    push_cast
    rw [Int.mul_add]; (first | lia | omega)
theorem upTo_rngL (a b : Int) : (upTo a b).map V.int = rngL a 1 (b - a).toNat := by
  apply List.ext_getElem?
  intro i
  by_cases hi : i < (b - a).toNat
  · rw [rngL_get _ _ _ _ hi]
    simp [upTo, hi]
  · rw [List.getElem?_eq_none (by simp [upTo]; (first | lia | omega)), List.getElem?_eq_none (by rw [rngL_length]; (first | lia | omega))]
/-- the iterator at I stands ahead of rest -/
noncomputable def ItAt (I : Nat) (k : Option (Nat × List V)) (rest : List V) (s : Shared) : Prop :=
  match k with
  | some (a, xs) => ∃ i, s.heap.IsListIter I a i ∧ rest = xs.drop i
  | Option.none => ∃ x d n, IsRangeIter s.heap I x (n : Nat) d ∧ rest = rngL x d n

theorem ItAt.at {I : Nat} {k : Option (Nat × List V)} {rest : List V} {s s' : Shared} (h : ItAt I k rest s) (e : ∀ o, s.heap.get? I = some o → s'.heap.get? I = some o) : ItAt I k rest s' := by
  cases k with
  | some p =>
    obtain ⟨i, h1, h2⟩ := h
    exact ⟨i, h1.at e, h2⟩
  | none =>
    obtain ⟨x, d, n, h1, h2⟩ := h
    exact ⟨x, d, n, e _ h1, h2⟩
theorem ItAt.ob {I : Nat} {k : Option (Nat × List V)} {rest : List V} {s : Shared} (h : ItAt I k rest s) : ∃ ob, s.heap.get? I = some ob ∧ ∃ fs, ob.data = .fields fs := by
  cases k with
  | some p =>
    obtain ⟨i, ⟨o, h1, _, h3⟩, _⟩ := h
    exact ⟨o, h1, _, h3⟩
  | none =>
    obtain ⟨x, d, n, h1, _⟩ := h
    exact ⟨_, h1, _, rfl⟩

section
variable {prog : Program} {w : World} {A : Around} {E : Value → Shared → Prop} {k : Nat}
variable {K : KK} {P : Prt} {own : Str → Bool} {env : PySem.Env} {σ : Env} {h : H} {s : Shared}

theorem iter_self {I : Nat} {kp : Option (Nat × List V)} {rest : List V} {Q : Value → Shared → Prop} (hI : ItAt I kp rest s) (hQ : Q (.ref I) s) : wpAny (model prog w) A (pyIter (.ref I)) Q E s := by
  cases kp with
  | some p =>
    obtain ⟨i, h1, _⟩ := hI
    exact wpAny_pyIter_listiter h1 hQ
  | none =>
    obtain ⟨x, d, n, h1, _⟩ := hI
    have hT : s.TypeIs (.ref I) "range_iterator" := ⟨_, h1, rfl⟩
    refine wpAny_pyIter_slot hT F.slot_range_iterator_iter (wpAny_call_entry F.slot_range_iterator_iter hT F.entry_range_iterator_iter ?_ (F.args_range_iterator_iter_1 _))
    exact wpAny_pure ⟨_, rfl, "range_iterator", _, hT, F.slot_range_iterator_next.lookup, hQ⟩

theorem iter_item {I : Nat} {kp : Option (Nat × List V)} {v : V} {rest : List V} {Q : Option Value → Shared → Prop} (R : Rel K P h s) (hs : stays kp h) (hI : ItAt I kp (v :: rest) s)
    (hQ : ∀ rv s', VR K v rv → ItAt I kp rest s' → (∀ b, b ≠ I → s'.heap.get? b = s.heap.get? b) → s'.os = s.os → s'.gens = s.gens → Q (some rv) s') : wpAny (model prog w) A (pyNext (.ref I)) Q E s := by
  cases kp with
  | some p =>
    obtain ⟨a, xs⟩ := p
    obtain ⟨i, h1, h2⟩ := hI
    obtain ⟨items, n, g1, g2, g3⟩ := R.list hs
    have e1 : xs[i]? = some v := by
      have := congrArg (fun l => l[0]?) h2
      simp at this
      exact this.symm
    obtain ⟨rv, e2, e3⟩ := g2.get e1
    refine wpAny_pyNext_list_item h1 ⟨_, g1, rfl, _, rfl⟩ (by rw [← Array.getElem?_toList]; exact e2) fun h' j1 j2 => ?_
    refine hQ rv _ e3 ⟨i + 1, j1, ?_⟩ j2.2 rfl rfl
    have := congrArg List.tail h2
    simpa using this
  | none =>
    obtain ⟨x, d, n, h1, h2⟩ := hI
    cases n with
    | zero => simp [rngL] at h2
    | succ n =>
      simp only [rngL, List.cons.injEq] at h2
      obtain ⟨rfl, rfl⟩ := h2
      refine wpAny_pyNext_range_item h1 (by (first | lia | omega)) fun h' j1 j2 => ?_
      refine hQ _ _ (.int _ _) ⟨x + d, d, n, ?_, rfl⟩ j2.2 rfl rfl
      rw [show ((n + 1 : Nat) : Int) - 1 = (n : Nat) by (first | lia | omega)] at j1
      exact j1

theorem iter_end {I : Nat} {kp : Option (Nat × List V)} {Q : Option Value → Shared → Prop} (hh : A.handled = none) (R : Rel K P h s) (hs : stays kp h) (hI : ItAt I kp [] s)
    (hQ : ∀ s', (∀ b o, b ≠ I → s.heap.get? b = some o → s'.heap.get? b = some o) → s'.os = s.os → s'.gens = s.gens → Q none s') : wpAny (model prog w) A (pyNext (.ref I)) Q E s := by
  cases kp with
  | some p =>
    obtain ⟨a, xs⟩ := p
    obtain ⟨i, h1, h2⟩ := hI
    obtain ⟨items, n, g1, g2, g3⟩ := R.list hs
    have e1 : xs.length ≤ i := by
      have := congrArg List.length h2
      simp at this; (first | lia | omega)
    refine wpAny_pyNext_list_end hh h1 ⟨_, g1, rfl, _, rfl⟩ (by rw [← Array.getElem?_toList]; exact g2.get_none (List.getElem?_eq_none e1)) fun h' j => hQ _ (fun b o hb e => j b o hb e) rfl rfl
  | none =>
    obtain ⟨x, d, n, h1, h2⟩ := hI
    cases n with
    | succ n => simp [rngL] at h2
    | zero => exact wpAny_pyNext_range_end hh h1 (by (first | lia | omega)) fun h' j => hQ _ (fun b o hb e => j b o hb e) rfl rfl

/-- the value r of a for's head stands for these items -/
noncomputable def SrcV (prog : Program) (w : World) (A : Around) (r : Value) (xs : List V) (kp : Option (Nat × List V)) (s : Shared) : Prop :=
  ∀ (E : Value → Shared → Prop) (Q : Value → Shared → Prop), (∀ I s', Grown s s' → s.heap.get? I = none → ItAt I kp xs s' → Q (.ref I) s') → wpAny (model prog w) A (pyIter r) Q E s

theorem srcV_list {a : Nat} {xs : List V} (R : Rel K P h s) (e : h a = some (.list xs)) : SrcV prog w A (.ref a) xs (some (a, xs)) s := fun E Q hQ => by
  obtain ⟨items, n, g1, g2, g3⟩ := R.list e
  exact wpAny_pyIter_list ⟨_, g1, rfl, _, rfl⟩ (hQ _ _ (.push' s _) (fresh_none _) ⟨0, ⟨_, Heap.get?_push_size _ rfl, rfl, rfl⟩, rfl⟩)

theorem srcV_range {r : Nat} {a b c : Int} {t u v : Tok} {n : Nat} (hr : IsRange s.heap r a b c t u v) (hs : Builtin.Range.small a b c = true) (hn : Builtin.Range.rangeSize a b c = (n : Nat)) :
    SrcV prog w A (.ref r) (rngL a c n) Option.none s := fun E Q hQ => by
  refine wpAny_pyIter_range hr hs (hQ _ _ (.push' s _) (fresh_none _) ⟨a, c, n, ?_, rfl⟩)
  rw [← hn]
  exact Heap.get?_push_size _ rfl

theorem small_up {a b : Int} (ha : inLim a) (hb : inLim b) : Builtin.Range.small a b 1 = true ∧ Builtin.Range.rangeSize a b 1 = ((b - a).toNat : Nat) := by
  unfold inLim at ha hb
  refine ⟨small_one (by (first | lia | omega)) (by (first | lia | omega)) (by (first | lia | omega)) (by (first | lia | omega)), ?_⟩
  rw [rangeSize_one]; split <;> (first | lia | omega)
end
end MP

end
section
/-! The frame of a comprehension. -/
namespace MP
open PySem PyProof.Rows

noncomputable def isCFb (k : Option NameKind) : Bool := match k with | some .cell => true | some .free => true | _ => false
theorem isCF_of {k : Option NameKind} (h : isCFb k = true) : isCF k := by
  cases k with
  | none => cases h
  | some k => cases k <;> first | exact .inl rfl | exact .inr rfl | cases h

/-- a comprehension's table under its block's -/
noncomputable def compSc (outer csc : Scope) : Scope :=
  { csc with names := csc.names.map fun (n, k) => if (k == .free && outer.kind == .function && outer.names.lookup n == some .cell) then (n, .cell) else (n, k) }
noncomputable def scOk (outer csc : Scope) (xs : List String) : Bool :=
  csc.kind == .function && csc.names.all (fun p => csc.names.lookup p.1 == some p.2) &&
  csc.names.all fun p => match p.2 with
    | .free => isCFb (outer.names.lookup p.1)
    | .local => p.1 == Str.ofString ".0" || xs.any fun x => Str.ofString x == p.1
    | .cell => xs.any fun x => Str.ofString x == p.1
    | _ => true
noncomputable def compOwn (csc : Scope) (n : Str) : Bool := match csc.names.lookup n with | some .local => true | some .cell => true | _ => false

theorem lookup_mem {α : Type} : ∀ {l : List (Str × α)} {n : Str} {c : α}, l.lookup n = some c → (n, c) ∈ l := mem_of_lookup

theorem lookup_map (f : Str → NameKind → NameKind) : ∀ (names : List (Str × NameKind)) (n : Str), (names.map fun p => (p.1, f p.1 p.2)).lookup n = (names.lookup n).map (f n)
  | [], _ => rfl
  | (m, k) :: r, n => by
    simp only [List.map_cons, List.lookup_cons]
    cases q : n == m with
    | true => simp; rw [beq_iff_eq.mp q]
    | false => exact lookup_map f r n

theorem compSc_lookup (outer csc : Scope) (n : Str) : (compSc outer csc).names.lookup n = (csc.names.lookup n).map fun k => if (k == .free && outer.kind == .function && outer.names.lookup n == some .cell) then .cell else k := by
  have : (compSc outer csc).names = csc.names.map fun p => (p.1, (fun m k => if (k == NameKind.free && outer.kind == .function && outer.names.lookup m == some .cell) then .cell else k) p.1 p.2) := by
    unfold compSc
    apply List.map_congr_left
    intro p _
    obtain ⟨m, k⟩ := p
    dsimp only
    split <;> rfl
  rw [this]
  exact lookup_map (fun m k => if (k == NameKind.free && outer.kind == .function && outer.names.lookup m == some .cell) then .cell else k) csc.names n

theorem compSc_cf {outer csc : Scope} {n : Str} (h : isCF ((compSc outer csc).names.lookup n)) : csc.names.lookup n = some .cell ∨ csc.names.lookup n = some .free := by
  rw [compSc_lookup] at h
  cases q : csc.names.lookup n with
  | none => rw [q] at h; rcases h with h | h <;> cases h
  | some k =>
    rw [q] at h
    cases k <;> first | exact .inl rfl | exact .inr rfl | (rcases h with h | h <;> simp at h)
theorem compSc_local {outer csc : Scope} {n : Str} (h : (compSc outer csc).names.lookup n = some .local) : csc.names.lookup n = some .local := by
  rw [compSc_lookup] at h
  cases q : csc.names.lookup n with
  | none => rw [q] at h; cases h
  | some k => rw [q] at h; cases k <;> first | rfl | (simp at h; done) | (simp at h; split at h <;> cases h)

section
variable {outer csc : Scope} {xs : List String}
theorem scOk.kind (h : scOk outer csc xs = true) : csc.kind = .function := by
  simp only [scOk, Bool.and_eq_true] at h; exact beq_iff_eq.mp h.1.1
theorem scOk.same (h : scOk outer csc xs = true) : ∀ p ∈ csc.names, csc.names.lookup p.1 = some p.2 := by
  simp only [scOk, Bool.and_eq_true, List.all_eq_true] at h
  intro p hp; exact beq_iff_eq.mp (h.1.2 p hp)
theorem scOk.free (h : scOk outer csc xs = true) {n : Str} (hn : csc.names.lookup n = some .free) : isCF (outer.names.lookup n) := by
  simp only [scOk, Bool.and_eq_true, List.all_eq_true] at h
  exact isCF_of (h.2 _ (lookup_mem hn))
theorem scOk.mine (h : scOk outer csc xs = true) {x : String} (hx : x ≠ ".0") (hn : csc.names.lookup (Str.ofString x) = some .local ∨ csc.names.lookup (Str.ofString x) = some .cell) : x ∈ xs := by
  simp only [scOk, Bool.and_eq_true, List.all_eq_true] at h
  have key : (xs.any fun y => Str.ofString y == Str.ofString x) = true → x ∈ xs := fun q => by
    obtain ⟨y, hy, e⟩ := List.any_eq_true.mp q
    rw [ofString_inj (beq_iff_eq.mp e)] at hy; exact hy
  rcases hn with hn | hn
  · have := h.2 _ (lookup_mem hn)
    simp only [Bool.or_eq_true] at this
    rcases this with this | this
    · exact absurd (ofString_inj (beq_iff_eq.mp this)) hx
    · exact key this
  · exact key (h.2 _ (lookup_mem hn))
end

/-- what a comprehension catches of its block -/
noncomputable def clOf (f : Str → Option PySem.Addr) : List (Str × NameKind) → List (Str × PySem.Addr) → List (Str × PySem.Addr)
  | [], acc => acc
  | (n, k) :: r, acc => clOf f r (if k == .free then (n, (f n).getD 0) :: acc else acc)

theorem clOf_free (f : Str → Option PySem.Addr) (n : Str) (c : PySem.Addr) (hf : f n = some c) : ∀ (names : List (Str × NameKind)) (acc : List (Str × PySem.Addr)), ((n, .free) ∈ names ∨ acc.lookup n = some c) → (clOf f names acc).lookup n = some c
  | [], acc, h => by
    rcases h with h | h
    · cases h
    · exact h
  | (m, k) :: r, acc, h => by
    unfold clOf
    refine clOf_free f n c hf r _ ?_
    rcases h with h | h
    · rcases List.mem_cons.mp h with e | h
      · cases e; right; simp [hf]
      · exact .inl h
    · right
      split
      · rw [List.lookup_cons]
        cases q2 : n == m with
        | true => rw [← beq_iff_eq.mp q2, hf]; rfl
        | false => exact h
      · exact h

theorem closure_loop {env : PySem.Env} (f : Str × NameKind → List (Str × PySem.Addr) → Sem (ForInStep (List (Str × PySem.Addr))))
    (hf : ∀ name kind cs, f (name, kind) cs = if kind == .free then (do let a ← cellOf env name; pure (.yield ((name, a) :: cs))) else pure (.yield cs)) :
    ∀ (names : List (Str × NameKind)) (acc : List (Str × PySem.Addr)), (∀ n, (n, NameKind.free) ∈ names → ∃ c, env.cells.lookup n = some c) → forIn names acc f = pure (clOf (fun n => env.cells.lookup n) names acc)
  | [], _, _ => rfl
  | (m, k) :: r, acc, h => by
    rw [List.forIn_cons, hf]
    unfold clOf
    split
    · rename_i q
      obtain ⟨c, hc⟩ := h m (by rw [beq_iff_eq.mp q]; exact List.mem_cons_self)
      have : cellOf env m = pure c := by unfold cellOf; rw [hc]
      rw [this]
      simp only [pure_bind]
      rw [hc]
      exact closure_loop f hf r _ fun n hn => h n (List.mem_cons_of_mem _ hn)
    · simp only [pure_bind]
      exact closure_loop f hf r _ fun n hn => h n (List.mem_cons_of_mem _ hn)
theorem closureFor_eq {env : PySem.Env} {csc : Scope} (h : ∀ n, (n, NameKind.free) ∈ csc.names → ∃ c, env.cells.lookup n = some c) : closureFor csc env = pure (clOf (fun n => env.cells.lookup n) csc.names []) := by
  unfold closureFor
  show (forIn csc.names [] _ >>= fun cs => pure cs) = _
  rw [closure_loop _ (fun name kind cs => by cases q : kind == NameKind.free <;> simp [q]) csc.names [] h]
  rfl

theorem cellsFrom_keep (x : Str) : ∀ (names : List (Str × NameKind)) (n0 : Nat) (acc : List (Str × PySem.Addr)), (∀ p ∈ names, p.1 = x → p.2 ≠ .cell) → (cellsFrom n0 names acc).lookup x = acc.lookup x
  | [], _, _, _ => rfl
  | (m, k) :: r, n0, acc, h => by
    unfold cellsFrom
    have hr : ∀ p ∈ r, p.1 = x → p.2 ≠ .cell := fun p hp => h p (List.mem_cons_of_mem _ hp)
    split
    · rename_i q
      rw [cellsFrom_keep x r _ _ hr]
      have : (x == m) = false := by
        cases q2 : x == m with
        | false => rfl
        | true => exact absurd (beq_iff_eq.mp q) (h (m, k) List.mem_cons_self (beq_iff_eq.mp q2).symm)
      rw [List.lookup_cons, this]
    · exact cellsFrom_keep x r _ _ hr
theorem cellsFrom_new (x : Str) (lo : Nat) : ∀ (names : List (Str × NameKind)) (n0 : Nat) (acc : List (Str × PySem.Addr)), lo ≤ n0 → ((x, .cell) ∈ names ∨ ∃ c, acc.lookup x = some c ∧ lo ≤ c) → ∃ c, (cellsFrom n0 names acc).lookup x = some c ∧ lo ≤ c
  | [], _, _, _, h => by
    rcases h with h | h
    · cases h
    · exact h
  | (m, k) :: r, n0, acc, hlo, h => by
    unfold cellsFrom
    split
    · rename_i q
      refine cellsFrom_new x lo r _ _ (by (first | lia | omega)) ?_
      cases q2 : x == m with
      | true => right; exact ⟨n0, by rw [List.lookup_cons, q2], hlo⟩
      | false =>
        rcases h with h | h
        · rcases List.mem_cons.mp h with e | h
          · cases e; simp at q2
          · exact .inl h
        · right; rw [List.lookup_cons, q2]; exact h
    · rename_i q
      refine cellsFrom_new x lo r _ _ hlo ?_
      rcases h with h | h
      · rcases List.mem_cons.mp h with e | h
        · cases e; simp at q
        · exact .inl h
      · exact .inr h
theorem cellsFrom_inj : ∀ (names : List (Str × NameKind)) (n0 : Nat) (acc : List (Str × PySem.Addr)), (∀ p ∈ acc, p.2 < n0) → ∀ p ∈ cellsFrom n0 names acc, ∀ q ∈ cellsFrom n0 names acc, p.2 = q.2 → p = q ∨ (p ∈ acc ∧ q ∈ acc)
  | [], _, _, _, _, hp, _, hq, _ => .inr ⟨hp, hq⟩
  | (m, k) :: r, n0, acc, hacc, p, hp, q, hq, e => by
    unfold cellsFrom at hp hq
    split at hp
    · rename_i hk
      rw [if_pos hk] at hq
      have h' : ∀ p ∈ (m, n0) :: acc, p.2 < n0 + 1 := fun p hp => by
        rcases List.mem_cons.mp hp with rfl | hp
        · exact Nat.lt_succ_self _
        · exact Nat.lt_succ_of_lt (hacc p hp)
      rcases cellsFrom_inj r _ _ h' p hp q hq e with h1 | ⟨h1, h2⟩
      · exact .inl h1
      · rcases List.mem_cons.mp h1 with rfl | h1 <;> rcases List.mem_cons.mp h2 with rfl | h2
        · exact .inl rfl
        · exact absurd (e ▸ hacc q h2) (Nat.lt_irrefl _)
        · exact absurd (e ▸ hacc p h1) (Nat.lt_irrefl _)
        · exact .inr ⟨h1, h2⟩
    · rename_i hk
      rw [if_neg hk] at hq
      exact cellsFrom_inj r _ _ hacc p hp q hq e
theorem cellsFrom_cell : ∀ (names : List (Str × NameKind)) (hp : Heap) (acc : List (Str × PySem.Addr)), ∀ p ∈ cellsFrom hp.objs.size names acc, p ∈ acc ∨ (pushCells hp names).IsCell p.2 none
  | [], _, _, _, hp => .inl hp
  | (m, k) :: r, hp, acc, p, hm => by
    unfold cellsFrom at hm
    unfold pushCells
    split at hm
    · rename_i hk
      rw [if_pos hk]
      have hsz : (hp.push { cls := .type "cell", data := .cell none }).objs.size = hp.objs.size + 1 := Heap.size_push ..
      rw [← hsz] at hm
      rcases cellsFrom_cell r _ _ p hm with h1 | h1
      · rcases List.mem_cons.mp h1 with rfl | h1
        · right
          exact ⟨_, pushCells_keeps _ _ _ _ (Heap.get?_push_size _ rfl), rfl⟩
        · exact .inl h1
      · exact .inr h1
    · rename_i hk
      rw [if_neg hk]
      exact cellsFrom_cell r hp acc p hm

/-- the names of a comprehension are not yet bound -/
noncomputable def clr (σ : Env) (xs : List String) : Env := fun y => if y ∈ xs then Option.none else σ y

section
variable {M : Model} {A : Around} {E : Value → Shared → Prop} {s : Shared}

theorem newEnv_comp {csc : Scope} {globals : PySem.Addr} {cl : List (Str × PySem.Addr)} {qual : Str} {env : PySem.Env} {Q : PySem.Env → Shared → Prop}
    (hQ : Q { scope := csc, locals := s.heap.objs.size, globals, cells := cellsFrom (s.heap.objs.size + 1) csc.names cl, qual, func := none, code := env.code, frame := env.frame, builtins := env.builtins }
      { s with heap := pushCells (s.heap.push { cls := .type "dict", data := .dict #[] }) csc.names }) :
    wpAny M A (newFunctionEnv csc globals cl [] qual none .none (some env)) Q E s := by
  simp only [newFunctionEnv, Option.isSome_some, if_true]
  refine wpAny_bind (wpAny_alloc ?_)
  refine wpAny_bind (wpAny_layCells _ (fun name kind cells => by cases hkc : kind == NameKind.cell <;> simp [hkc]) _ _ _ _ ?_)
  rw [show ({ s with heap := s.heap.push { cls := .type "dict", data := .dict #[] } } : Shared).heap.objs.size = s.heap.objs.size + 1 from Heap.size_push ..]
  simp only [List.forIn_nil]
  exact wpAny_bind (wpAny_pure (wpAny_pure hQ))
end

section
variable {K : KK} {P : Prt} {own : Str → Bool} {env : PySem.Env} {σ : Env} {h : H} {s s₁ : Shared}

noncomputable abbrev compEnv (env : PySem.Env) (csc : Scope) (L : Nat) : PySem.Env :=
  { scope := compSc env.scope csc, locals := L, globals := env.globals, cells := cellsFrom (L + 1) csc.names (clOf (fun n => env.cells.lookup n) csc.names []), qual := env.qual, func := none, code := env.code, frame := env.frame, builtins := env.builtins }
noncomputable abbrev compHeap (hp : Heap) (csc : Scope) : Heap := pushCells (hp.push { cls := .type "dict", data := .dict #[] }) csc.names

theorem clOf_mem (f : Str → Option PySem.Addr) : ∀ (names : List (Str × NameKind)) (acc : List (Str × PySem.Addr)), ∀ p ∈ clOf f names acc, p ∈ acc ∨ ((p.1, .free) ∈ names ∧ p.2 = (f p.1).getD 0)
  | [], _, _, h => .inl h
  | (m, k) :: r, acc, p, h => by
    unfold clOf at h
    rcases clOf_mem f r _ p h with h1 | ⟨h1, h2⟩
    · split at h1
      · rename_i q
        rcases List.mem_cons.mp h1 with rfl | h1
        · right; exact ⟨by rw [beq_iff_eq.mp q]; exact List.mem_cons_self, rfl⟩
        · exact .inl h1
      · exact .inl h1
    · exact .inr ⟨List.mem_cons_of_mem _ h1, h2⟩

theorem comp_frees (X : St K P own env σ h s) {csc : Scope} {xs : List String} (hsc : scOk env.scope csc xs = true) : ∀ n, (n, NameKind.free) ∈ csc.names → ∃ c, env.cells.lookup n = some c := fun n hn => by
  obtain ⟨c, _, h1, _⟩ := X.fr.cells n (scOk.free hsc (scOk.same hsc _ hn))
  exact ⟨c, h1⟩

theorem comp_frame (X : St K P own env σ h s) {csc : Scope} {xs : List String} (hsc : scOk env.scope csc xs = true) (g : Grown s s₁) :
    St K (prtOf h s) (compOwn csc) (compEnv env csc s₁.heap.objs.size) (clr σ xs) h { s₁ with heap := compHeap s₁.heap csc } ∧ Grown s₁ { s₁ with heap := compHeap s₁.heap csc } := by
  have g2 : Grown s₁ { s₁ with heap := compHeap s₁.heap csc } := .of' fun b o e => pushCells_keeps _ _ _ _ (Heap.get?_push_of_some _ e)
  have sz : ∀ b, s₁.heap.objs.size ≤ b → s.heap.get? b = none := fun b hb => by
    cases q : s.heap.get? b with
    | none => rfl
    | some o => exact absurd (Heap.lt_size (g.heap _ _ q)) (Nat.not_lt.mpr hb)
  have hL := sz _ (Nat.le_refl _)
  have hsize : (s₁.heap.push { cls := .type "dict", data := .dict #[] }).objs.size = s₁.heap.objs.size + 1 := Heap.size_push ..
  have hacc : ∀ p ∈ clOf (fun n => env.cells.lookup n) csc.names [], p.2 < s₁.heap.objs.size + 1 := fun p hp => by
    rcases clOf_mem _ _ _ p hp with h1 | ⟨h1, h2⟩
    · cases h1
    · obtain ⟨c, ov, h3, h4, _⟩ := X.fr.cells p.1 (scOk.free hsc (scOk.same hsc _ h1))
      rw [h2, h3]
      have := (h4.keeps g.heap).lt
      exact Nat.lt_succ_of_lt this
  have fr : ∀ n, csc.names.lookup n = some .free → ∃ c ov, (cellsFrom (s₁.heap.objs.size + 1) csc.names (clOf (fun n => env.cells.lookup n) csc.names [])).lookup n = some c ∧ env.cells.lookup n = some c ∧ s.heap.IsCell c ov ∧
      (∀ (x : String) v, n = Str.ofString x → σ x = some v → ∃ rv, ov = some rv ∧ VR K v rv) ∧ c < s₁.heap.objs.size := fun n hn => by
    obtain ⟨c, ov, h1, h2, h3, _⟩ := X.fr.cells n (scOk.free hsc hn)
    refine ⟨c, ov, ?_, h1, h2, h3, (h2.keeps g.heap).lt⟩
    rw [cellsFrom_keep n _ _ _ fun p hp e q => by
      have := scOk.same hsc p hp
      rw [e, hn, q] at this; cases this]
    exact clOf_free _ n c h1 _ _ (.inl (lookup_mem hn))
  have nw : ∀ n, csc.names.lookup n = some .cell → ∃ c, (cellsFrom (s₁.heap.objs.size + 1) csc.names (clOf (fun n => env.cells.lookup n) csc.names [])).lookup n = some c ∧ s₁.heap.objs.size + 1 ≤ c ∧ (compHeap s₁.heap csc).IsCell c none := fun n hn => by
    obtain ⟨c, h1, h2⟩ := cellsFrom_new n (s₁.heap.objs.size + 1) csc.names _ (clOf (fun n => env.cells.lookup n) csc.names []) (Nat.le_refl _) (.inl (lookup_mem hn))
    refine ⟨c, h1, h2, ?_⟩
    rw [← hsize] at h1
    rcases cellsFrom_cell _ _ _ _ (lookup_mem h1) with h3 | h3
    · exact absurd (Nat.lt_of_lt_of_le (hacc _ h3) h2) (Nat.lt_irrefl _)
    · exact h3
  refine ⟨⟨(X.rel.enter.grow g).grow g2, ⟨show csc.kind = _ from scOk.kind hsc, X.fr.glb, X.fr.bui, ⟨fun _ => none, ?_, fun x v hx e hk => ?_⟩, prtOf_none hL, fun o e => ?_, fun n hn => ?_, fun n n' c hn hn' e e' => ?_⟩⟩, g2⟩
  · exact (Heap.Ns.new s₁.heap (.type "dict")).keeps (pushCells_keeps _ _)
  · have := scOk.mine hsc hx (.inl (compSc_local hk))
    unfold clr at e; rw [if_pos this] at e; cases e
  · rw [X.rel.none_of hL] at e; cases e
  · rcases compSc_cf hn with hc | hc
    · obtain ⟨c, h1, h2, h3⟩ := nw n hc
      refine ⟨c, none, h1, h3, fun x v hx e => ?_, fun _ => prtOf_none (sz c (Nat.le_of_succ_le h2))⟩
      subst hx
      have hx0 : x ∈ xs := by
        have h4 := (scOk.same hsc _ (lookup_mem hc))
        simp only [scOk, Bool.and_eq_true, List.all_eq_true] at hsc
        have := hsc.2 _ (lookup_mem hc)
        obtain ⟨y, hy, e⟩ := List.any_eq_true.mp this
        rw [ofString_inj (beq_iff_eq.mp e)] at hy; exact hy
      unfold clr at e; rw [if_pos hx0] at e; cases e
    · obtain ⟨c, ov, h1, h2, h3, h4, h5⟩ := fr n hc
      refine ⟨c, ov, h1, (h3.keeps g.heap).keeps g2.heap, fun x v hx e => ?_, fun ho => ?_⟩
      · unfold clr at e
        split at e
        · cases e
        · exact h4 x v hx e
      · unfold compOwn at ho; rw [hc] at ho; cases ho
  · rcases compSc_cf hn with hc | hc <;> rcases compSc_cf hn' with hc' | hc'
    · rcases cellsFrom_inj _ _ _ hacc _ (lookup_mem e) _ (lookup_mem e') rfl with q | ⟨q, _⟩
      · exact congrArg Prod.fst q
      · obtain ⟨c2, h1, h2, _⟩ := nw n hc
        have e2 : (cellsFrom (s₁.heap.objs.size + 1) csc.names (clOf (fun n => env.cells.lookup n) csc.names [])).lookup n = some c := e
        rw [e2] at h1; cases h1
        exact absurd (Nat.lt_of_lt_of_le (hacc _ q) h2) (Nat.lt_irrefl _)
    · obtain ⟨c2, h1, h2, _⟩ := nw n hc
      obtain ⟨c3, _, h3, _, _, _, h4⟩ := fr n' hc'
      have e2 : (cellsFrom (s₁.heap.objs.size + 1) csc.names (clOf (fun n => env.cells.lookup n) csc.names [])).lookup n = some c := e
      have e3 : (cellsFrom (s₁.heap.objs.size + 1) csc.names (clOf (fun n => env.cells.lookup n) csc.names [])).lookup n' = some c := e'
      rw [e2] at h1; cases h1; rw [e3] at h3; cases h3; exact absurd (Nat.lt_of_lt_of_le h4 (Nat.le_of_succ_le h2)) (Nat.lt_irrefl _)
    · obtain ⟨c2, h1, h2, _⟩ := nw n' hc'
      obtain ⟨c3, _, h3, _, _, _, h4⟩ := fr n hc
      have e2 : (cellsFrom (s₁.heap.objs.size + 1) csc.names (clOf (fun n => env.cells.lookup n) csc.names [])).lookup n = some c := e
      have e3 : (cellsFrom (s₁.heap.objs.size + 1) csc.names (clOf (fun n => env.cells.lookup n) csc.names [])).lookup n' = some c := e'
      rw [e3] at h1; cases h1; rw [e2] at h3; cases h3; exact absurd (Nat.lt_of_lt_of_le h4 (Nat.le_of_succ_le h2)) (Nat.lt_irrefl _)
    · obtain ⟨c2, _, h1, h2, _⟩ := fr n hc
      obtain ⟨c3, _, h3, h4, _⟩ := fr n' hc'
      have e2 : (cellsFrom (s₁.heap.objs.size + 1) csc.names (clOf (fun n => env.cells.lookup n) csc.names [])).lookup n = some c := e
      have e3 : (cellsFrom (s₁.heap.objs.size + 1) csc.names (clOf (fun n => env.cells.lookup n) csc.names [])).lookup n' = some c := e'
      rw [e2] at h1; cases h1; rw [e3] at h3; cases h3
      exact X.fr.apart n n' _ (scOk.free hsc hc) (scOk.free hsc hc') h2 h4
end
end MP

end
section
/-! The tie between the small language and the program's own trees: a look that says yes or no. -/
namespace MP
open PySem PyProof.Rows

noncomputable def varOk (sc : Scope) (x : String) (id : Str) : Bool :=
  id == Str.ofString x && x != ".0" && (match sc.names.lookup id with | some .local => true | some .cell => true | some .free => true | _ => false) && !(id == Str.ofString "__debug__") && !(id == Str.ofString "__classdict__")
noncomputable def globOk (sc : Scope) (x : String) (id : Str) : Bool :=
  id == Str.ofString x && sc.names.lookup id == some .globalImplicit && !(id == Str.ofString "__debug__")
noncomputable def tgNames : Tg → List String
  | .name x => [x]
noncomputable def chkNm (sc : Scope) (own : Str → Bool) (x : String) (e : Expr) : Bool := e.ctorIdx == 23 && (match e with
  | .Name id _ => id == Str.ofString x && x != ".0" && (match sc.names.lookup id with | some .local => true | some .cell => own id | _ => false)
  | _ => false)
noncomputable def chkTg (sc : Scope) (own : Str → Bool) (t : Tg) (e : Expr) : Bool :=
  match t with
  | .name x => chkNm sc own x e
noncomputable def notSlice : Expr → Bool
  | .Slice .. => false
  | _ => true
noncomputable def notSet : Expr → Bool
  | .Set .. => false
  | _ => true
noncomputable def notStar : Expr → Bool
  | .Starred .. => false
  | _ => true

noncomputable def oneB {α : Type} (l : List α) (f : α → Bool) : Bool := match l with
  | [o] => f o
  | _ => false
noncomputable def twoB {α : Type} (l : List α) (f : α → α → Bool) : Bool := match l with
  | [o, p] => f o p
  | _ => false
mutual
noncomputable def chkE (fs : List String) (sc : Scope) : PE → Expr → Bool
  | .none, e => e.ctorIdx == 19 && (match e with
    | .Constant c _ _ => c.ctorIdx == 0
    | _ => false)
  | .bool b, e => e.ctorIdx == 19 && (match e with
    | .Constant c _ _ => c.ctorIdx == 1 && (match c with
      | .bool c => b == c
      | _ => false)
    | _ => false)
  | .int i, e => e.ctorIdx == 19 && (match e with
    | .Constant c _ _ => c.ctorIdx == 2 && (match c with
      | .int c => i == c
      | _ => false)
    | _ => false)
  | .ty t, e => e.ctorIdx == 23 && (match e with
    | .Name id _ => tyNames.contains t && globOk sc t id
    | _ => false)
  | .var x, e => e.ctorIdx == 23 && (match e with
    | .Name id _ => varOk sc x id
    | _ => false)
  | .bin op a b, e => e.ctorIdx == 2 && (match e with
    | .BinOp l o r _ => o == opOf op && chkE fs sc a l && chkE fs sc b r
    | _ => false)
  | .neg a, e => e.ctorIdx == 3 && (match e with
    | .UnaryOp o l _ => o == .USub && chkE fs sc a l
    | _ => false)
  | .not a, e => e.ctorIdx == 3 && (match e with
    | .UnaryOp o l _ => o == .Not && chkE fs sc a l
    | _ => false)
  | .cmp op a b, e => e.ctorIdx == 15 && (match e with
    | .Compare l os rs _ => oneB os fun o => oneB rs fun r => o == cmOf op && !behindInMarks o r && chkE fs sc a l && chkE fs sc b r
    | _ => false)
  | .band es, e => e.ctorIdx == 0 && (match e with
    | .BoolOp o l _ => o == .And && chkEs fs sc es l
    | _ => false)
  | .bor es, e => e.ctorIdx == 0 && (match e with
    | .BoolOp o l _ => o == .Or && chkEs fs sc es l
    | _ => false)
  | .ite c a b, e => e.ctorIdx == 5 && (match e with
    | .IfExp t l r _ => chkE fs sc c t && chkE fs sc a l && chkE fs sc b r
    | _ => false)
  | .sub a i, e => e.ctorIdx == 21 && (match e with
    | .Subscript l r _ => notSlice r && chkE fs sc a l && chkE fs sc i r
    | _ => false)
  | .take a i, e => e.ctorIdx == 21 && (match e with
    | .Subscript l r _ => l.ctorIdx == 23 && (r.ctorIdx == 26 && (match r with
      | .Slice lo up st _ => lo.isNone && (st.isNone && (up.isSome && (match up with
        | some u => chkE fs sc a l && chkE fs sc i u
        | none => false)))
      | _ => false))
    | _ => false)
  | .list es, e => e.ctorIdx == 24 && (match e with
    | .List l _ => decide (l.length ≤ 1000) && chkEs fs sc es l
    | _ => false)
  | .tup es, e => e.ctorIdx == 25 && (match e with
    | .Tuple l _ _ => decide (l.length ≤ 1000) && chkEs fs sc es l
    | _ => false)
  | .call f es, e => e.ctorIdx == 16 && (match e with
    | .Call g l ks _ => ks.isEmpty && (g.ctorIdx == 23 && (match g with
      | .Name id _ => fs.contains f && globOk sc f id && chkEs fs sc es l
      | _ => false))
    | _ => false)
  | .bfn f es, e => e.ctorIdx == 16 && (match e with
    | .Call g l ks _ => ks.isEmpty && (g.ctorIdx == 23 && (match g with
      | .Name id _ => globOk sc (bfName f) id && chkEs fs sc es l
      | _ => false))
    | _ => false)
  | .meth a m es, e => e.ctorIdx == 16 && (match e with
    | .Call g l ks pos => ks.isEmpty && (g.ctorIdx == 20 && (match g with
      | .Attribute o name apos => (o.ctorIdx == 23 || o.ctorIdx == 21) && (name == Str.ofString (mtName m) && apos.endLine == pos.line && decide (l.length < 20) && chkE fs sc a o && chkEs fs sc es l)
      | _ => false))
    | _ => false)
  | .comp elt t src ifs, e => e.ctorIdx == 8 && (match e with
    | .ListComp el gs csc _ => oneB gs fun g => g.is_async == 0 && (scOk sc csc (tgNames t) && chkTg (compSc sc csc) (compOwn csc) t g.target && notSet g.iter && chkSrc fs sc src g.iter && chkEs fs (compSc sc csc) ifs g.ifs && chkE fs (compSc sc csc) elt el)
    | _ => false)
noncomputable def chkEs (fs : List String) (sc : Scope) : PEs → List Expr → Bool
  | .nil, l => (match l with
    | [] => true
    | _ => false)
  | .cons e r, l => (match l with
    | x :: xs => notStar x && chkE fs sc e x && chkEs fs sc r xs
    | _ => false)
noncomputable def chkSrc (fs : List String) (sc : Scope) : Src → Expr → Bool
  | .up a, e => e.ctorIdx == 16 && (match e with
    | .Call g l ks _ => ks.isEmpty && (g.ctorIdx == 23 && (match g with
      | .Name id _ => oneB l fun x => globOk sc "range" id && notStar x && chkE fs sc a x
      | _ => false))
    | _ => false)
  | .fromTo a b, e => e.ctorIdx == 16 && (match e with
    | .Call g l ks _ => ks.isEmpty && (g.ctorIdx == 23 && (match g with
      | .Name id _ => twoB l fun x y => globOk sc "range" id && notStar x && notStar y && chkE fs sc a x && chkE fs sc b y
      | _ => false))
    | _ => false)
  | .seq a, e => chkE fs sc a e
end

noncomputable def notComp : Expr → Bool
  | .ListComp .. => false
  | .SetComp .. => false
  | .DictComp .. => false
  | _ => true
noncomputable def isComp : PE → Bool
  | .comp .. => true
  | _ => false

mutual
noncomputable def chkS (fs : List String) (sc : Scope) : PS → Stmt → Bool
  | .assign (.tg (.name x)) e, st => st.ctorIdx == 5 && (match st with
    | .Assign ts v _ => oneB ts fun t => t.ctorIdx == 23 && (chkTg sc (fun _ => true) (.name x) t && (isComp e || notComp v) && chkE fs sc e v)
    | _ => false)
  | .assign (.sub a i) e, st => st.ctorIdx == 5 && (match st with
    | .Assign ts v _ => oneB ts fun t => t.ctorIdx == 21 && (match t with
      | .Subscript l r _ => chkE fs sc a l && chkE fs sc i r && chkE fs sc e v
      | _ => false)
    | _ => false)
  | .expr e, st => st.ctorIdx == 24 && (match st with
    | .Expr v _ => v.ctorIdx == 16 && chkE fs sc e v
    | _ => false)
  | .ite c a b, st => st.ctorIdx == 12 && (match st with
    | .If t l r _ => chkE fs sc c t && chkSs fs sc a l && chkSs fs sc b r
    | _ => false)
  | .whl c b, st => st.ctorIdx == 11 && (match st with
    | .While t l el _ => el.isEmpty && (chkE fs sc c t && chkSs fs sc b l)
    | _ => false)
  | .fr t src b, st => st.ctorIdx == 9 && (match st with
    | .For tg it l el _ => el.isEmpty && (chkTg sc (fun _ => true) t tg && notSet it && chkSrc fs sc src it && chkSs fs sc b l)
    | _ => false)
  | .stop, st => st.ctorIdx == 16
  | .ret e, st => st.ctorIdx == 3 && (match st with
    | .Return v _ => (match v with
      | some x => chkE fs sc e x
      | none => false)
    | _ => false)
noncomputable def chkSs (fs : List String) (sc : Scope) : PSs → List Stmt → Bool
  | .nil, l => (match l with
    | [] => true
    | _ => false)
  | .cons s r, l => (match l with
    | x :: xs => chkS fs sc s x && chkSs fs sc r xs
    | _ => false)
end
end MP

end
section
/-! What a yes of the look says of the tree (printed by a program of mine). -/
namespace MP
open PySem PyProof.Rows
theorem e_BoolOp {x : Expr} (h : (x.ctorIdx == 0) = true) : ∃ o l p, x = .BoolOp o l p := Expr.BoolOp.elim x (eq_of_beq h) fun o l p => ⟨o, l, p, rfl⟩
theorem e_BinOp {x : Expr} (h : (x.ctorIdx == 2) = true) : ∃ l o r p, x = .BinOp l o r p := Expr.BinOp.elim x (eq_of_beq h) fun l o r p => ⟨l, o, r, p, rfl⟩
theorem e_UnaryOp {x : Expr} (h : (x.ctorIdx == 3) = true) : ∃ o l p, x = .UnaryOp o l p := Expr.UnaryOp.elim x (eq_of_beq h) fun o l p => ⟨o, l, p, rfl⟩
theorem e_IfExp {x : Expr} (h : (x.ctorIdx == 5) = true) : ∃ t l r p, x = .IfExp t l r p := Expr.IfExp.elim x (eq_of_beq h) fun t l r p => ⟨t, l, r, p, rfl⟩
theorem e_ListComp {x : Expr} (h : (x.ctorIdx == 8) = true) : ∃ el gs csc p, x = .ListComp el gs csc p := Expr.ListComp.elim x (eq_of_beq h) fun el gs csc p => ⟨el, gs, csc, p, rfl⟩
theorem e_Compare {x : Expr} (h : (x.ctorIdx == 15) = true) : ∃ l os rs p, x = .Compare l os rs p := Expr.Compare.elim x (eq_of_beq h) fun l os rs p => ⟨l, os, rs, p, rfl⟩
theorem e_Call {x : Expr} (h : (x.ctorIdx == 16) = true) : ∃ g l ks p, x = .Call g l ks p := Expr.Call.elim x (eq_of_beq h) fun g l ks p => ⟨g, l, ks, p, rfl⟩
theorem e_Constant {x : Expr} (h : (x.ctorIdx == 19) = true) : ∃ c k p, x = .Constant c k p := Expr.Constant.elim x (eq_of_beq h) fun c k p => ⟨c, k, p, rfl⟩
theorem e_Attribute {x : Expr} (h : (x.ctorIdx == 20) = true) : ∃ o n p, x = .Attribute o n p := Expr.Attribute.elim x (eq_of_beq h) fun o n p => ⟨o, n, p, rfl⟩
theorem e_Subscript {x : Expr} (h : (x.ctorIdx == 21) = true) : ∃ l r p, x = .Subscript l r p := Expr.Subscript.elim x (eq_of_beq h) fun l r p => ⟨l, r, p, rfl⟩
theorem e_Name {x : Expr} (h : (x.ctorIdx == 23) = true) : ∃ id p, x = .Name id p := Expr.Name.elim x (eq_of_beq h) fun id p => ⟨id, p, rfl⟩
theorem e_Slice {x : Expr} (h : (x.ctorIdx == 26) = true) : ∃ lo up st p, x = .Slice lo up st p := Expr.Slice.elim x (eq_of_beq h) fun lo up st p => ⟨lo, up, st, p, rfl⟩
theorem e_List {x : Expr} (h : (x.ctorIdx == 24) = true) : ∃ l p, x = .List l p := Expr.List.elim x (eq_of_beq h) fun l p => ⟨l, p, rfl⟩
theorem e_Tuple {x : Expr} (h : (x.ctorIdx == 25) = true) : ∃ l k p, x = .Tuple l k p := Expr.Tuple.elim x (eq_of_beq h) fun l k p => ⟨l, k, p, rfl⟩
theorem e_none {x : Const} (h : (x.ctorIdx == 0) = true) : x = .none := Const.none.elim (motive := fun x => x = .none) x (eq_of_beq h) rfl
theorem e_bool {x : Const} (h : (x.ctorIdx == 1) = true) : ∃ b, x = .bool b := Const.bool.elim x (eq_of_beq h) fun b => ⟨b, rfl⟩
theorem e_int {x : Const} (h : (x.ctorIdx == 2) = true) : ∃ i, x = .int i := Const.int.elim x (eq_of_beq h) fun i => ⟨i, rfl⟩
theorem e_sReturn {x : Stmt} (h : (x.ctorIdx == 3) = true) : ∃ v p, x = .Return v p := Stmt.Return.elim x (eq_of_beq h) fun v p => ⟨v, p, rfl⟩
theorem e_sAssign {x : Stmt} (h : (x.ctorIdx == 5) = true) : ∃ ts v p, x = .Assign ts v p := Stmt.Assign.elim x (eq_of_beq h) fun ts v p => ⟨ts, v, p, rfl⟩
theorem e_sFor {x : Stmt} (h : (x.ctorIdx == 9) = true) : ∃ t i b el p, x = .For t i b el p := Stmt.For.elim x (eq_of_beq h) fun t i b el p => ⟨t, i, b, el, p, rfl⟩
theorem e_sWhile {x : Stmt} (h : (x.ctorIdx == 11) = true) : ∃ t b el p, x = .While t b el p := Stmt.While.elim x (eq_of_beq h) fun t b el p => ⟨t, b, el, p, rfl⟩
theorem e_sIf {x : Stmt} (h : (x.ctorIdx == 12) = true) : ∃ t a b p, x = .If t a b p := Stmt.If.elim x (eq_of_beq h) fun t a b p => ⟨t, a, b, p, rfl⟩
theorem e_sExpr {x : Stmt} (h : (x.ctorIdx == 24) = true) : ∃ v p, x = .Expr v p := Stmt.Expr.elim x (eq_of_beq h) fun v p => ⟨v, p, rfl⟩
theorem and_tt {a b : Bool} (h : (a && b) = true) : a = true ∧ b = true := Bool.and_eq_true_iff.mp h
theorem empty_nil {α : Type} {l : List α} (h : l.isEmpty = true) : l = [] := List.isEmpty_iff.mp h
theorem i_none {fs : List String} {sc : Scope} {x : Expr} (h : chkE fs sc .none x = true) : ∃ p q, x = .Constant .none p q := by
  obtain ⟨h1, u1⟩ := and_tt h
  obtain ⟨c, k, p, rfl⟩ := e_Constant h1
  cases e_none u1
  exact ⟨_, _, rfl⟩
theorem i_bool {fs : List String} {sc : Scope} {x : Expr} {b : Bool} (h : chkE fs sc (.bool b) x = true) : ∃ c p q, x = .Constant (.bool c) p q ∧ (b == c) = true := by
  obtain ⟨h1, u1⟩ := and_tt h
  obtain ⟨c, k, p, rfl⟩ := e_Constant h1
  obtain ⟨h2, u2⟩ := and_tt u1
  obtain ⟨c, rfl⟩ := e_bool h2
  exact ⟨_, _, _, rfl, u2⟩
theorem i_int {fs : List String} {sc : Scope} {x : Expr} {i : Int} (h : chkE fs sc (.int i) x = true) : ∃ c p q, x = .Constant (.int c) p q ∧ (i == c) = true := by
  obtain ⟨h1, u1⟩ := and_tt h
  obtain ⟨c, k, p, rfl⟩ := e_Constant h1
  obtain ⟨h2, u2⟩ := and_tt u1
  obtain ⟨c, rfl⟩ := e_int h2
  exact ⟨_, _, _, rfl, u2⟩
theorem i_ty {fs : List String} {sc : Scope} {x : Expr} {t : String} (h : chkE fs sc (.ty t) x = true) : ∃ id p, x = .Name id p ∧ (tyNames.contains t && globOk sc t id) = true := by
  obtain ⟨h1, u1⟩ := and_tt h
  obtain ⟨id, p, rfl⟩ := e_Name h1
  exact ⟨_, _, rfl, u1⟩
theorem i_var {fs : List String} {sc : Scope} {x : Expr} {y : String} (h : chkE fs sc (.var y) x = true) : ∃ id p, x = .Name id p ∧ varOk sc y id = true := by
  obtain ⟨h1, u1⟩ := and_tt h
  obtain ⟨id, p, rfl⟩ := e_Name h1
  exact ⟨_, _, rfl, u1⟩
theorem i_bin {fs : List String} {sc : Scope} {x : Expr} {op : Op} {a b : PE} (h : chkE fs sc (.bin op a b) x = true) : ∃ l o r p, x = .BinOp l o r p ∧ (o == opOf op && chkE fs sc a l && chkE fs sc b r) = true := by
  obtain ⟨h1, u1⟩ := and_tt h
  obtain ⟨l, o, r, p, rfl⟩ := e_BinOp h1
  exact ⟨_, _, _, _, rfl, u1⟩
theorem i_neg {fs : List String} {sc : Scope} {x : Expr} {a : PE} (h : chkE fs sc (.neg a) x = true) : ∃ l p, x = .UnaryOp .USub l p ∧ chkE fs sc a l = true := by
  obtain ⟨h1, u1⟩ := and_tt h
  obtain ⟨o, l, p, rfl⟩ := e_UnaryOp h1
  obtain ⟨h2, u2⟩ := and_tt u1
  cases eq_of_beq h2
  exact ⟨_, _, rfl, u2⟩
theorem i_not {fs : List String} {sc : Scope} {x : Expr} {a : PE} (h : chkE fs sc (.not a) x = true) : ∃ l p, x = .UnaryOp .Not l p ∧ chkE fs sc a l = true := by
  obtain ⟨h1, u1⟩ := and_tt h
  obtain ⟨o, l, p, rfl⟩ := e_UnaryOp h1
  obtain ⟨h2, u2⟩ := and_tt u1
  cases eq_of_beq h2
  exact ⟨_, _, rfl, u2⟩
theorem i_band {fs : List String} {sc : Scope} {x : Expr} {es : PEs} (h : chkE fs sc (.band es) x = true) : ∃ l p, x = .BoolOp .And l p ∧ chkEs fs sc es l = true := by
  obtain ⟨h1, u1⟩ := and_tt h
  obtain ⟨o, l, p, rfl⟩ := e_BoolOp h1
  obtain ⟨h2, u2⟩ := and_tt u1
  cases eq_of_beq h2
  exact ⟨_, _, rfl, u2⟩
theorem i_bor {fs : List String} {sc : Scope} {x : Expr} {es : PEs} (h : chkE fs sc (.bor es) x = true) : ∃ l p, x = .BoolOp .Or l p ∧ chkEs fs sc es l = true := by
  obtain ⟨h1, u1⟩ := and_tt h
  obtain ⟨o, l, p, rfl⟩ := e_BoolOp h1
  obtain ⟨h2, u2⟩ := and_tt u1
  cases eq_of_beq h2
  exact ⟨_, _, rfl, u2⟩
theorem one_of {α : Type} {l : List α} {f : α → Bool} (h : oneB l f = true) : ∃ o, l = [o] ∧ f o = true := by
  rcases l with _ | ⟨o, _ | ⟨_, _⟩⟩
  · exact Bool.noConfusion h
  · exact ⟨o, rfl, h⟩
  · exact Bool.noConfusion h
theorem two_of {α : Type} {l : List α} {f : α → α → Bool} (h : twoB l f = true) : ∃ o p, l = [o, p] ∧ f o p = true := by
  rcases l with _ | ⟨o, _ | ⟨p, _ | ⟨_, _⟩⟩⟩
  · exact Bool.noConfusion h
  · exact Bool.noConfusion h
  · exact ⟨o, p, rfl, h⟩
  · exact Bool.noConfusion h
theorem i_cmp {fs : List String} {sc : Scope} {x : Expr} {op : Cm} {a b : PE} (h : chkE fs sc (.cmp op a b) x = true) : ∃ l o r p, x = .Compare l [o] [r] p ∧ (o == cmOf op && !behindInMarks o r && chkE fs sc a l && chkE fs sc b r) = true := by
  obtain ⟨h1, u1⟩ := and_tt h
  obtain ⟨l, os, rs, p, rfl⟩ := e_Compare h1
  try dsimp only at u1
  obtain ⟨o, rfl, u2⟩ := one_of u1
  try dsimp only at u2
  obtain ⟨r, rfl, u3⟩ := one_of u2
  exact ⟨_, _, _, _, rfl, u3⟩
theorem i_ite {fs : List String} {sc : Scope} {x : Expr} {c a b : PE} (h : chkE fs sc (.ite c a b) x = true) : ∃ t l r p, x = .IfExp t l r p ∧ (chkE fs sc c t && chkE fs sc a l && chkE fs sc b r) = true := by
  obtain ⟨h1, u1⟩ := and_tt h
  obtain ⟨t, l, r, p, rfl⟩ := e_IfExp h1
  exact ⟨_, _, _, _, rfl, u1⟩
theorem i_sub {fs : List String} {sc : Scope} {x : Expr} {a i : PE} (h : chkE fs sc (.sub a i) x = true) : ∃ l r p, x = .Subscript l r p ∧ (notSlice r && chkE fs sc a l && chkE fs sc i r) = true := by
  obtain ⟨h1, u1⟩ := and_tt h
  obtain ⟨l, r, p, rfl⟩ := e_Subscript h1
  exact ⟨_, _, _, rfl, u1⟩
theorem none_of {α : Type} {o : Option α} (h : o.isNone = true) : o = none := Option.isNone_iff_eq_none.mp h
theorem some_of {α : Type} {o : Option α} (h : o.isSome = true) : ∃ a, o = some a := Option.isSome_iff_exists.mp h
theorem i_take {fs : List String} {sc : Scope} {x : Expr} {a i : PE} (h : chkE fs sc (.take a i) x = true) : ∃ id p u q pos, x = .Subscript (.Name id p) (.Slice none (some u) none q) pos ∧ (chkE fs sc a (.Name id p) && chkE fs sc i u) = true := by
  obtain ⟨h1, u1⟩ := and_tt h
  obtain ⟨l, r, pos, rfl⟩ := e_Subscript h1
  obtain ⟨h2, u2⟩ := and_tt u1
  obtain ⟨id, p, rfl⟩ := e_Name h2
  obtain ⟨h3, u3⟩ := and_tt u2
  obtain ⟨lo, up, st, q, rfl⟩ := e_Slice h3
  obtain ⟨h4, u4⟩ := and_tt u3
  cases none_of h4
  obtain ⟨h5, u5⟩ := and_tt u4
  cases none_of h5
  obtain ⟨h6, u6⟩ := and_tt u5
  obtain ⟨u, rfl⟩ := some_of h6
  exact ⟨_, _, _, _, _, rfl, u6⟩
theorem i_list {fs : List String} {sc : Scope} {x : Expr} {es : PEs} (h : chkE fs sc (.list es) x = true) : ∃ l p, x = .List l p ∧ (decide (l.length ≤ 1000) && chkEs fs sc es l) = true := by
  obtain ⟨h1, u1⟩ := and_tt h
  obtain ⟨l, p, rfl⟩ := e_List h1
  exact ⟨_, _, rfl, u1⟩
theorem i_tup {fs : List String} {sc : Scope} {x : Expr} {es : PEs} (h : chkE fs sc (.tup es) x = true) : ∃ l p q, x = .Tuple l p q ∧ (decide (l.length ≤ 1000) && chkEs fs sc es l) = true := by
  obtain ⟨h1, u1⟩ := and_tt h
  obtain ⟨l, p, q, rfl⟩ := e_Tuple h1
  exact ⟨_, _, _, rfl, u1⟩
theorem i_call {fs : List String} {sc : Scope} {x : Expr} {f : String} {es : PEs} (h : chkE fs sc (.call f es) x = true) : ∃ id p l pos, x = .Call (.Name id p) l [] pos ∧ (fs.contains f && globOk sc f id && chkEs fs sc es l) = true := by
  obtain ⟨h1, u1⟩ := and_tt h
  obtain ⟨g, l, ks, pos, rfl⟩ := e_Call h1
  obtain ⟨h2, u2⟩ := and_tt u1
  cases empty_nil h2
  obtain ⟨h3, u3⟩ := and_tt u2
  obtain ⟨id, p, rfl⟩ := e_Name h3
  exact ⟨_, _, _, _, rfl, u3⟩
theorem i_bfn {fs : List String} {sc : Scope} {x : Expr} {f : Bf} {es : PEs} (h : chkE fs sc (.bfn f es) x = true) : ∃ id p l pos, x = .Call (.Name id p) l [] pos ∧ (globOk sc (bfName f) id && chkEs fs sc es l) = true := by
  obtain ⟨h1, u1⟩ := and_tt h
  obtain ⟨g, l, ks, pos, rfl⟩ := e_Call h1
  obtain ⟨h2, u2⟩ := and_tt u1
  cases empty_nil h2
  obtain ⟨h3, u3⟩ := and_tt u2
  obtain ⟨id, p, rfl⟩ := e_Name h3
  exact ⟨_, _, _, _, rfl, u3⟩
theorem i_meth {fs : List String} {sc : Scope} {x : Expr} {a : PE} {m : Mt} {es : PEs} (h : chkE fs sc (.meth a m es) x = true) : ∃ o name apos l pos, x = .Call (.Attribute o name apos) l [] pos ∧ (o.ctorIdx == 23 || o.ctorIdx == 21) = true ∧ (name == Str.ofString (mtName m) && apos.endLine == pos.line && decide (l.length < 20) && chkE fs sc a o && chkEs fs sc es l) = true := by
  obtain ⟨h1, u1⟩ := and_tt h
  obtain ⟨g, l, ks, pos, rfl⟩ := e_Call h1
  obtain ⟨h2, u2⟩ := and_tt u1
  cases empty_nil h2
  obtain ⟨h3, u3⟩ := and_tt u2
  obtain ⟨o, n, p, rfl⟩ := e_Attribute h3
  obtain ⟨h4, u4⟩ := and_tt u3
  exact ⟨_, _, _, _, _, rfl, h4, u4⟩
theorem i_nm {sc : Scope} {own : Str → Bool} {x : String} {e : Expr} (h : chkNm sc own x e = true) : ∃ id p, e = .Name id p ∧ (id == Str.ofString x && x != ".0" && (match sc.names.lookup id with | some .local => true | some .cell => own id | _ => false)) = true := by
  obtain ⟨h1, u1⟩ := and_tt h
  obtain ⟨id, p, rfl⟩ := e_Name h1
  exact ⟨_, _, rfl, u1⟩
theorem i_comp {fs : List String} {sc : Scope} {x : Expr} {elt : PE} {t : Tg} {src : Src} {ifs : PEs} (h : chkE fs sc (.comp elt t src ifs) x = true) : ∃ el tg it ts csc pos, x = .ListComp el [⟨tg, it, ts, 0⟩] csc pos ∧ (scOk sc csc (tgNames t) && chkTg (compSc sc csc) (compOwn csc) t tg && notSet it && chkSrc fs sc src it && chkEs fs (compSc sc csc) ifs ts && chkE fs (compSc sc csc) elt el) = true := by
  obtain ⟨h1, u1⟩ := and_tt h
  obtain ⟨el, gs, csc, p, rfl⟩ := e_ListComp h1
  try dsimp only at u1
  obtain ⟨⟨tg, it, ts, as⟩, rfl, u2⟩ := one_of u1
  obtain ⟨h2, u3⟩ := and_tt u2
  cases eq_of_beq h2
  exact ⟨_, _, _, _, _, _, rfl, u3⟩
theorem i_up {fs : List String} {sc : Scope} {x : Expr} {a : PE} (h : chkSrc fs sc (.up a) x = true) : ∃ id p y pos, x = .Call (.Name id p) [y] [] pos ∧ (globOk sc "range" id && notStar y && chkE fs sc a y) = true := by
  obtain ⟨h1, u1⟩ := and_tt h
  obtain ⟨g, l, ks, pos, rfl⟩ := e_Call h1
  obtain ⟨h2, u2⟩ := and_tt u1
  cases empty_nil h2
  obtain ⟨h3, u3⟩ := and_tt u2
  obtain ⟨id, p, rfl⟩ := e_Name h3
  try dsimp only at u3
  obtain ⟨y, rfl, u4⟩ := one_of u3
  exact ⟨_, _, _, _, rfl, u4⟩
theorem i_fromTo {fs : List String} {sc : Scope} {x : Expr} {a b : PE} (h : chkSrc fs sc (.fromTo a b) x = true) : ∃ id p y z pos, x = .Call (.Name id p) [y, z] [] pos ∧ (globOk sc "range" id && notStar y && notStar z && chkE fs sc a y && chkE fs sc b z) = true := by
  obtain ⟨h1, u1⟩ := and_tt h
  obtain ⟨g, l, ks, pos, rfl⟩ := e_Call h1
  obtain ⟨h2, u2⟩ := and_tt u1
  cases empty_nil h2
  obtain ⟨h3, u3⟩ := and_tt u2
  obtain ⟨id, p, rfl⟩ := e_Name h3
  try dsimp only at u3
  obtain ⟨y, z, rfl, u4⟩ := two_of u3
  exact ⟨_, _, _, _, _, rfl, u4⟩
theorem i_nil {fs : List String} {sc : Scope} {x : List Expr} (h : chkEs fs sc .nil x = true) : x = [] := by
  cases x with
  | nil => rfl
  | cons _ _ => exact Bool.noConfusion h
theorem i_cons {fs : List String} {sc : Scope} {x : List Expr} {e : PE} {r : PEs} (h : chkEs fs sc (.cons e r) x = true) : ∃ y ys, x = y :: ys ∧ (notStar y && chkE fs sc e y && chkEs fs sc r ys) = true := by
  cases x with
  | nil => exact Bool.noConfusion h
  | cons _ _ => exact ⟨_, _, rfl, h⟩
theorem i_assign {fs : List String} {sc : Scope} {x : Stmt} {y : String} {e : PE} (h : chkS fs sc (.assign (.tg (.name y)) e) x = true) : ∃ id p v q, x = .Assign [.Name id p] v q ∧ (chkTg sc (fun _ => true) (.name y) (.Name id p) && (isComp e || notComp v) && chkE fs sc e v) = true := by
  obtain ⟨h1, u1⟩ := and_tt h
  obtain ⟨ts, v, p, rfl⟩ := e_sAssign h1
  try dsimp only at u1
  obtain ⟨t, rfl, u2⟩ := one_of u1
  obtain ⟨h2, u3⟩ := and_tt u2
  obtain ⟨id, q, rfl⟩ := e_Name h2
  exact ⟨_, _, _, _, rfl, u3⟩
theorem i_set {fs : List String} {sc : Scope} {x : Stmt} {a i e : PE} (h : chkS fs sc (.assign (.sub a i) e) x = true) : ∃ l r p v q, x = .Assign [.Subscript l r p] v q ∧ (chkE fs sc a l && chkE fs sc i r && chkE fs sc e v) = true := by
  obtain ⟨h1, u1⟩ := and_tt h
  obtain ⟨ts, v, p, rfl⟩ := e_sAssign h1
  try dsimp only at u1
  obtain ⟨t, rfl, u2⟩ := one_of u1
  obtain ⟨h2, u3⟩ := and_tt u2
  obtain ⟨l, r, q, rfl⟩ := e_Subscript h2
  exact ⟨_, _, _, _, _, rfl, u3⟩
theorem i_expr {fs : List String} {sc : Scope} {x : Stmt} {e : PE} (h : chkS fs sc (.expr e) x = true) : ∃ f as ks q p, x = .Expr (.Call f as ks q) p ∧ chkE fs sc e (.Call f as ks q) = true := by
  obtain ⟨h1, u1⟩ := and_tt h
  obtain ⟨v, p, rfl⟩ := e_sExpr h1
  obtain ⟨h2, u2⟩ := and_tt u1
  obtain ⟨f, as, ks, q, rfl⟩ := e_Call h2
  exact ⟨_, _, _, _, _, rfl, u2⟩
theorem i_if {fs : List String} {sc : Scope} {x : Stmt} {c : PE} {a b : PSs} (h : chkS fs sc (.ite c a b) x = true) : ∃ t l r p, x = .If t l r p ∧ (chkE fs sc c t && chkSs fs sc a l && chkSs fs sc b r) = true := by
  obtain ⟨h1, u1⟩ := and_tt h
  obtain ⟨t, l, r, p, rfl⟩ := e_sIf h1
  exact ⟨_, _, _, _, rfl, u1⟩
theorem i_whl {fs : List String} {sc : Scope} {x : Stmt} {c : PE} {b : PSs} (h : chkS fs sc (.whl c b) x = true) : ∃ t l p, x = .While t l [] p ∧ (chkE fs sc c t && chkSs fs sc b l) = true := by
  obtain ⟨h1, u1⟩ := and_tt h
  obtain ⟨t, l, el, p, rfl⟩ := e_sWhile h1
  obtain ⟨h2, u2⟩ := and_tt u1
  cases empty_nil h2
  exact ⟨_, _, _, rfl, u2⟩
theorem i_fr {fs : List String} {sc : Scope} {x : Stmt} {t : Tg} {src : Src} {b : PSs} (h : chkS fs sc (.fr t src b) x = true) : ∃ tg it l p, x = .For tg it l [] p ∧ (chkTg sc (fun _ => true) t tg && notSet it && chkSrc fs sc src it && chkSs fs sc b l) = true := by
  obtain ⟨h1, u1⟩ := and_tt h
  obtain ⟨tg, it, l, el, p, rfl⟩ := e_sFor h1
  obtain ⟨h2, u2⟩ := and_tt u1
  cases empty_nil h2
  exact ⟨_, _, _, _, rfl, u2⟩
theorem i_ret {fs : List String} {sc : Scope} {x : Stmt} {e : PE} (h : chkS fs sc (.ret e) x = true) : ∃ v p, x = .Return (some v) p ∧ chkE fs sc e v = true := by
  obtain ⟨h1, u1⟩ := and_tt h
  obtain ⟨v, p, rfl⟩ := e_sReturn h1
  cases v with
  | none => exact Bool.noConfusion u1
  | some v => exact ⟨_, _, rfl, u1⟩
theorem i_snil {fs : List String} {sc : Scope} {x : List Stmt} (h : chkSs fs sc .nil x = true) : x = [] := by
  cases x with
  | nil => rfl
  | cons _ _ => exact Bool.noConfusion h
theorem i_scons {fs : List String} {sc : Scope} {x : List Stmt} {s : PS} {r : PSs} (h : chkSs fs sc (.cons s r) x = true) : ∃ y ys, x = y :: ys ∧ (chkS fs sc s y && chkSs fs sc r ys) = true := by
  cases x with
  | nil => exact Bool.noConfusion h
  | cons _ _ => exact ⟨_, _, rfl, h⟩
end MP

end
section
/-! A comprehension's loop. -/
namespace MP
open PySem PyProof.Rows

/-- what a call of f does on the machine -/
noncomputable def Valid (prog : Program) (w : World) (K : KK) (Γ : String → List V → H → (V → H → Prop) → Prop) (k : Nat) : Prop :=
  ∀ f vs h Q, Γ f vs h Q → ∃ a, K.mg (Str.ofString f) = some (.ref a) ∧
    ∀ (l : List PySem.Env) (A : Around) (P : Prt) (s : Shared) (rs : List Value) (E : Value → Shared → Prop), Rm A k → A.frames = some l → Rel (K.at l) P h s → VRs (K.at l) vs rs →
      wpAny (model prog w) A (call (.ref a) rs) (fun r s' => ∃ v h', VR (K.at l) v r ∧ Rel (K.at l) P h' s' ∧ Q v h') E s

structure Cx (prog : Program) (w : World) (K : KK) (G : Par) (A : Around) (k : Nat) : Prop where
  ok : KOk K
  ns : G.ns = K.ns
  gc : G.gc = K.gc
  rm : Rm A k
  fr : A.frames = some K.fl
  val : Valid prog w K G.Γ k

section
variable {prog : Program} {w : World} {A : Around} {E : Value → Shared → Prop} {k : Nat}
variable {K : KK} {P : Prt} {own : Str → Bool} {env : PySem.Env} {σ : Env} {h : H} {s : Shared} {G : Par}

/-- a tuple that the iterator kept is let go: not that of a list -/
theorem sndGo {t : Tg} {target : Expr} {sc : Scope} {v : V} {r : Value} {I : Nat} {kp : Option (Nat × List V)} {rest : List V} {Q : Env → Prop} {Q' : Unit → Shared → Prop} (hc : chkTg sc own t target = true) (hv : VR K v r) (hq : tgW t v σ h Q)
    (hI : ItAt I kp rest s) (hn : kp = Option.none → ∃ i, v = .int i) (hQ : Q' () s) : wpAny (model prog w) A (letOwnedTupleGo target (.ref I) r) Q' E s := by
  cases t with
  | name x =>
    obtain ⟨id, p, rfl, _⟩ := i_nm hc
    exact wpAny_of_eq (a := ()) rfl hQ
theorem ItAt.int {I : Nat} {v : V} {rest : List V} {s : Shared} (h : ItAt I Option.none (v :: rest) s) : ∃ i, v = .int i := by
  obtain ⟨x, d, n, _, h2⟩ := h
  cases n with
  | zero => simp [rngL] at h2
  | succ n => simp only [rngL, List.cons.injEq] at h2; exact ⟨x, h2.1⟩

noncomputable abbrev Kept (env : PySem.Env) (s s' : Shared) : Prop :=
  (∀ b o, s.heap.get? b = some o → (∀ es n, o.data ≠ .dict es n) → (∀ v, o.data ≠ .cell v) → s'.heap.get? b = some o) ∧ (∀ b, b ≠ env.locals → ∀ o, s.heap.get? b = some o → (∀ v, o.data ≠ .cell v) → s'.heap.get? b = some o)

theorem sndNm {x : String} {target : Expr} {v : V} {r : Value} {Q' : Unit → Shared → Prop} (hc : chkNm env.scope own x target = true) (X : St K P own env σ h s) (hv : VR K v r)
    (hQ : ∀ s', St K P own env (upd σ x v) h s' → Kept env s s' → Q' () s') : wpAny (model prog w) A (assign target env r) Q' E s := by
  obtain ⟨id, p, rfl, hc'⟩ := i_nm hc
  clear hc
  simp only [Bool.and_eq_true, beq_iff_eq, bne_iff_ne] at hc'
  obtain ⟨⟨rfl, hx⟩, hk⟩ := hc'
  refine wpAny_assign_Name (X.store hx hv ?_ fun s' X' k1 k2 => hQ s' X' ⟨k1, k2⟩)
  show env.scope.names.lookup _ = _ ∨ _
  split at hk
  · rename_i e; exact .inl e
  · rename_i e; exact .inr ⟨e, hk⟩
  · cases hk
theorem sndTg {t : Tg} {target : Expr} {v : V} {r : Value} {Q : Env → Prop} {Q' : Unit → Shared → Prop} (hA : A.handled = none) (hc : chkTg env.scope own t target = true) (X : St K P own env σ h s) (hv : VR K v r) (hq : tgW t v σ h Q)
    (hQ : ∀ σ' s', St K P own env σ' h s' → Q σ' → (∀ b o, s.heap.get? b = some o → (∀ es n, o.data ≠ .dict es n) → (∀ v, o.data ≠ .cell v) → s'.heap.get? b = some o) → (∀ b, b ≠ env.locals → ∀ o, s.heap.get? b = some o → (∀ v, o.data ≠ .cell v) → s'.heap.get? b = some o) → Q' () s') :
    wpAny (model prog w) A (assign target env r) Q' E s := by
  cases t with
  | name x => exact sndNm hc X hv fun s' X' k => hQ _ s' X' hq k.1 k.2

/-- the names of the turn are laid anew in each turn -/
noncomputable def TgEq (t : Tg) (σc σ : Env) : Prop := ∀ v h (Q : Env → Prop), tgW t v σ h Q → tgW t v σc h Q
theorem TgEq.clr (t : Tg) (σ : Env) : TgEq t (MP.clr σ (tgNames t)) σ := by
  intro v h' Q h
  cases t with
  | name x =>
    have : upd (MP.clr σ [x]) x v = upd σ x v := by
      funext y; unfold upd MP.clr; split
      · rfl
      · rename_i q; simp [q]
    show Q (upd (MP.clr σ [x]) x v)
    rw [this]; exact h
theorem TgEq.set {t : Tg} {v : V} {σ : Env} {Q : Env → Prop} (hq : tgW t v σ h Q) : tgW t v σ h fun σ' => Q σ' ∧ TgEq t σ' σ := by
  cases t with
  | name x =>
    refine ⟨hq, fun v' h' Q' hq' => ?_⟩
    have : upd (upd σ x v) x v' = upd σ x v' := by
      funext y; unfold upd; split <;> rfl
    show Q' (upd (upd σ x v) x v')
    rw [this]; exact hq'

theorem St.guard' (X : St K P own env σ h s) {I : Nat} {ob : Obj} (hI : s.heap.get? I = some ob) (hM : NM h I) (hd : ∀ es n, ob.data ≠ .dict es n) (hc : ∀ v, ob.data ≠ .cell v) : St K (P.put I ob) own env σ h s :=
  X.guard hI hM (X.fr.loc_ne hI hd) (fun _ _ hn _ h1 => X.fr.cell_ne hI hc hn h1) fun o e => by
    have := X.rel.base _ _ e
    rw [hI] at this; cases this; rfl

/-- the trees of a comprehension's tests -/
noncomputable abbrev testsT (ifs : List Expr) (env : PySem.Env) : Sem Bool :=
  forIn ifs true fun c r => if r = true then do let ok ← isTrue c env (eval c env); pure (ForInStep.yield ok) else pure (ForInStep.yield r)

/-- the turns of a comprehension, whatever its target -/
theorem comp_turns {el target iter : Expr} {fs : List Expr} {csc : Scope} {pos : Pos} {it acc : Value} {R : Result → Shared → Prop} (I : Nat → Shared → Prop)
    (turn : ∀ n s, I n s → wpAny (model prog w) A (pyNext it) (fun r s₁ => match r with
      | none => R (.ok .next) s₁
      | some v => wpAny (model prog w) A (letOwnedTupleGo target it v) (fun _ s₀ => wpAny (model prog w) A (assign target env v) (fun _ s₂ =>
          wpAny (model prog w) A (testsT fs env) (fun ok s₃ => if ok = true then wpAny (model prog w) A (eval el env) (fun x s₄ =>
            wpAny (model prog w) A (call (.builtin "list.append") [acc, x]) (fun _ s₅ => ∃ m, m < n ∧ I m s₅) (notedBy (model prog w) A env fun e s' => R (.error e) s') s₄) (notedBy (model prog w) A env fun e s' => R (.error e) s') s₃
            else ∃ m, m < n ∧ I m s₃) (notedBy (model prog w) A env fun e s' => R (.error e) s') s₂)
          (notedBy (model prog w) A env fun e s' => R (.error e) s') s₀) (notedBy (model prog w) A env fun e s' => R (.error e) s') s₁) (notedBy (model prog w) A env fun e s' => R (.error e) s') s)
    (n : Nat) (h : I n s) : codeAny (model prog w) A (.compLoop (.ListComp el [⟨target, iter, fs, 0⟩] csc pos) 0 it acc env) R s := by
  refine codeAny_loop rfl I (fun n s hI => ?_) n h
  show wpAny _ A ((compTurn (.ListComp el [⟨target, iter, fs, 0⟩] csc pos) 0 it acc env).onRaise (fun x => do noteFrame x env; theTreesLotGoes x)) _ _ s
  refine wpAny_noted ?_
  rw [compTurn_list]
  refine wpAny_bind (wpAny_standAt (wpAny_bind (wpAny_mono (turn n s hI) (fun r s₁ h₁ => ?_) fun _ _ h' => h')))
  cases r with
  | none => exact wpAny_pure h₁
  | some v =>
    refine wpAny_bind (wpAny_mono h₁ (fun _ s₀ h₀' => ?_) fun _ _ h' => h')
    refine wpAny_bind (wpAny_mono h₀' (fun _ s₂ h₂ => ?_) fun _ _ h' => h')
    refine wpAny_bind (wpAny_mono h₂ (fun ok s₃ h₃ => ?_) fun _ _ h' => h')
    cases ok with
    | false => exact wpAny_pure ⟨rfl, h₃⟩
    | true => exact wpAny_bind (wpAny_bind (wpAny_mono h₃ (fun x s₄ h₄ => wpAny_bind (wpAny_mono h₄ (fun _ s₅ h₅ => wpAny_pure (wpAny_pure ⟨rfl, h₅⟩)) fun _ _ h' => h')) fun _ _ h' => h'))

theorem comp_loop {el target iter : Expr} {fs : List Expr} {csc : Scope} {pos : Pos} {t : Tg} {elt : PE} {ifs : PEs} {kp : Option (Nat × List V)} {I D : Nat} {R : Result → Shared → Prop} {Qe : List V → H → Prop}
    (hA : A.handled = none)
    (htg : chkTg env.scope own t target = true) (hPI : P I = none) (hPD : P D = none)
    (hifs : ∀ (P' : Prt) (σ' : Env) (h' : H) (s' : Shared) (Q' : Bool → H → Prop) (E' : Value → Shared → Prop), St K P' own env σ' h' s' → condAnd G ifs σ' h' Q' → wpAny (model prog w) A (testsT fs env) (BP K P' own env σ' Q') E' s')
    (helt : ∀ (P' : Prt) (σ' : Env) (h' : H) (s' : Shared) (Q' : V → H → Prop) (E' : Value → Shared → Prop), St K P' own env σ' h' s' → ev G elt σ' h' Q' → wpAny (model prog w) A (eval el env) (EP K P' own env σ' Q') E' s')
    (hst : ∀ ys h', Qe ys h' → stays kp h')
    (hend : ∀ σ' h' s' ys items n, St K P own env σ' h' s' → s'.heap.get? D = some (listOb items n) → NM h' D → VRs K ys items.toList → ys.length ≤ lim → Qe ys h' → R (.ok .next) s')
    {σ₀ : Env} {rest ys : List V} {items : Array Value} {n : Nat} (X : St K P own env σ h s) (hI : ItAt I kp rest s) (hD : s.heap.get? D = some (listOb items n)) (hM : NM h D) (hy : VRs K ys items.toList) (hl : ys.length + rest.length ≤ lim)
    (hσ : TgEq t σ σ₀) (hW : compW (fun v h K => tgW t v σ₀ h fun σ' => condAnd G ifs σ' h fun b h' => if b then ev G elt σ' h' fun w h'' => K (some w) h'' else K Option.none h') kp rest ys h Qe) :
    codeAny (model prog w) A (.compLoop (.ListComp el [⟨target, iter, fs, 0⟩] csc pos) 0 (.ref I) (.ref D) env) R s := by
  have hDI : D ≠ I := fun q => by
    obtain ⟨ob, h1, fs', h2⟩ := hI.ob
    rw [← q, hD] at h1; cases h1; cases h2
  refine comp_turns
    (fun j s => ∃ rest ys h σ items n, j = rest.length ∧ St K P own env σ h s ∧ ItAt I kp rest s ∧ s.heap.get? D = some (listOb items n) ∧ NM h D ∧ VRs K ys items.toList ∧ ys.length + rest.length ≤ lim ∧ TgEq t σ σ₀ ∧
      compW (fun v h K => tgW t v σ₀ h fun σ' => condAnd G ifs σ' h fun b h' => if b then ev G elt σ' h' fun w h'' => K (some w) h'' else K Option.none h') kp rest ys h Qe) ?_ rest.length
    ⟨rest, ys, h, σ, items, n, rfl, X, hI, hD, hM, hy, hl, hσ, hW⟩
  clear X hI hD hM hy hl hσ hW
  rintro j s ⟨rest, ys, h, σ, items, n, rfl, X, hI, hD, hM, hy, hl, hσ, hW⟩
  obtain ⟨obI, hI1, hI2⟩ := hI.ob
  cases rest with
  | nil =>
    have hW : Qe ys h := hW
    refine iter_end hA X.rel (hst _ _ hW) hI fun s' k1 k2 k3 => ?_
    exact hend σ h s' ys items n (X.junkF hI1 hI2 hPI k1 k2 k3) (k1 _ _ hDI hD) hM hy (by simpa using hl) hW
  | cons v rest =>
    obtain ⟨hs1, hW⟩ := hW
    refine iter_item X.rel hs1 hI fun rv s₁ hv hI₁ k1 k2 k3 => ?_
    have X₁ := X.junkF hI1 hI2 hPI (fun b o hb e => (k1 b hb).trans e) k2 k3
    have hD₁ := (k1 D hDI).trans hD
    refine sndGo htg hv (hσ _ _ _ (TgEq.set hW)) hI₁ (fun q => by subst q; exact hI.int) ?_
    refine sndTg hA htg X₁ hv (hσ _ _ _ (TgEq.set hW)) fun σ' s₂ X₂ hq k4 _ => ?_
    obtain ⟨hq, hσ'⟩ := hq
    obtain ⟨obI', hI1', fs', hI2'⟩ := hI₁.ob
    have hI₂ := hI₁.at fun o e => k4 _ _ e (fun _ _ q => by rw [hI1'] at e; cases e; rw [hI2'] at q; cases q) (fun _ q => by rw [hI1'] at e; cases e; rw [hI2'] at q; cases q)
    have hIo : s₂.heap.get? I = some obI' := k4 _ _ hI1' (fun _ _ q => by rw [hI2'] at q; cases q) (fun _ q => by rw [hI2'] at q; cases q)
    have hD₂ := k4 _ _ hD₁ (fun _ _ q => by cases q) (fun _ q => by cases q)
    have X₃ := (X₂.guard' hIo (X₂.rel.nm_shape hIo (by rw [hI2']; intros; simp) (by rw [hI2']; intros; simp)) (by rw [hI2']; intros; simp) (by rw [hI2']; intros; simp)).guard' hD₂ hM (by intros; simp) (by intros; simp)
    refine wpAny_mono (hifs _ σ' h s₂ _ _ X₃ hq) (fun b s₃ hx => ?_) fun _ _ e => e
    obtain ⟨h₃, X₄, hq₃⟩ := hx
    have hPD' : (P.put I obI') D = none := by unfold Prt.put; rw [if_neg hDI]; exact hPD
    cases b with
    | false =>
      obtain ⟨Y, hD₃, hM₃⟩ := X₄.unguard (X₂.rel.sub.put hPI) hPD' (by intros; simp)
      obtain ⟨Z, hI₃, _⟩ := Y.unguard X₂.rel.sub hPI (by rw [hI2']; intros; simp)
      refine ⟨rest.length, Nat.lt_succ_self _, rest, ys, h₃, σ', items, n, rfl, Z, hI₂.at fun o e => ?_, hD₃, hM₃, hy, by simp only [List.length_cons] at hl; (first | lia | omega), hσ', hq₃⟩
      rw [hIo] at e; cases e; exact hI₃
    | true =>
      refine wpAny_mono (helt _ σ' h₃ s₃ _ _ X₄ hq₃) (fun x s₄ hx => ?_) fun _ _ e => e
      obtain ⟨wv, h₄, hwv, X₅, hq₄⟩ := hx
      obtain ⟨Y, hD₃, hM₃⟩ := X₅.unguard (X₂.rel.sub.put hPI) hPD' (by intros; simp)
      obtain ⟨Z, hI₃, _⟩ := Y.unguard X₂.rel.sub hPI (by rw [hI2']; intros; simp)
      have hsz : items.size = ys.length := by rw [← Array.length_toList, hy.length]
      refine append_exact hD₃ (by rw [hsz]; exact sizeLine_lim (by (first | lia | omega))) fun h' n' g1 g2 => ?_
      refine ⟨rest.length, Nat.lt_succ_self _, rest, ys ++ [wv], h₄, σ', _, n', rfl, Z.junkL (s' := { s₄ with heap := h' }) hD₃ hM₃ hPD (fun b o hb e => (g2 b hb).trans e) rfl rfl, hI₂.at fun o e => ?_, g1, hM₃, ?_, by simp only [List.length_cons, List.length_append, List.length_nil] at *; (first | lia | omega), hσ', hq₄⟩
      · rw [hIo] at e; cases e; exact (g2 I (Ne.symm hDI)).trans hI₃
      · rw [Array.toList_push]; exact hy.append (.one hwv)
end
end MP

end
section
namespace MP
open PySem PyProof.Rows
section
variable {prog : Program} {w : World} {A : Around} {E : Value → Shared → Prop} {k : Nat}
variable {K : KK} {P : Prt} {own : Str → Bool} {env : PySem.Env} {σ : Env} {h : H} {s : Shared} {G : Par}

theorem comp_core {el target iter : Expr} {fs : List Expr} {csc : Scope} {pos : Pos} {t : Tg} {elt : PE} {ifs : PEs} {kp : Option (Nat × List V)} {r : Value} {xs : List V} {R : Value → PySem.Addr → Result → Shared → Prop} {Qe : List V → H → Prop}
    (hA : A.handled = none) (hsc : scOk env.scope csc (tgNames t) = true) (htg : chkTg (compSc env.scope csc) (compOwn csc) t target = true)
    (hifs : ∀ (L : Nat) (P' : Prt) (σ' : Env) (h' : H) (s' : Shared) (Q' : Bool → H → Prop) (E' : Value → Shared → Prop), St K P' (compOwn csc) (compEnv env csc L) σ' h' s' → condAnd G ifs σ' h' Q' → wpAny (model prog w) A (testsT fs (compEnv env csc L)) (BP K P' (compOwn csc) (compEnv env csc L) σ' Q') E' s')
    (helt : ∀ (L : Nat) (P' : Prt) (σ' : Env) (h' : H) (s' : Shared) (Q' : V → H → Prop) (E' : Value → Shared → Prop), St K P' (compOwn csc) (compEnv env csc L) σ' h' s' → ev G elt σ' h' Q' → wpAny (model prog w) A (eval el (compEnv env csc L)) (EP K P' (compOwn csc) (compEnv env csc L) σ' Q') E' s')
    (hst : ∀ ys h', Qe ys h' → stays kp h')
    (X : St K P own env σ h s) (hsrc : SrcV prog w A r xs kp s) (hl : xs.length ≤ lim)
    (hW : compW (fun v h K => tgW t v σ h fun σ' => condAnd G ifs σ' h fun b h' => if b then ev G elt σ' h' fun w h'' => K (some w) h'' else K Option.none h') kp xs [] h Qe)
    (hfin : ∀ (D L : Nat) h' s' ys items n m, Rel K (prtOf h s) h' s' → s'.heap.Ns L m → NM h' L → s'.heap.get? D = some (listOb items n) → NM h' D → VRs K ys items.toList → ys.length ≤ lim → s.heap.get? D = none → s.heap.get? L = none → Qe ys h' → R (.ref D) L (.ok .next) s') :
    wpAny (model prog w) A (pyIter r) (fun it s₂ => wpAny (model prog w) A (newList []) (fun acc s₃ =>
      wpAny (model prog w) A (newFunctionEnv csc env.globals (clOf (fun n => env.cells.lookup n) csc.names []) [] env.qual none .none (some env)) (fun cenv s₄ =>
        codeAny (model prog w) A (.compStart (.ListComp el [⟨target, iter, fs, 0⟩] csc pos) 0 it acc { cenv with scope := relabel csc env }) (R acc cenv.locals) s₄) E s₃) E s₂) E s := by
  refine hsrc E _ fun I s₂ g₁ hI0 hI => ?_
  refine wpAny_newList (items := []) ?_ (by simp)
  refine newEnv_comp ?_
  have g₂ : Grown s₂ { s₂ with heap := s₂.heap.push { cls := .type "list", data := .seq ([] : List Value).toArray } } := .push' _ _
  obtain ⟨Y, g₃⟩ := comp_frame X hsc (g₁.trans g₂)
  have sz : ∀ b, s₂.heap.objs.size ≤ b → s.heap.get? b = none := fun b hb => by
    cases q : s.heap.get? b with
    | none => rfl
    | some o => exact absurd (Heap.lt_size (g₁.heap _ _ q)) (Nat.not_lt.mpr hb)
  have hD0 : s.heap.get? s₂.heap.objs.size = none := sz _ (Nat.le_refl _)
  have hL0 : s.heap.get? (s₂.heap.push { cls := .type "list", data := .seq ([] : List Value).toArray }).objs.size = none := sz _ (by rw [Heap.size_push]; exact Nat.le_succ _)
  have hD := g₃.heap s₂.heap.objs.size (listOb ([] : List Value).toArray 0) (Heap.get?_push_size _ rfl)
  have hM : NM h s₂.heap.objs.size := fun o e => by rw [X.rel.none_of hD0] at e; cases e
  have hI' := (hI.at fun o e => g₂.heap _ _ e).at fun o e => g₃.heap _ _ e
  have key : codeAny (model prog w) A (.compLoop (.ListComp el [⟨target, iter, fs, 0⟩] csc pos) 0 (.ref I) (.ref s₂.heap.objs.size) (compEnv env csc (s₂.heap.push { cls := .type "list", data := .seq ([] : List Value).toArray }).objs.size))
      (R (.ref s₂.heap.objs.size) (s₂.heap.push { cls := .type "list", data := .seq ([] : List Value).toArray }).objs.size) _ :=
    comp_loop (G := G) (t := t) (elt := elt) (ifs := ifs) (Qe := Qe) (σ₀ := σ) (ys := []) hA htg (prtOf_none hI0) (prtOf_none hD0) (hifs _) (helt _) hst (fun σ' h' s' ys items n Z h1 h2 h3 h4 h5 => by
      obtain ⟨m, hm, _⟩ := Z.fr.loc
      exact hfin _ _ h' s' ys items n m Z.rel hm Z.fr.locM h1 h2 h3 h4 hD0 hL0 h5) Y hI' hD hM .nil (by simpa using hl) (TgEq.clr t σ) hW
  exact codeAny_compStart_list key (iter_self hI' key)

theorem comp_value {el target iter : Expr} {fs : List Expr} {csc : Scope} {pos : Pos} {t : Tg} {elt : PE} {ifs : PEs} {kp : Option (Nat × List V)} {r : Value} {xs : List V} {Q : V → H → Prop}
    (hA : A.handled = none) (hsc : scOk env.scope csc (tgNames t) = true) (htg : chkTg (compSc env.scope csc) (compOwn csc) t target = true)
    (hifs : ∀ (L : Nat) (P' : Prt) (σ' : Env) (h' : H) (s' : Shared) (Q' : Bool → H → Prop) (E' : Value → Shared → Prop), St K P' (compOwn csc) (compEnv env csc L) σ' h' s' → condAnd G ifs σ' h' Q' → wpAny (model prog w) A (testsT fs (compEnv env csc L)) (BP K P' (compOwn csc) (compEnv env csc L) σ' Q') E' s')
    (helt : ∀ (L : Nat) (P' : Prt) (σ' : Env) (h' : H) (s' : Shared) (Q' : V → H → Prop) (E' : Value → Shared → Prop), St K P' (compOwn csc) (compEnv env csc L) σ' h' s' → ev G elt σ' h' Q' → wpAny (model prog w) A (eval el (compEnv env csc L)) (EP K P' (compOwn csc) (compEnv env csc L) σ' Q') E' s')
    (X : St K P own env σ h s) (hsrc : SrcV prog w A r xs kp s) (hl : xs.length ≤ lim)
    (hW : compW (fun v h K => tgW t v σ h fun σ' => condAnd G ifs σ' h fun b h' => if b then ev G elt σ' h' fun w h'' => K (some w) h'' else K Option.none h') kp xs [] h fun ys h₂ => stays kp h₂ ∧ alloc (.list ys) h₂ Q) :
    wpAny (model prog w) A (pyIter r) (fun it s₂ => wpAny (model prog w) A (newList []) (fun acc s₃ =>
      wpAny (model prog w) A (newFunctionEnv csc env.globals (clOf (fun n => env.cells.lookup n) csc.names []) [] env.qual none .none (some env)) (fun cenv s₄ =>
        codeAny (model prog w) A (.compStart (.ListComp el [⟨target, iter, fs, 0⟩] csc pos) 0 it acc { cenv with scope := relabel csc env }) (compPost (model prog w) A E none (EP K P own env σ Q) acc cenv.locals) s₄) E s₃) E s₂) E s := by
  refine comp_core hA hsc htg hifs helt (fun _ _ hq => hq.1) X hsrc hl hW fun D L h' s' ys items n m hR hm hLM hD hM hy hyl hD0 hL0 hq => ?_
  refine ⟨m, hm, fun hp hs => ?_⟩
  obtain ⟨oL, es, ep, hL1, hL2, _⟩ := hm
  have hDL : D ≠ L := fun q => by rw [q, hL1] at hD; cases hD; cases hL2
  have R' : Rel K (prtOf h s) h' { s' with heap := hp } := hR.junk (hR.none_ns hL1 ⟨_, _, hL2⟩ hLM) (prtOf_none hL0) (.inr (X.rel.fr_ne hL0)) (fun b o hb e => (hs.2 b hb).trans e) rfl rfl
  have hDn := hR.none_list hD hM
  have Z := (X.back R').adopt ((hs.2 D hDL).trans hD) hDn (X.rel.p_none_of hD0) hy hyl
  exact ⟨_, _, .ref D, Z, hq.2 D hDn⟩

/-- the comprehension's list is stored while its own names still stand -/
theorem comp_store {el target iter : Expr} {fs : List Expr} {csc : Scope} {pos : Pos} {t : Tg} {elt : PE} {ifs : PEs} {kp : Option (Nat × List V)} {r : Value} {xs : List V} {u : Tg} {ut : Expr} {Q : Env → H → Prop}
    (hA : A.handled = none) (hsc : scOk env.scope csc (tgNames t) = true) (htg : chkTg (compSc env.scope csc) (compOwn csc) t target = true) (hut : chkTg env.scope own u ut = true)
    (hifs : ∀ (L : Nat) (P' : Prt) (σ' : Env) (h' : H) (s' : Shared) (Q' : Bool → H → Prop) (E' : Value → Shared → Prop), St K P' (compOwn csc) (compEnv env csc L) σ' h' s' → condAnd G ifs σ' h' Q' → wpAny (model prog w) A (testsT fs (compEnv env csc L)) (BP K P' (compOwn csc) (compEnv env csc L) σ' Q') E' s')
    (helt : ∀ (L : Nat) (P' : Prt) (σ' : Env) (h' : H) (s' : Shared) (Q' : V → H → Prop) (E' : Value → Shared → Prop), St K P' (compOwn csc) (compEnv env csc L) σ' h' s' → ev G elt σ' h' Q' → wpAny (model prog w) A (eval el (compEnv env csc L)) (EP K P' (compOwn csc) (compEnv env csc L) σ' Q') E' s')
    (X : St K P own env σ h s) (hsrc : SrcV prog w A r xs kp s) (hl : xs.length ≤ lim)
    (hW : compW (fun v h K => tgW t v σ h fun σ' => condAnd G ifs σ' h fun b h' => if b then ev G elt σ' h' fun w h'' => K (some w) h'' else K Option.none h') kp xs [] h fun ys h₂ => stays kp h₂ ∧ alloc (.list ys) h₂ fun v h₃ => tgW u v σ h₃ fun σ' => Q σ' h₃) :
    wpAny (model prog w) A (pyIter r) (fun it s₂ => wpAny (model prog w) A (newList []) (fun acc s₃ =>
      wpAny (model prog w) A (newFunctionEnv csc env.globals (clOf (fun n => env.cells.lookup n) csc.names []) [] env.qual none .none (some env)) (fun cenv s₄ =>
        codeAny (model prog w) A (.compStart (.ListComp el [⟨target, iter, fs, 0⟩] csc pos) 0 it acc { cenv with scope := relabel csc env })
          (compPost (model prog w) A E (some (assign ut env)) (fun _ s' => ∃ σ' h', St K P own env σ' h' s' ∧ Q σ' h') acc cenv.locals) s₄) E s₃) E s₂) E s := by
  refine comp_core hA hsc htg hifs helt (fun _ _ hq => hq.1) X hsrc hl hW fun D L h' s' ys items n m hR hm hLM hD hM hy hyl hD0 hL0 hq => ?_
  show wpAny _ A (assign ut env (.ref D)) _ E s'
  obtain ⟨oL, es, ep, hL1, hL2, hL3⟩ := hm
  have hDn := hR.none_list hD hM
  have Z := (X.back hR).adopt hD hDn (X.rel.p_none_of hD0) hy hyl
  have hLl : env.locals ≠ L := fun q => by
    obtain ⟨m', hm', _⟩ := X.fr.loc
    obtain ⟨o, _, _, h1, _⟩ := hm'
    rw [q, hL0] at h1; cases h1
  refine sndTg hA hut Z (.ref D) (hq.2 D hDn) fun σ' s₂ Z₂ hq₂ _ k2 => ?_
  have hL4 := k2 L (Ne.symm hLl) oL hL1 (by rw [hL2]; intros; simp)
  refine ⟨m, ⟨oL, es, ep, hL4, hL2, hL3⟩, fun hp hs => ?_⟩
  exact ⟨σ', _, Z₂.junkD (s' := { s₂ with heap := hp }) hL4 ⟨_, _, hL2⟩ (X.rel.p_none_of hL0) hLl (X.rel.fr_ne hL0) (nm_set hLM (fun q => by rw [← q, hL1] at hD; cases hD; cases hL2)) (fun b o hb e => (hs.2 b hb).trans e) rfl rfl, hq₂⟩
end
end MP

end
section
/-! The small language's expressions are the machine's. -/
namespace MP
open PySem PyProof.Rows

section
variable {prog : Program} {w : World} {A : Around} {E : Value → Shared → Prop} {k : Nat}
variable {K : KK} {P : Prt} {own : Str → Bool} {env : PySem.Env} {σ : Env} {h : H} {s : Shared} {G : Par}

theorem loadVar {x : String} {id : Str} {p : Pos} {v : V} {Q : Value → Shared → Prop} (hc : varOk env.scope x id = true) (X : St K P own env σ h s) (e : σ x = some v) (hQ : ∀ r, VR K v r → Q r s) :
    wpAny (model prog w) A (eval (.Name id p) env) Q E s := by
  simp only [varOk, Bool.and_eq_true, beq_iff_eq, bne_iff_ne, Bool.not_eq_true', ne_eq] at hc
  obtain ⟨⟨⟨⟨rfl, hx⟩, hk⟩, hd⟩, hcd⟩ := hc
  refine wpAny_Name ?_ hd
  split at hk
  · rename_i q
    obtain ⟨m, hm, hv⟩ := X.fr.loc
    obtain ⟨rv, h1, h2⟩ := hv x v hx e q
    exact wpAny_loadName_local X.fr.kind q hm h1 (hQ _ h2)
  · rename_i q
    obtain ⟨c, ov, h1, h2, h3, _⟩ := X.fr.cells _ (.inl q)
    obtain ⟨rv, rfl, h4⟩ := h3 x v rfl e
    exact wpAny_loadName_cell X.fr.kind q h1 h2 (hQ _ h4)
  · rename_i q
    obtain ⟨c, ov, h1, h2, h3, _⟩ := X.fr.cells _ (.inr q)
    obtain ⟨rv, rfl, h4⟩ := h3 x v rfl e
    exact wpAny_loadName_free X.fr.kind q h1 h2 (hQ _ h4) hcd
  · cases hk

theorem loadGlob {x : String} {id : Str} {p : Pos} {r : Value} {Q : Value → Shared → Prop} (hK : KOk K) (hc : globOk env.scope x id = true) (X : St K P own env σ h s) (e : K.mg (Str.ofString x) = some r) (hQ : Q r s) :
    wpAny (model prog w) A (eval (.Name id p) env) Q E s := by
  simp only [globOk, Bool.and_eq_true, beq_iff_eq, Bool.not_eq_true'] at hc
  obtain ⟨⟨rfl, hk⟩, hd⟩ := hc
  refine Calls.Name_function_global X.fr.kind hk (Calls.loadGlobal_global (mg := K.mg) ?_ e hQ) hd
  rw [X.fr.glb]; exact hK.nsG.keeps X.rel.base
theorem loadBuiltin {x : String} {id : Str} {p : Pos} {r : Value} {Q : Value → Shared → Prop} (hK : KOk K) (hc : globOk env.scope x id = true) (X : St K P own env σ h s) (e : K.mg (Str.ofString x) = none) (e' : K.mb (Str.ofString x) = some r) (hQ : Q r s) :
    wpAny (model prog w) A (eval (.Name id p) env) Q E s := by
  simp only [globOk, Bool.and_eq_true, beq_iff_eq, Bool.not_eq_true'] at hc
  obtain ⟨⟨rfl, hk⟩, hd⟩ := hc
  refine Calls.Name_function_global X.fr.kind hk (Calls.loadGlobal_builtin (mg := K.mg) (mb := K.mb) ?_ e ?_ e' hQ) hd
  · rw [X.fr.glb]; exact hK.nsG.keeps X.rel.base
  · rw [X.fr.bui]; exact hK.nsB.keeps X.rel.base

theorem starEach_cons {x : Expr} {xs : List Expr} (hx : notStar x = true) : starEach (x :: xs) env = (false, eval x env) :: starEach xs env := by
  cases x <;> first | rfl | cases hx
theorem chkEs_noStar {fns : List String} {sc : Scope} {pos : Pos} : ∀ {es : PEs} {l : List Expr}, chkEs fns sc es l = true → (backTo pos (starEach l env)).any (·.1) = false
  | .nil, l, hc => by
    cases i_nil hc; rfl
  | .cons e r, l, hc => by
    obtain ⟨x, xs, rfl, hc'⟩ := i_cons hc
    simp only [Bool.and_eq_true] at hc'
    rw [starEach_cons hc'.1.1]
    show (false || (backTo pos (starEach xs env)).any (·.1)) = false
    rw [chkEs_noStar hc'.2]; rfl
theorem evalArgs_of {fns : List String} {sc : Scope} {es : PEs} {l : List Expr} {pos : Pos} {f : Value} {Q : Args → Shared → Prop} (hc : chkEs fns sc es l = true)
    (hq : wpAny (model prog w) A (spliced (backTo pos (starEach l env))) (fun vs s' => Q ⟨vs, []⟩ s') E s) : wpAny (model prog w) A (evalArgs f true (backTo pos (starEach l env)) []) Q E s := by
  cases es with
  | nil =>
    cases i_nil hc
    · unfold evalArgs
      show wpAny _ A (spliced [] >>= _) Q E s
      refine wpAny_bind (wpAny_mono hq (fun vs s' h' => ?_) fun _ _ x => x)
      refine wpAny_bind (wpAny_pure ?_)
      refine wpAny_holding ?_
      exact wpAny_bind (wpAny_pure (wpAny_bind (wpAny_pure (wpAny_pure h'))))
  | cons e r =>
    obtain ⟨x, xs, rfl, hc'⟩ := i_cons hc
    simp only [Bool.and_eq_true] at hc'
    rw [starEach_cons hc'.1.1] at hq ⊢
    exact Calls.evalArgs_plain hq

theorem bfn_callWith {f : Bf} {fns : List String} {sc : Scope} {es : PEs} {l : List Expr} {pos : Pos} {Q : Value → Shared → Prop} (hc : chkEs fns sc es l = true)
    (hq : wpAny (model prog w) A (spliced (backTo pos (starEach l env))) (fun vs s' => wpAny (model prog w) A (call (bfVal f) vs) Q E s') E s) : wpAny (model prog w) A (callWith pos (bfVal f) [] (backTo pos (starEach l env)) []) Q E s := by
  cases f
  all_goals first
    | exact Calls.callWith_builtin (chkEs_noStar hc) (evalArgs_of hc hq)
    | exact PySem.callWith_type (chkEs_noStar hc) (evalArgs_of hc hq)

theorem getMeth {m : Mt} {a : Nat} {items : Array Value} {n : Nat} {pl : Sem Bool} {Q : Value × List Value → Shared → Prop} (ho : s.heap.get? a = some (listOb items n)) (hQ : Q (.builtin ("list." ++ mtName m), [.ref a]) s) :
    wpAny (model prog w) A (getMethod (.ref a) (Str.ofString (mtName m)) pl) Q E s := by
  have hl : s.heap.IsList a items := ⟨_, ho, rfl, _, rfl⟩
  cases m with
  | append => exact Calls.getMethod_list_append ho rfl rfl hQ
  | index => exact getMethod_builtin hl.typeIs PySem.F.plainAttrs_list PySem.F.slot_list_index PySem.F.type_list_index (fun b e => by cases e; exact ⟨_, ho, rfl⟩) hQ
  | reverse => exact getMethod_builtin hl.typeIs PySem.F.plainAttrs_list PySem.F.slot_list_reverse PySem.F.type_list_reverse (fun b e => by cases e; exact ⟨_, ho, rfl⟩) hQ

theorem isL_list {va : V} (hq : isL va h) : ∃ a xs, va = .ref a ∧ h a = some (.list xs) := by
  cases va <;> (try exact hq.elim)
  rename_i a
  simp only [isL] at hq
  cases q : h a with
  | none => simp only [q] at hq
  | some o =>
    cases o with
    | dict kvs => simp only [q] at hq
    | tup xs => simp only [q] at hq
    | list xs => exact ⟨a, xs, rfl, q⟩
end
end MP

end
section
namespace MP
open PySem PyProof.Rows

section
variable {prog : Program} {w : World} {A : Around} {k : Nat}
variable {K : KK} {G : Par}

theorem wpAny_boolOp_one {pos : Pos} {op : BoolOp} {t : Sem Value} {s : Shared} {Q : Value → Shared → Prop} {E : Value → Shared → Prop} (h : wpAny (model prog w) A t Q E s) : wpAny (model prog w) A (boolOp pos op [t]) Q E s := h
theorem wpAny_boolOp_and {pos : Pos} {t t' : Sem Value} {ts : List (Sem Value)} {s : Shared} {Q : Value → Shared → Prop} {E : Value → Shared → Prop}
    (h : wpAny (model prog w) A t (fun v s₁ => wpAny (model prog w) A (truthy v) (fun b s₂ => if b then wpAny (model prog w) A (boolOp pos .And (t' :: ts)) Q E s₂ else Q v s₂) E s₁) E s) : wpAny (model prog w) A (boolOp pos .And (t :: t' :: ts)) Q E s := by
  show wpAny _ A (do
    let v ← t
    standAt pos
    let b ← holding [v] (truthy v)
    match BoolOp.And, b with
    | .And, false | .Or, true => pure v
    | _, _ => boolOp pos .And (t' :: ts)) Q E s
  refine wpAny_bind (wpAny_mono h (fun v s₁ h₁ => wpAny_bind (wpAny_standAt (wpAny_bind (wpAny_holding (wpAny_mono h₁ (fun b s₂ h₂ => ?_) fun _ _ x => x))))) fun _ _ x => x)
  cases b with
  | false => exact wpAny_pure h₂
  | true => exact h₂
theorem wpAny_boolOp_or {pos : Pos} {t t' : Sem Value} {ts : List (Sem Value)} {s : Shared} {Q : Value → Shared → Prop} {E : Value → Shared → Prop}
    (h : wpAny (model prog w) A t (fun v s₁ => wpAny (model prog w) A (truthy v) (fun b s₂ => if b then Q v s₂ else wpAny (model prog w) A (boolOp pos .Or (t' :: ts)) Q E s₂) E s₁) E s) : wpAny (model prog w) A (boolOp pos .Or (t :: t' :: ts)) Q E s := by
  show wpAny _ A (do
    let v ← t
    standAt pos
    let b ← holding [v] (truthy v)
    match BoolOp.Or, b with
    | .And, false | .Or, true => pure v
    | _, _ => boolOp pos .Or (t' :: ts)) Q E s
  refine wpAny_bind (wpAny_mono h (fun v s₁ h₁ => wpAny_bind (wpAny_standAt (wpAny_bind (wpAny_holding (wpAny_mono h₁ (fun b s₂ h₂ => ?_) fun _ _ x => x))))) fun _ _ x => x)
  cases b with
  | false => exact h₂
  | true => exact wpAny_pure h₂

theorem tests_false {env : PySem.Env} {Q : Bool → Shared → Prop} {E : Value → Shared → Prop} : ∀ {fs : List Expr} {s : Shared}, Q false s →
    wpAny (model prog w) A (forIn fs false fun c r => if r = true then do let ok ← isTrue c env (eval c env); pure (ForInStep.yield ok) else pure (ForInStep.yield r)) Q E s
  | [], _, h => wpAny_pure h
  | c :: fs, s, h => by
    rw [List.forIn_cons, if_neg Bool.false_ne_true]
    exact wpAny_bind (wpAny_pure (tests_false h))
theorem tests_cons {env : PySem.Env} {Q : Bool → Shared → Prop} {E : Value → Shared → Prop} {c : Expr} {fs : List Expr} {s : Shared}
    (h : wpAny (model prog w) A (isTrue c env (eval c env)) (fun b s₁ => if b then wpAny (model prog w) A (testsT fs env) Q E s₁ else Q false s₁) E s) : wpAny (model prog w) A (testsT (c :: fs) env) Q E s := by
  unfold testsT
  rw [List.forIn_cons, if_pos rfl]
  refine wpAny_bind (wpAny_bind (wpAny_mono h (fun b s₁ h₁ => ?_) fun _ _ e => e))
  cases b with
  | false => exact wpAny_pure (tests_false h₁)
  | true => exact wpAny_pure h₁

theorem folded_id {iter : Expr} {env : PySem.Env} (hn : notSet iter = true) : ∀ x, foldedSetIterable iter env x = pure x := by
  intro x
  cases iter <;> first | rfl | cases hn
theorem subscripted_id {slice : Expr} (hn : notSlice slice = true) : ∀ o i, subscripted slice false o i = operate [o, i] (getItem o i) := by
  intro o i
  cases slice <;> first | rfl | cases hn

theorem evAnd_cons2 {e e' : PE} {r : PEs} {σ : Env} {h : H} {Q : V → H → Prop} : evAnd G (.cons e (.cons e' r)) σ h Q = ev G e σ h fun v h₁ => truth v fun b => if b then evAnd G (.cons e' r) σ h₁ Q else Q v h₁ := by
  rfl
theorem evOr_cons2 {e e' : PE} {r : PEs} {σ : Env} {h : H} {Q : V → H → Prop} : evOr G (.cons e (.cons e' r)) σ h Q = ev G e σ h fun v h₁ => truth v fun b => if b then Q v h₁ else evOr G (.cons e' r) σ h₁ Q := by
  rfl

theorem chkEs_cons {fns : List String} {sc : Scope} {e : PE} {r : PEs} {x : Expr} {xs : List Expr} : chkEs fns sc (.cons e r) (x :: xs) = (notStar x && chkE fns sc e x && chkEs fns sc r xs) := rfl

theorem callOf (cx : Cx prog w K G A k) {f : String} {es : PEs} {env : PySem.Env} {P : Prt} {own : Str → Bool} {σ : Env} {s : Shared} {id : Str} {p pos : Pos} {l : List Expr} {h : H} {Q : V → H → Prop} {E : Value → Shared → Prop}
    (hf : K.fns.contains f = true) (hg : globOk env.scope f id = true) (hc : chkEs K.fns env.scope es l = true) (X : St K P own env σ h s)
    (ha : wpAny (model prog w) A (spliced (backTo pos (starEach l env))) (fun rs s' => ∃ vs h', VRs K vs rs ∧ vs.length = l.length ∧ St K P own env σ h' s' ∧ G.Γ f vs h' Q) E s) :
    wpAny (model prog w) A (eval (.Call (.Name id p) l [] pos) env) (EP K P own env σ Q) E s := by
  obtain ⟨a, o, fd, h1, h2, h3⟩ := cx.ok.fn f hf
  refine wpAny_Call_NameR (loadGlob cx.ok hg X h1 (Calls.callWith_function (o := o) (fd := fd) (evalArgs_of hc (wpAny_mono ha (fun rs s₁ hx => ?_) fun _ _ e => e))))
  obtain ⟨vs, h₁, hvs, _, X₁, hq₁⟩ := hx
  obtain ⟨a', h1', hv⟩ := cx.val f vs h₁ Q hq₁
  rw [h1] at h1'; cases h1'
  refine ⟨⟨X₁.rel.base _ _ h2, h3⟩, wpAny_mono (hv K.fl A (prtOf h₁ s₁) s₁ rs E cx.rm cx.fr X₁.rel.enter hvs) (fun r s' hx => ?_) fun _ _ e => e⟩
  obtain ⟨v, h', hr, R, hq'⟩ := hx
  exact ⟨v, h', hr, X₁.back R, hq'⟩

theorem attrBase_ok {o : Expr} (h : (o.ctorIdx == 23 || o.ctorIdx == 21) = true) {name : Str} {env : PySem.Env} : attributeBase o name env (eval o env) = eval o env := by
  rcases Bool.or_eq_true_iff.mp h with h | h
  · obtain ⟨id, p, rfl⟩ := e_Name h; rfl
  · obtain ⟨l, r, p, rfl⟩ := e_Subscript h; rfl
mutual
theorem sndE (cx : Cx prog w K G A k) : ∀ (e : PE) {env : PySem.Env} {P : Prt} {own : Str → Bool} {σ : Env} {h : H} {s : Shared} {x : Expr} {Q : V → H → Prop} {E : Value → Shared → Prop},
    chkE K.fns env.scope e x = true → St K P own env σ h s → ev G e σ h Q → wpAny (model prog w) A (eval x env) (EP K P own env σ Q) E s
  | .none, env, P, own, σ, h, s, x, Q, E, hc, X, hq => by
    obtain ⟨_, _, rfl⟩ := i_none hc
    · simp only [r_ev_none, r_ev_bool, r_ev_int, r_ev_ty, r_ev_var, r_ev_bin, r_ev_neg, r_ev_not, r_ev_cmp, r_ev_band, r_ev_bor, r_ev_ite, r_ev_sub, r_ev_list, r_ev_tup, r_ev_call, r_ev_bfn, r_ev_meth, r_ev_comp] at hq; exact wpAny_Constant_none ⟨_, _, .none, X, hq⟩
  | .bool b, env, P, own, σ, h, s, x, Q, E, hc, X, hq => by
    obtain ⟨_, _, _, rfl, hc'⟩ := i_bool hc
    · simp only [beq_iff_eq] at hc'
      subst hc'
      simp only [r_ev_none, r_ev_bool, r_ev_int, r_ev_ty, r_ev_var, r_ev_bin, r_ev_neg, r_ev_not, r_ev_cmp, r_ev_band, r_ev_bor, r_ev_ite, r_ev_sub, r_ev_list, r_ev_tup, r_ev_call, r_ev_bfn, r_ev_meth, r_ev_comp] at hq
      exact wpAny_Constant_bool ⟨_, _, .bool _, X, hq⟩
  | .int i, env, P, own, σ, h, s, x, Q, E, hc, X, hq => by
    obtain ⟨_, _, _, rfl, hc'⟩ := i_int hc
    · simp only [beq_iff_eq] at hc'
      subst hc'
      simp only [r_ev_none, r_ev_bool, r_ev_int, r_ev_ty, r_ev_var, r_ev_bin, r_ev_neg, r_ev_not, r_ev_cmp, r_ev_band, r_ev_bor, r_ev_ite, r_ev_sub, r_ev_list, r_ev_tup, r_ev_call, r_ev_bfn, r_ev_meth, r_ev_comp] at hq
      exact wpAny_Constant_int ⟨_, _, .int _ _, X.grow (.tok s _), hq⟩
  | .ty t, env, P, own, σ, h, s, x, Q, E, hc, X, hq => by
    obtain ⟨_, _, rfl, hc'⟩ := i_ty hc
    · simp only [Bool.and_eq_true] at hc'
      simp only [r_ev_none, r_ev_bool, r_ev_int, r_ev_ty, r_ev_var, r_ev_bin, r_ev_neg, r_ev_not, r_ev_cmp, r_ev_band, r_ev_bor, r_ev_ite, r_ev_sub, r_ev_list, r_ev_tup, r_ev_call, r_ev_bfn, r_ev_meth, r_ev_comp] at hq
      have hb := cx.ok.ty t (List.contains_iff_mem.mp hc'.1)
      exact loadBuiltin cx.ok hc'.2 X hb.1 hb.2 ⟨_, _, .ty _, X, hq⟩
  | .var x', env, P, own, σ, h, s, x, Q, E, hc, X, hq => by
    obtain ⟨_, _, rfl, hc'⟩ := i_var hc
    · simp only [r_ev_none, r_ev_bool, r_ev_int, r_ev_ty, r_ev_var, r_ev_bin, r_ev_neg, r_ev_not, r_ev_cmp, r_ev_band, r_ev_bor, r_ev_ite, r_ev_sub, r_ev_list, r_ev_tup, r_ev_call, r_ev_bfn, r_ev_meth, r_ev_comp] at hq
      cases q : σ x' with
      | none => simp only [q] at hq
      | some v =>
        simp only [q] at hq
        exact loadVar hc' X q fun r hr => ⟨_, _, hr, X, hq⟩
  | .bin op a b, env, P, own, σ, h, s, x, Q, E, hc, X, hq => by
    obtain ⟨_, _, _, _, rfl, hc'⟩ := i_bin hc
    · simp only [Bool.and_eq_true, beq_iff_eq] at hc'
      obtain ⟨⟨rfl, h1⟩, h2⟩ := hc'
      simp only [r_ev_none, r_ev_bool, r_ev_int, r_ev_ty, r_ev_var, r_ev_bin, r_ev_neg, r_ev_not, r_ev_cmp, r_ev_band, r_ev_bor, r_ev_ite, r_ev_sub, r_ev_list, r_ev_tup, r_ev_call, r_ev_bfn, r_ev_meth, r_ev_comp] at hq
      refine wpAny_BinOp (wpAny_mono (sndE cx a h1 X hq) (fun ra s₁ hx => ?_) fun _ _ e => e)
      obtain ⟨va, h₁, hva, X₁, hq₁⟩ := hx
      refine wpAny_mono (sndE cx b h2 X₁ hq₁) (fun rb s₂ hx => ?_) fun _ _ e => e
      obtain ⟨vb, h₂, hvb, X₂, hq₂⟩ := hx
      exact snd_binop X₂ hva hvb hq₂
  | .neg a, env, P, own, σ, h, s, x, Q, E, hc, X, hq => by
    obtain ⟨_, _, rfl, hc'⟩ := i_neg hc
    · simp only [r_ev_none, r_ev_bool, r_ev_int, r_ev_ty, r_ev_var, r_ev_bin, r_ev_neg, r_ev_not, r_ev_cmp, r_ev_band, r_ev_bor, r_ev_ite, r_ev_sub, r_ev_list, r_ev_tup, r_ev_call, r_ev_bfn, r_ev_meth, r_ev_comp] at hq
      refine wpAny_UnaryOp (wpAny_mono (sndE cx a hc' X hq) (fun ra s₁ hx => ?_) fun _ _ e => e)
      obtain ⟨va, h₁, hva, X₁, hq₁⟩ := hx
      exact snd_neg X₁ hva hq₁
  | .not a, env, P, own, σ, h, s, x, Q, E, hc, X, hq => by
    obtain ⟨_, _, rfl, hc'⟩ := i_not hc
    · simp only [r_ev_none, r_ev_bool, r_ev_int, r_ev_ty, r_ev_var, r_ev_bin, r_ev_neg, r_ev_not, r_ev_cmp, r_ev_band, r_ev_bor, r_ev_ite, r_ev_sub, r_ev_list, r_ev_tup, r_ev_call, r_ev_bfn, r_ev_meth, r_ev_comp] at hq
      refine wpAny_UnaryOp (wpAny_mono (sndE cx a hc' X hq) (fun ra s₁ hx => ?_) fun _ _ e => e)
      obtain ⟨va, h₁, hva, X₁, hq₁⟩ := hx
      refine not_value (wpAny_mono (snd_truth (Q := fun b h₁ => Q (.bool (!b)) h₁) X₁ hva hq₁) (fun b s₂ hx => ?_) fun _ _ e => e)
      obtain ⟨h₂, X₂, hq₂⟩ := hx
      exact ⟨_, _, .bool _, X₂, hq₂⟩
  | .cmp op a b, env, P, own, σ, h, s, x, Q, E, hc, X, hq => by
    obtain ⟨_, _, _, _, rfl, hc'⟩ := i_cmp hc
    · simp only [Bool.and_eq_true, beq_iff_eq, Bool.not_eq_true'] at hc'
      obtain ⟨⟨⟨rfl, hm⟩, h1⟩, h2⟩ := hc'
      simp only [r_ev_none, r_ev_bool, r_ev_int, r_ev_ty, r_ev_var, r_ev_bin, r_ev_neg, r_ev_not, r_ev_cmp, r_ev_band, r_ev_bor, r_ev_ite, r_ev_sub, r_ev_list, r_ev_tup, r_ev_call, r_ev_bfn, r_ev_meth, r_ev_comp] at hq
      refine wpAny_Compare1 (wpAny_mono (sndE cx a h1 X hq) (fun ra s₁ hx => ?_) fun _ _ e => e) hm
      obtain ⟨va, h₁, hva, X₁, hq₁⟩ := hx
      refine wpAny_mono (sndE cx b h2 X₁ hq₁) (fun rb s₂ hx => ?_) fun _ _ e => e
      obtain ⟨vb, h₂, hvb, X₂, hq₂⟩ := hx
      exact snd_cmp X₂ cx.rm hva hvb hq₂
  | .band es, env, P, own, σ, h, s, x, Q, E, hc, X, hq => by
    obtain ⟨_, _, rfl, hc'⟩ := i_band hc
    · simp only [r_ev_none, r_ev_bool, r_ev_int, r_ev_ty, r_ev_var, r_ev_bin, r_ev_neg, r_ev_not, r_ev_cmp, r_ev_band, r_ev_bor, r_ev_ite, r_ev_sub, r_ev_list, r_ev_tup, r_ev_call, r_ev_bfn, r_ev_meth, r_ev_comp] at hq
      rw [arm_eval_BoolOp]
      exact sndAnd cx es hc' X hq
  | .bor es, env, P, own, σ, h, s, x, Q, E, hc, X, hq => by
    obtain ⟨_, _, rfl, hc'⟩ := i_bor hc
    · simp only [r_ev_none, r_ev_bool, r_ev_int, r_ev_ty, r_ev_var, r_ev_bin, r_ev_neg, r_ev_not, r_ev_cmp, r_ev_band, r_ev_bor, r_ev_ite, r_ev_sub, r_ev_list, r_ev_tup, r_ev_call, r_ev_bfn, r_ev_meth, r_ev_comp] at hq
      rw [arm_eval_BoolOp]
      exact sndOr cx es hc' X hq
  | .ite c a b, env, P, own, σ, h, s, x, Q, E, hc, X, hq => by
    obtain ⟨_, _, _, _, rfl, hc'⟩ := i_ite hc
    · simp only [Bool.and_eq_true] at hc'
      simp only [r_ev_none, r_ev_bool, r_ev_int, r_ev_ty, r_ev_var, r_ev_bin, r_ev_neg, r_ev_not, r_ev_cmp, r_ev_band, r_ev_bor, r_ev_ite, r_ev_sub, r_ev_list, r_ev_tup, r_ev_call, r_ev_bfn, r_ev_meth, r_ev_comp] at hq
      refine wpAny_IfExp (wpAny_mono (sndC cx c hc'.1.1 X hq) (fun r s₁ hx => ?_) fun _ _ e => e)
      obtain ⟨h₁, X₁, hq₁⟩ := hx
      cases r with
      | true => exact sndE cx a hc'.1.2 X₁ hq₁
      | false => exact sndE cx b hc'.2 X₁ hq₁
  | .sub a i, env, P, own, σ, h, s, x, Q, E, hc, X, hq => by
    obtain ⟨_, _, _, rfl, hc'⟩ := i_sub hc
    · simp only [Bool.and_eq_true] at hc'
      simp only [r_ev_none, r_ev_bool, r_ev_int, r_ev_ty, r_ev_var, r_ev_bin, r_ev_neg, r_ev_not, r_ev_cmp, r_ev_band, r_ev_bor, r_ev_ite, r_ev_sub, r_ev_list, r_ev_tup, r_ev_call, r_ev_bfn, r_ev_meth, r_ev_comp] at hq
      refine Subscript_ (wpAny_mono (sndE cx a hc'.1.2 X hq) (fun ra s₁ hx => ?_) fun _ _ e => e)
      obtain ⟨va, h₁, hva, X₁, hq₁⟩ := hx
      refine wpAny_mono (sndE cx i hc'.2 X₁ hq₁) (fun rb s₂ hx => ?_) fun _ _ e => e
      obtain ⟨vb, h₂, hvb, X₂, hq₂⟩ := hx
      exact snd_sub X₂ (by have := cx.rm.un; (first | lia | omega)) cx.ok cx.ns hva hvb hq₂ (subscripted_id hc'.1.1)
  | .take a e, env, P, own, σ, h, s, x, Q, E, hc, X, hq => by
    obtain ⟨id, p, u, q, pos, rfl, hc'⟩ := i_take hc
    simp only [Bool.and_eq_true] at hc'
    simp only [r_ev_take] at hq
    refine wpAny_Subscript_list_slice (wpAny_mono (sndE cx a hc'.1 X hq) (fun ra s₁ hx => ?_) fun _ _ e => e)
    obtain ⟨va, h₁, hva, X₁, hq₁⟩ := hx
    rw [evalPart_none, evalPart_some]
    refine wpAny_pure (wpAny_mono (sndE cx e hc'.2 X₁ hq₁) (fun rb s₂ hx => ?_) fun _ _ e => e)
    obtain ⟨vb, h₂, hvb, X₂, hq₂⟩ := hx
    obtain ⟨b, xs, rfl, hb, hq₃⟩ := ofL_list hq₂
    obtain ⟨m, rfl, hq₄⟩ := natI_int hq₃
    cases hva
    cases hvb
    rename_i tk
    obtain ⟨items, n, g1, g2, g3⟩ := X₂.rel.list hb
    have e1 : items.size = xs.length := by rw [← Array.length_toList, g2.length]
    refine ⟨_, items, _, _, rfl, ⟨_, g1, rfl, _, rfl⟩, by rw [e1]; exact sizeLine_lim g3, .none, .int _ _, ?_⟩
    rw [slicePick_upto']
    have X₃ := X₂.grow (.push s₂ { cls := .type "slice", data := .fields #[Value.none, Value.int m tk, Value.none] } s₂.toks)
    obtain ⟨k1, k2⟩ := X₃.addPush (o := .list (xs.take m)) (ob := listOb (items.toList.take m).toArray 0) (t := s₂.toks) (.list (by simpa using g2.take m) (by simp; (first | lia | omega)))
    rw [Heap.size_push] at k1 k2
    exact ⟨_, _, .ref _, k2, hq₄ _ k1⟩
  | .list es, env, P, own, σ, h, s, x, Q, E, hc, X, hq => by
    obtain ⟨_, _, rfl, hc'⟩ := i_list hc
    · simp only [Bool.and_eq_true, decide_eq_true_eq] at hc'
      simp only [r_ev_none, r_ev_bool, r_ev_int, r_ev_ty, r_ev_var, r_ev_bin, r_ev_neg, r_ev_not, r_ev_cmp, r_ev_band, r_ev_bor, r_ev_ite, r_ev_sub, r_ev_list, r_ev_tup, r_ev_call, r_ev_bfn, r_ev_meth, r_ev_comp] at hq
      refine wpAny_List (wpAny_mono (sndEs cx es hc'.2 X hq) (fun rs s₁ hx => ?_) fun _ _ e => e)
      obtain ⟨vs, h₁, hvs, hlen, X₁, hq₁⟩ := hx
      have hl : vs.length ≤ lim := by have := hc'.1; unfold lim; (first | lia | omega)
      refine ⟨by rw [← hvs.length]; exact sizeLine_lim hl, ?_⟩
      obtain ⟨g1, g2⟩ := X₁.addPush (o := .list vs) (ob := listOb rs.toArray 0) (t := s₁.toks) (.list (by simpa using hvs) hl)
      exact ⟨_, _, .ref _, g2, hq₁ _ g1⟩
  | .tup es, env, P, own, σ, h, s, x, Q, E, hc, X, hq => by
    obtain ⟨_, _, _, rfl, hc'⟩ := i_tup hc
    · simp only [Bool.and_eq_true, decide_eq_true_eq] at hc'
      simp only [r_ev_none, r_ev_bool, r_ev_int, r_ev_ty, r_ev_var, r_ev_bin, r_ev_neg, r_ev_not, r_ev_cmp, r_ev_band, r_ev_bor, r_ev_ite, r_ev_sub, r_ev_list, r_ev_tup, r_ev_call, r_ev_bfn, r_ev_meth, r_ev_comp] at hq
      refine wpAny_Tuple (wpAny_mono (sndEs cx es hc'.2 X hq) (fun rs s₁ hx => ?_) fun _ _ e => e)
      obtain ⟨vs, h₁, hvs, hlen, X₁, hq₁⟩ := hx
      have hl : vs.length ≤ lim := by have := hc'.1; unfold lim; (first | lia | omega)
      refine ⟨by rw [← hvs.length]; exact sizeLine_lim hl, ?_⟩
      obtain ⟨g1, g2⟩ := X₁.addPush (o := .tup vs) (ob := tupOb rs.toArray 0) (t := s₁.toks) (.tup (by simpa using hvs) hl)
      exact ⟨_, _, .ref _, g2, hq₁ _ g1⟩
  | .call f es, env, P, own, σ, h, s, x, Q, E, hc, X, hq => by
    obtain ⟨_, _, _, _, rfl, hc'⟩ := i_call hc
    · simp only [Bool.and_eq_true] at hc'
      simp only [r_ev_none, r_ev_bool, r_ev_int, r_ev_ty, r_ev_var, r_ev_bin, r_ev_neg, r_ev_not, r_ev_cmp, r_ev_band, r_ev_bor, r_ev_ite, r_ev_sub, r_ev_list, r_ev_tup, r_ev_call, r_ev_bfn, r_ev_meth, r_ev_comp] at hq
      exact callOf cx hc'.1.1 hc'.1.2 hc'.2 X (sndEs cx es hc'.2 X hq)
  | .bfn f es, env, P, own, σ, h, s, x, Q, E, hc, X, hq => by
    obtain ⟨_, _, _, _, rfl, hc'⟩ := i_bfn hc
    · simp only [Bool.and_eq_true] at hc'
      simp only [r_ev_none, r_ev_bool, r_ev_int, r_ev_ty, r_ev_var, r_ev_bin, r_ev_neg, r_ev_not, r_ev_cmp, r_ev_band, r_ev_bor, r_ev_ite, r_ev_sub, r_ev_list, r_ev_tup, r_ev_call, r_ev_bfn, r_ev_meth, r_ev_comp] at hq
      have hb := cx.ok.bf f
      refine wpAny_Call_NameR (loadBuiltin cx.ok hc'.1 X hb.1 hb.2 (bfn_callWith hc'.2 (wpAny_mono (sndEs cx es hc'.2 X hq) (fun rs s₁ hx => ?_) fun _ _ e => e)))
      obtain ⟨vs, h₁, hvs, hlen, X₁, hq₁⟩ := hx
      exact snd_bfn X₁ cx.ok cx.ns cx.rm hvs hq₁
  | .meth a m es, env, P, own, σ, h, s, x, Q, E, hc, X, hq => by
    obtain ⟨o, name, apos, l, pos, rfl, ho, hc'⟩ := i_meth hc
    · simp only [Bool.and_eq_true, beq_iff_eq, decide_eq_true_eq] at hc'
      obtain ⟨⟨⟨⟨rfl, hln⟩, hn⟩, h1⟩, h2⟩ := hc'
      simp only [r_ev_none, r_ev_bool, r_ev_int, r_ev_ty, r_ev_var, r_ev_bin, r_ev_neg, r_ev_not, r_ev_cmp, r_ev_band, r_ev_bor, r_ev_ite, r_ev_sub, r_ev_list, r_ev_tup, r_ev_call, r_ev_bfn, r_ev_meth, r_ev_comp] at hq
      rw [arm_eval_Call]
      refine wpAny_bind ?_
      rw [attrBase_ok ho]
      refine wpAny_mono (sndE cx a h1 X hq) (fun ra s₁ hx => ?_) fun _ _ e => e
      obtain ⟨va, h₁, hva, X₁, hL, hq₁⟩ := hx
      obtain ⟨b, ys, rfl, hb⟩ := isL_list hL
      cases hva
      obtain ⟨items, n, g1, g2, g3⟩ := X₁.rel.list hb
      refine wpAny_bind (wpAny_standAt ?_)
      unfold methodCall
      have hform : methodCallForm (l.length + ([] : List Keyword).length) (backTo pos (starEach l env)) (backToKw pos (keywordEach [] env)) = true := by
        unfold methodCallForm
        have h3 := chkEs_noStar (env := env) (pos := pos) h2
        have h4 : (backTo pos (starEach l env)).all (!·.1) = true := by
          rw [List.all_eq_true]
          intro p hp
          rw [List.any_eq_false] at h3
          have := h3 p hp
          simpa using this
        rw [h4]
        simp [keywordEach, backToKw]; (first | lia | omega)
      rw [hform]
      refine wpAny_bind (wpAny_holding ?_)
      show wpAny _ A (getMethod (.ref b) _ _) _ E s₁
      refine getMeth g1 ?_
      dsimp only
      refine wpAny_bind (m := methodCallPos true _ _ _ _) ?_
      unfold methodCallPos
      rw [if_pos (by rw [hln]; simp)]
      refine wpAny_pure ?_
      refine Calls.callWith_builtin (chkEs_noStar h2) (evalArgs_of h2 (wpAny_mono (sndEs cx es h2 X₁ hq₁) (fun rs s₂ hx => ?_) fun _ _ e => e))
      obtain ⟨vs, h₂, hvs, hlen, X₂, hq₂⟩ := hx
      exact snd_meth X₂ (.ref b) hvs hq₂
  | .comp elt t src ifs, env, P, own, σ, h, s, x, Q, E, hc, X, hq => by
    obtain ⟨el, tg, it, fs, csc, pos, rfl, hc'⟩ := i_comp hc
    · simp only [Bool.and_eq_true] at hc'
      obtain ⟨⟨⟨⟨⟨h1, h2⟩, h3⟩, h4⟩, h5⟩, h6⟩ := hc'
      simp only [r_ev_none, r_ev_bool, r_ev_int, r_ev_ty, r_ev_var, r_ev_bin, r_ev_neg, r_ev_not, r_ev_cmp, r_ev_band, r_ev_bor, r_ev_ite, r_ev_sub, r_ev_list, r_ev_tup, r_ev_call, r_ev_bfn, r_ev_meth, r_ev_comp] at hq
      rw [eval_ListComp]
      refine wpAny_comprehension_free rfl (folded_id h3) (closureFor_eq (comp_frees X h1)) (scOk.kind h1) (fun p hp hl => by rw [scOk.same h1 p hp, hl]) ?_
      refine wpAny_mono (sndSrc cx src h4 X hq) (fun r s₁ hx => ?_) fun _ _ e => e
      obtain ⟨xs, kp, h₁, X₁, hxl, hv, hq₁⟩ := hx
      exact comp_value cx.rm.hd h1 h2 (fun L P' σ' h' s' Q' E' Y hy => sndIfs cx ifs h5 Y hy) (fun L P' σ' h' s' Q' E' Y hy => sndE cx elt h6 Y hy) X₁ hv hxl hq₁
theorem sndEs (cx : Cx prog w K G A k) : ∀ (es : PEs) {env : PySem.Env} {P : Prt} {own : Str → Bool} {σ : Env} {h : H} {s : Shared} {pos : Pos} {l : List Expr} {Q : List V → H → Prop} {E : Value → Shared → Prop},
    chkEs K.fns env.scope es l = true → St K P own env σ h s → evs G es σ h Q → wpAny (model prog w) A (spliced (backTo pos (starEach l env))) (fun rs s' => ∃ vs h', VRs K vs rs ∧ vs.length = l.length ∧ St K P own env σ h' s' ∧ Q vs h') E s
  | .nil, env, P, own, σ, h, s, pos, l, Q, E, hc, X, hq => by
    cases i_nil hc
    · simp only [r_evs_nil, r_evs_cons] at hq; exact wpAny_items_nil ⟨[], h, .nil, rfl, X, hq⟩
  | .cons e r, env, P, own, σ, h, s, pos, l, Q, E, hc, X, hq => by
    obtain ⟨_, _, rfl, hc'⟩ := i_cons hc
    · simp only [Bool.and_eq_true] at hc'
      simp only [r_evs_nil, r_evs_cons] at hq
      refine wpAny_items_cons (wpAny_mono (sndE cx e hc'.1.2 X hq) (fun ra s₁ hx => ?_) fun _ _ e => e) (starEach_cons hc'.1.1)
      obtain ⟨va, h₁, hva, X₁, hq₁⟩ := hx
      refine wpAny_mono (sndEs cx r hc'.2 X₁ hq₁) (fun rs s₂ hx => ?_) fun _ _ e => e
      obtain ⟨vs, h₂, hvs, hlen, X₂, hq₂⟩ := hx
      exact ⟨_, _, .cons hva hvs, by simp [hlen], X₂, hq₂⟩
theorem sndAnd (cx : Cx prog w K G A k) : ∀ (es : PEs) {env : PySem.Env} {P : Prt} {own : Str → Bool} {σ : Env} {h : H} {s : Shared} {pos : Pos} {l : List Expr} {Q : V → H → Prop} {E : Value → Shared → Prop},
    chkEs K.fns env.scope es l = true → St K P own env σ h s → evAnd G es σ h Q → wpAny (model prog w) A (boolOp pos .And (evalEach l env)) (EP K P own env σ Q) E s
  | .nil, env, P, own, σ, h, s, pos, l, Q, E, hc, X, hq => by exact False.elim hq
  | .cons e .nil, env, P, own, σ, h, s, pos, l, Q, E, hc, X, hq => by
    obtain ⟨_, _, rfl, hc'⟩ := i_cons hc
    · simp only [Bool.and_eq_true] at hc'
      cases i_nil hc'.2
      exact wpAny_boolOp_one (sndE cx e hc'.1.2 X hq)
  | .cons e (.cons e' r), env, P, own, σ, h, s, pos, l, Q, E, hc, X, hq => by
    cases l with
    | nil => exact Bool.noConfusion hc
    | cons x xs =>
      rw [chkEs_cons] at hc
      simp only [Bool.and_eq_true] at hc
      obtain ⟨⟨h0, h1⟩, h2⟩ := hc
      cases xs with
      | nil => exact Bool.noConfusion h2
      | cons y ys =>
        rw [evAnd_cons2] at hq
        refine wpAny_boolOp_and (wpAny_mono (sndE cx e h1 X hq) (fun ra s₁ hx => ?_) fun _ _ e => e)
        obtain ⟨va, h₁, hva, X₁, hq₁⟩ := hx
        refine wpAny_mono (snd_truth (Q := fun b h₁ => if b then evAnd G (.cons e' r) σ h₁ Q else Q va h₁) X₁ hva hq₁) (fun b s₂ hx => ?_) fun _ _ e => e
        obtain ⟨h₂, X₂, hq₂⟩ := hx
        cases b with
        | true => exact sndAnd cx (.cons e' r) h2 X₂ hq₂
        | false => exact ⟨_, _, hva, X₂, hq₂⟩
theorem sndOr (cx : Cx prog w K G A k) : ∀ (es : PEs) {env : PySem.Env} {P : Prt} {own : Str → Bool} {σ : Env} {h : H} {s : Shared} {pos : Pos} {l : List Expr} {Q : V → H → Prop} {E : Value → Shared → Prop},
    chkEs K.fns env.scope es l = true → St K P own env σ h s → evOr G es σ h Q → wpAny (model prog w) A (boolOp pos .Or (evalEach l env)) (EP K P own env σ Q) E s
  | .nil, env, P, own, σ, h, s, pos, l, Q, E, hc, X, hq => by exact False.elim hq
  | .cons e .nil, env, P, own, σ, h, s, pos, l, Q, E, hc, X, hq => by
    obtain ⟨_, _, rfl, hc'⟩ := i_cons hc
    · simp only [Bool.and_eq_true] at hc'
      cases i_nil hc'.2
      exact wpAny_boolOp_one (sndE cx e hc'.1.2 X hq)
  | .cons e (.cons e' r), env, P, own, σ, h, s, pos, l, Q, E, hc, X, hq => by
    cases l with
    | nil => exact Bool.noConfusion hc
    | cons x xs =>
      rw [chkEs_cons] at hc
      simp only [Bool.and_eq_true] at hc
      obtain ⟨⟨h0, h1⟩, h2⟩ := hc
      cases xs with
      | nil => exact Bool.noConfusion h2
      | cons y ys =>
        rw [evOr_cons2] at hq
        refine wpAny_boolOp_or (wpAny_mono (sndE cx e h1 X hq) (fun ra s₁ hx => ?_) fun _ _ e => e)
        obtain ⟨va, h₁, hva, X₁, hq₁⟩ := hx
        refine wpAny_mono (snd_truth (Q := fun b h₁ => if b then Q va h₁ else evOr G (.cons e' r) σ h₁ Q) X₁ hva hq₁) (fun b s₂ hx => ?_) fun _ _ e => e
        obtain ⟨h₂, X₂, hq₂⟩ := hx
        cases b with
        | false => exact sndOr cx (.cons e' r) h2 X₂ hq₂
        | true => exact ⟨_, _, hva, X₂, hq₂⟩
theorem sndC (cx : Cx prog w K G A k) : ∀ (e : PE) {env : PySem.Env} {P : Prt} {own : Str → Bool} {σ : Env} {h : H} {s : Shared} {x : Expr} {Q : Bool → H → Prop} {E : Value → Shared → Prop},
    chkE K.fns env.scope e x = true → St K P own env σ h s → cond G e σ h Q → wpAny (model prog w) A (isTrue x env (eval x env)) (BP K P own env σ Q) E s
  | .not a, env, P, own, σ, h, s, x, Q, E, hc, X, hq => by
    obtain ⟨_, _, rfl, hc'⟩ := i_not hc
    · simp only [r_cond_not, r_cond_band, r_cond_bor, r_cond_cmp, r_cond_ite, r_cond_none, r_cond_bool, r_cond_int, r_cond_ty, r_cond_var, r_cond_bin, r_cond_neg, r_cond_sub, r_cond_list, r_cond_tup, r_cond_call, r_cond_bfn, r_cond_meth, r_cond_comp] at hq
      exact wpAny_isTrue_Not (sndC cx a hc' X hq)
  | .band es, env, P, own, σ, h, s, x, Q, E, hc, X, hq => by
    obtain ⟨_, _, rfl, hc'⟩ := i_band hc
    · simp only [r_cond_not, r_cond_band, r_cond_bor, r_cond_cmp, r_cond_ite, r_cond_none, r_cond_bool, r_cond_int, r_cond_ty, r_cond_var, r_cond_bin, r_cond_neg, r_cond_sub, r_cond_list, r_cond_tup, r_cond_call, r_cond_bfn, r_cond_meth, r_cond_comp] at hq
      exact wpAny_isTrue_BoolOp (sndCAnd cx es hc' X hq)
  | .bor es, env, P, own, σ, h, s, x, Q, E, hc, X, hq => by
    obtain ⟨_, _, rfl, hc'⟩ := i_bor hc
    · simp only [r_cond_not, r_cond_band, r_cond_bor, r_cond_cmp, r_cond_ite, r_cond_none, r_cond_bool, r_cond_int, r_cond_ty, r_cond_var, r_cond_bin, r_cond_neg, r_cond_sub, r_cond_list, r_cond_tup, r_cond_call, r_cond_bfn, r_cond_meth, r_cond_comp] at hq
      exact wpAny_isTrue_BoolOp (sndCOr cx es hc' X hq)
  | .cmp op a b, env, P, own, σ, h, s, x, Q, E, hc, X, hq => by
    obtain ⟨_, _, _, _, rfl, hc'⟩ := i_cmp hc
    · simp only [Bool.and_eq_true, beq_iff_eq, Bool.not_eq_true'] at hc'
      obtain ⟨⟨⟨rfl, hm⟩, h1⟩, h2⟩ := hc'
      simp only [r_cond_not, r_cond_band, r_cond_bor, r_cond_cmp, r_cond_ite, r_cond_none, r_cond_bool, r_cond_int, r_cond_ty, r_cond_var, r_cond_bin, r_cond_neg, r_cond_sub, r_cond_list, r_cond_tup, r_cond_call, r_cond_bfn, r_cond_meth, r_cond_comp] at hq
      refine wpAny_isTrue_Compare1 (wpAny_mono (sndE cx a h1 X hq) (fun ra s₁ hx => ?_) fun _ _ e => e) hm
      obtain ⟨va, h₁, hva, X₁, hq₁⟩ := hx
      refine wpAny_mono (sndE cx b h2 X₁ hq₁) (fun rb s₂ hx => ?_) fun _ _ e => e
      obtain ⟨vb, h₂, hvb, X₂, hq₂⟩ := hx
      refine wpAny_mono (snd_cmp X₂ cx.rm hva hvb hq₂) (fun r s₃ hx => ?_) fun _ _ e => e
      obtain ⟨v, h₃, hv, X₃, hq₃⟩ := hx
      exact snd_truth X₃ hv hq₃
  | .ite c a b, env, P, own, σ, h, s, x, Q, E, hc, X, hq => by
    obtain ⟨_, _, _, _, rfl, hc'⟩ := i_ite hc
    · simp only [Bool.and_eq_true] at hc'
      simp only [r_cond_not, r_cond_band, r_cond_bor, r_cond_cmp, r_cond_ite, r_cond_none, r_cond_bool, r_cond_int, r_cond_ty, r_cond_var, r_cond_bin, r_cond_neg, r_cond_sub, r_cond_list, r_cond_tup, r_cond_call, r_cond_bfn, r_cond_meth, r_cond_comp] at hq
      rw [arm_isTrue_IfExp]
      refine wpAny_bind (wpAny_mono (sndC cx c hc'.1.1 X hq) (fun r s₁ hx => ?_) fun _ _ e => e)
      obtain ⟨h₁, X₁, hq₁⟩ := hx
      cases r with
      | true => exact sndC cx a hc'.1.2 X₁ hq₁
      | false => exact sndC cx b hc'.2 X₁ hq₁
  | .none, env, P, own, σ, h, s, x, Q, E, hc, X, hq => by exact False.elim hq
  | .bool b, env, P, own, σ, h, s, x, Q, E, hc, X, hq => by
    obtain ⟨_, _, _, rfl, hc'⟩ := i_bool hc
    · simp only [beq_iff_eq] at hc'
      subst hc'
      simp only [r_cond_not, r_cond_band, r_cond_bor, r_cond_cmp, r_cond_ite, r_cond_none, r_cond_bool, r_cond_int, r_cond_ty, r_cond_var, r_cond_bin, r_cond_neg, r_cond_sub, r_cond_list, r_cond_tup, r_cond_call, r_cond_bfn, r_cond_meth, r_cond_comp] at hq
      exact wpAny_isTrue_value (wpAny_Constant_bool (wpAny_truthy_bool ⟨_, X, hq⟩))
  | .int _, env, P, own, σ, h, s, x, Q, E, hc, X, hq => by exact False.elim hq
  | .ty _, env, P, own, σ, h, s, x, Q, E, hc, X, hq => by exact False.elim hq
  | .var x', env, P, own, σ, h, s, x, Q, E, hc, X, hq => by
    obtain ⟨_, _, rfl, hc'⟩ := i_var hc
    · simp only [r_cond_not, r_cond_band, r_cond_bor, r_cond_cmp, r_cond_ite, r_cond_none, r_cond_bool, r_cond_int, r_cond_ty, r_cond_var, r_cond_bin, r_cond_neg, r_cond_sub, r_cond_list, r_cond_tup, r_cond_call, r_cond_bfn, r_cond_meth, r_cond_comp] at hq
      cases q : σ x' with
      | none => simp only [q] at hq
      | some v =>
        simp only [q] at hq
        exact wpAny_isTrue_value (loadVar hc' X q fun r hr => snd_truth X hr hq)
  | .bin _ _ _, env, P, own, σ, h, s, x, Q, E, hc, X, hq => by exact False.elim hq
  | .neg _, env, P, own, σ, h, s, x, Q, E, hc, X, hq => by exact False.elim hq
  | .sub a i, env, P, own, σ, h, s, x, Q, E, hc, X, hq => by
    obtain ⟨_, _, _, rfl, hc'⟩ := i_sub hc
    · simp only [Bool.and_eq_true] at hc'
      simp only [r_cond_not, r_cond_band, r_cond_bor, r_cond_cmp, r_cond_ite, r_cond_none, r_cond_bool, r_cond_int, r_cond_ty, r_cond_var, r_cond_bin, r_cond_neg, r_cond_sub, r_cond_list, r_cond_tup, r_cond_call, r_cond_bfn, r_cond_meth, r_cond_comp] at hq
      refine wpAny_isTrue_value (Subscript_ (wpAny_mono (sndE cx a hc'.1.2 X hq) (fun ra s₁ hx => ?_) fun _ _ e => e))
      obtain ⟨va, h₁, hva, X₁, hq₁⟩ := hx
      refine wpAny_mono (sndE cx i hc'.2 X₁ hq₁) (fun rb s₂ hx => ?_) fun _ _ e => e
      obtain ⟨vb, h₂, hvb, X₂, hq₂⟩ := hx
      refine wpAny_mono (snd_sub X₂ (by have := cx.rm.un; (first | lia | omega)) cx.ok cx.ns hva hvb hq₂ (subscripted_id hc'.1.1)) (fun r s₃ hx => ?_) fun _ _ e => e
      obtain ⟨v, h₃, hv, X₃, hq₃⟩ := hx
      exact snd_truth X₃ hv hq₃
  | .take _ _, env, P, own, σ, h, s, x, Q, E, hc, X, hq => by exact False.elim hq
  | .list _, env, P, own, σ, h, s, x, Q, E, hc, X, hq => by exact False.elim hq
  | .tup _, env, P, own, σ, h, s, x, Q, E, hc, X, hq => by exact False.elim hq
  | .call f es, env, P, own, σ, h, s, x, Q, E, hc, X, hq => by
    obtain ⟨_, _, _, _, rfl, hc'⟩ := i_call hc
    · simp only [Bool.and_eq_true] at hc'
      simp only [r_cond_not, r_cond_band, r_cond_bor, r_cond_cmp, r_cond_ite, r_cond_none, r_cond_bool, r_cond_int, r_cond_ty, r_cond_var, r_cond_bin, r_cond_neg, r_cond_sub, r_cond_list, r_cond_tup, r_cond_call, r_cond_bfn, r_cond_meth, r_cond_comp] at hq
      refine wpAny_isTrue_value (wpAny_mono (callOf cx hc'.1.1 hc'.1.2 hc'.2 X (sndEs cx es hc'.2 X hq)) (fun r s₃ hx => ?_) fun _ _ e => e)
      obtain ⟨v, h₃, hv, X₃, hq₃⟩ := hx
      exact snd_truth X₃ hv hq₃
  | .bfn f es, env, P, own, σ, h, s, x, Q, E, hc, X, hq => by
    obtain ⟨_, _, _, _, rfl, hc'⟩ := i_bfn hc
    · simp only [Bool.and_eq_true] at hc'
      simp only [r_cond_not, r_cond_band, r_cond_bor, r_cond_cmp, r_cond_ite, r_cond_none, r_cond_bool, r_cond_int, r_cond_ty, r_cond_var, r_cond_bin, r_cond_neg, r_cond_sub, r_cond_list, r_cond_tup, r_cond_call, r_cond_bfn, r_cond_meth, r_cond_comp] at hq
      have hb := cx.ok.bf f
      refine wpAny_isTrue_value (wpAny_Call_NameR (loadBuiltin cx.ok hc'.1 X hb.1 hb.2 (bfn_callWith hc'.2 (wpAny_mono (sndEs cx es hc'.2 X hq) (fun rs s₁ hx => ?_) fun _ _ e => e))))
      obtain ⟨vs, h₁, hvs, hlen, X₁, hq₁⟩ := hx
      refine wpAny_mono (snd_bfn X₁ cx.ok cx.ns cx.rm hvs hq₁) (fun r s₃ hx => ?_) fun _ _ e => e
      obtain ⟨v, h₃, hv, X₃, hq₃⟩ := hx
      exact snd_truth X₃ hv hq₃
  | .meth _ _ _, env, P, own, σ, h, s, x, Q, E, hc, X, hq => by exact False.elim hq
  | .comp _ _ _ _, env, P, own, σ, h, s, x, Q, E, hc, X, hq => by exact False.elim hq
theorem sndCAnd (cx : Cx prog w K G A k) : ∀ (es : PEs) {env : PySem.Env} {P : Prt} {own : Str → Bool} {σ : Env} {h : H} {s : Shared} {l : List Expr} {Q : Bool → H → Prop} {E : Value → Shared → Prop},
    chkEs K.fns env.scope es l = true → St K P own env σ h s → condAnd G es σ h Q → wpAny (model prog w) A (allTrue .And l env) (BP K P own env σ Q) E s
  | .nil, env, P, own, σ, h, s, l, Q, E, hc, X, hq => by
    cases i_nil hc
    · simp only [r_condAnd_nil, r_condAnd_cons] at hq; exact wpAny_allTrue_And_nil ⟨_, X, hq⟩
  | .cons e r, env, P, own, σ, h, s, l, Q, E, hc, X, hq => by
    obtain ⟨_, _, rfl, hc'⟩ := i_cons hc
    · simp only [Bool.and_eq_true] at hc'
      simp only [r_condAnd_nil, r_condAnd_cons] at hq
      refine wpAny_allTrue_And_cons (wpAny_mono (sndC cx e hc'.1.2 X hq) (fun b s₁ hx => ?_) fun _ _ e => e)
      obtain ⟨h₁, X₁, hq₁⟩ := hx
      cases b with
      | true => exact sndCAnd cx r hc'.2 X₁ hq₁
      | false => exact ⟨_, X₁, hq₁⟩
theorem sndCOr (cx : Cx prog w K G A k) : ∀ (es : PEs) {env : PySem.Env} {P : Prt} {own : Str → Bool} {σ : Env} {h : H} {s : Shared} {l : List Expr} {Q : Bool → H → Prop} {E : Value → Shared → Prop},
    chkEs K.fns env.scope es l = true → St K P own env σ h s → condOr G es σ h Q → wpAny (model prog w) A (allTrue .Or l env) (BP K P own env σ Q) E s
  | .nil, env, P, own, σ, h, s, l, Q, E, hc, X, hq => by
    cases i_nil hc
    · simp only [r_condOr_nil, r_condOr_cons] at hq; exact wpAny_allTrue_Or_nil ⟨_, X, hq⟩
  | .cons e r, env, P, own, σ, h, s, l, Q, E, hc, X, hq => by
    obtain ⟨_, _, rfl, hc'⟩ := i_cons hc
    · simp only [Bool.and_eq_true] at hc'
      simp only [r_condOr_nil, r_condOr_cons] at hq
      refine wpAny_allTrue_Or_cons (wpAny_mono (sndC cx e hc'.1.2 X hq) (fun b s₁ hx => ?_) fun _ _ e => e)
      obtain ⟨h₁, X₁, hq₁⟩ := hx
      cases b with
      | false => exact sndCOr cx r hc'.2 X₁ hq₁
      | true => exact ⟨_, X₁, hq₁⟩
theorem sndIfs (cx : Cx prog w K G A k) : ∀ (es : PEs) {env : PySem.Env} {P : Prt} {own : Str → Bool} {σ : Env} {h : H} {s : Shared} {l : List Expr} {Q : Bool → H → Prop} {E : Value → Shared → Prop},
    chkEs K.fns env.scope es l = true → St K P own env σ h s → condAnd G es σ h Q → wpAny (model prog w) A (testsT l env) (BP K P own env σ Q) E s
  | .nil, env, P, own, σ, h, s, l, Q, E, hc, X, hq => by
    cases i_nil hc
    · simp only [r_condAnd_nil, r_condAnd_cons] at hq; exact wpAny_pure ⟨_, X, hq⟩
  | .cons e r, env, P, own, σ, h, s, l, Q, E, hc, X, hq => by
    obtain ⟨_, _, rfl, hc'⟩ := i_cons hc
    · simp only [Bool.and_eq_true] at hc'
      simp only [r_condAnd_nil, r_condAnd_cons] at hq
      refine tests_cons (wpAny_mono (sndC cx e hc'.1.2 X hq) (fun b s₁ hx => ?_) fun _ _ e => e)
      obtain ⟨h₁, X₁, hq₁⟩ := hx
      cases b with
      | true => exact sndIfs cx r hc'.2 X₁ hq₁
      | false => exact ⟨_, X₁, hq₁⟩
theorem sndSrc (cx : Cx prog w K G A k) : ∀ (src : Src) {env : PySem.Env} {P : Prt} {own : Str → Bool} {σ : Env} {h : H} {s : Shared} {x : Expr} {Q : SrcK} {E : Value → Shared → Prop},
    chkSrc K.fns env.scope src x = true → St K P own env σ h s → evSrc G src σ h Q →
    wpAny (model prog w) A (eval x env) (fun r s' => ∃ xs kp h', St K P own env σ h' s' ∧ xs.length ≤ lim ∧ SrcV prog w A r xs kp s' ∧ Q xs kp h') E s
  | .up a, env, P, own, σ, h, s, x, Q, E, hc, X, hq => by
    obtain ⟨id, p, y, pos, rfl, hc'⟩ := i_up hc
    · simp only [Bool.and_eq_true] at hc'
      simp only [r_evSrc_up, r_evSrc_fromTo, r_evSrc_seq] at hq
      have hr := cx.ok.rng
      refine wpAny_Call_NameR (loadBuiltin cx.ok hc'.1.1 X hr.1 hr.2 ?_)
      rw [starEach_cons hc'.1.2]
      refine PySem.callWith_type rfl (Calls.evalArgs_plain (Calls.spliced_cons (wpAny_mono (sndE cx a hc'.2 X hq) (fun ra s₁ hx => ?_) fun _ _ e => e)))
      obtain ⟨va, h₁, hva, X₁, hq₁⟩ := hx
      refine Calls.spliced_nil ?_
      cases hva <;> (try exact hq₁.elim)
      rename_i n t
      refine call_range_1 ⟨_, Option.none, h₁, X₁.grow (.push s₁ _ _), ?_, srcV_range (n := (n - 0).toNat) (IsRange.new ..) (small_up (a := 0) (by unfold inLim; (first | lia | omega)) hq₁.1).1 (small_up (a := 0) (by unfold inLim; (first | lia | omega)) hq₁.1).2, by rw [← upTo_rngL]; exact hq₁.2⟩
      rw [rngL_length]; have := hq₁.1; unfold inLim at this; unfold lim; (first | lia | omega)
  | .fromTo a b, env, P, own, σ, h, s, x, Q, E, hc, X, hq => by
    obtain ⟨id, p, y, z, pos, rfl, hc'⟩ := i_fromTo hc
    · simp only [Bool.and_eq_true] at hc'
      obtain ⟨⟨⟨⟨h0, h1⟩, h2⟩, h3⟩, h4⟩ := hc'
      simp only [r_evSrc_up, r_evSrc_fromTo, r_evSrc_seq] at hq
      have hr := cx.ok.rng
      refine wpAny_Call_NameR (loadBuiltin cx.ok h0 X hr.1 hr.2 ?_)
      rw [starEach_cons h1, starEach_cons h2]
      refine PySem.callWith_type rfl (Calls.evalArgs_plain (Calls.spliced_cons (wpAny_mono (sndE cx a h3 X hq) (fun ra s₁ hx => ?_) fun _ _ e => e)))
      obtain ⟨va, h₁, hva, X₁, hq₁⟩ := hx
      refine Calls.spliced_cons (wpAny_mono (sndE cx b h4 X₁ hq₁) (fun rb s₂ hx => ?_) fun _ _ e => e)
      obtain ⟨vb, h₂, hvb, X₂, hq₂⟩ := hx
      refine Calls.spliced_nil ?_
      cases hva <;> (try exact hq₂.elim)
      cases hvb <;> (try exact hq₂.elim)
      rename_i m t n u
      refine call_range_2 ⟨_, Option.none, h₂, X₂.grow (.push s₂ _ _), ?_, srcV_range (n := (n - m).toNat) (IsRange.new ..) (small_up hq₂.1 hq₂.2.1).1 (small_up hq₂.1 hq₂.2.1).2, by rw [← upTo_rngL]; exact hq₂.2.2⟩
      rw [rngL_length]; have := hq₂.1; have := hq₂.2.1; unfold inLim at *; unfold lim; (first | lia | omega)
  | .seq e, env, P, own, σ, h, s, x, Q, E, hc, X, hq => by
    simp only [chkSrc] at hc
    simp only [r_evSrc_up, r_evSrc_fromTo, r_evSrc_seq] at hq
    refine wpAny_mono (sndE cx e hc X hq) (fun ra s₁ hx => ?_) fun _ _ e => e
    obtain ⟨va, h₁, hva, X₁, hq₁⟩ := hx
    cases hva <;> (try exact hq₁.elim)
    rename_i a
    cases q : h₁ a with
    | none => simp only [q] at hq₁
    | some o =>
      cases o with
      | dict kvs => simp only [q] at hq₁
      | tup xs => simp only [q] at hq₁
      | list xs =>
        simp only [q] at hq₁
        obtain ⟨_, _, _, _, hl⟩ := X₁.rel.list q
        exact ⟨xs, _, h₁, X₁, hl, srcV_list X₁.rel q, hq₁⟩
end
end
end MP

end
section
namespace MP
open PySem PyProof.Rows

theorem zip_lookup_isSome : ∀ (ns : List Str) (rs : List Value), rs.length = ns.length → ∀ n ∈ ns, ((ns.zip rs).lookup n).isNone = false
  | [], _, _, _, h => nomatch h
  | m :: ns, [], hl, _, _ => by simp at hl
  | m :: ns, r :: rs, hl, n, hn => by
    simp only [List.zip_cons_cons, List.lookup_cons]
    cases q : n == m with
    | true => rfl
    | false =>
      refine zip_lookup_isSome ns rs (by simpa using hl) n ?_
      rcases List.mem_cons.mp hn with rfl | h
      · simp at q
      · exact h
theorem zip_filterMap : ∀ (ns : List Str) (rs : List Value), rs.length = ns.length → ns.Nodup → ∀ (L : List (Str × Value)), (∀ n ∈ ns, L.lookup n = (ns.zip rs).lookup n) → ns.filterMap (fun n => (L.lookup n).map fun x => (n, x)) = ns.zip rs
  | [], _, _, _, _, _ => rfl
  | m :: ns, [], hl, _, _, _ => by simp at hl
  | m :: ns, r :: rs, hl, hn, L, hL => by
    obtain ⟨hm, hn'⟩ := List.nodup_cons.mp hn
    have h0 := hL m List.mem_cons_self
    simp only [List.zip_cons_cons, List.lookup_cons, beq_self_eq_true] at h0
    rw [List.filterMap_cons, h0]
    simp only [Option.map_some, List.zip_cons_cons]
    rw [zip_filterMap ns rs (by simpa using hl) hn' L fun n hn2 => by
      have := hL n (List.mem_cons_of_mem _ hn2)
      rw [this, List.zip_cons_cons, List.lookup_cons]
      have q : (n == m) = false := by
        cases q : n == m with
        | false => rfl
        | true => exact absurd (beq_iff_eq.mp q ▸ hn2) hm
      rw [q]]

theorem bind_plain {fd : FuncData} {as : List Arg} (hp : fd.params = ⟨[], as, none, [], [], none, []⟩) (hd : fd.defaults = .none) {rs : List Value} (hl : rs.length = as.length) (hn : (as.map (·.arg)).Nodup) :
    bindArgs fd ⟨rs, []⟩ = pure ((as.map (·.arg)).zip rs) := by
  have h1 : rs.length = (as.map (·.arg)).length := by simpa using hl
  have h2 := zip_lookup_isSome _ _ h1
  have h3 := zip_filterMap _ _ h1 hn _ fun n _ => rfl
  have h4 : ((as.map (·.arg)).filter fun n => (((as.map (·.arg)).zip rs).lookup n).isNone) = [] := by
    rw [List.filter_eq_nil_iff]
    intro n hn; rw [h2 n hn]; simp
  unfold bindArgs
  simp only [hp, hd]
  generalize as.map (·.arg) = ns at *
  have h5 : ¬ (rs.length > ns.length) := by (first | lia | omega)
  have e1 : seqItems? Value.none = pure none := rfl
  have e2 : ns.take (ns.length - (List.drop ((#[] : Array Value).toList.length - ns.length) (#[] : Array Value).toList).length) = ns := by simp
  simp only [List.forIn_nil, pure_bind, e1, List.map_nil, List.nil_append, decide_eq_false h5, Bool.false_and, Bool.false_eq_true, if_false, Option.getD_none, e2, h4, List.isEmpty_nil, Bool.not_true]
  simp [h3]
end MP

end
section
namespace MP
open PySem PyProof.Rows

inductive FL (K : KK) : Flow → PySem.Flow → Prop
  | next : FL K .next .next
  | ret {v : V} {r : Value} : VR K v r → FL K (.ret v) (.ret r)

noncomputable abbrev SP (K : KK) (P : Prt) (own : Str → Bool) (env : PySem.Env) (Q : Flow → Env → H → Prop) : PySem.Flow → Shared → Prop :=
  fun f s' => ∃ fl σ' h', FL K fl f ∧ St K P own env σ' h' s' ∧ Q fl σ' h'

noncomputable abbrev allOwn : Str → Bool := fun _ => true

theorem swaps_no {v : Expr} {t : Option Expr} {line : Nat} {env : PySem.Env} (h : notComp v = true) : swapsWith v t line env = pure false := by
  cases v <;> first | rfl | cases h
theorem swaps_sub {v o i : Expr} {p : Pos} {line : Nat} {env : PySem.Env} : swapsWith v (some (.Subscript o i p)) line env = pure false := by
  cases v <;> rfl

section
variable {prog : Program} {w : World} {A : Around} {k : Nat}
variable {K : KK} {G : Par}

mutual
theorem sndS (cx : Cx prog w K G A k) : ∀ (st : PS) {env : PySem.Env} {P : Prt} {σ : Env} {h : H} {s : Shared} {x : Stmt} {Q : Flow → Env → H → Prop} {E : Value → Shared → Prop},
    chkS K.fns env.scope st x = true → St K P allOwn env σ h s → exec G st σ h Q → wpAny (model prog w) A (PySem.exec x env) (SP K P allOwn env Q) E s
  | .assign (.tg (.name y)) e, env, P, σ, h, s, x, Q, E, hc, X, hq => by
    obtain ⟨id, p, v, pos, rfl, hc'⟩ := i_assign hc
    · simp only [Bool.and_eq_true] at hc'
      obtain ⟨⟨h1, h2⟩, h3⟩ := hc'
      simp only [r_exec_assign_tg, r_exec_assign_sub, r_exec_expr, r_exec_ite, r_exec_whl, r_exec_fr, r_exec_ret] at hq
      have h1' := h1
      obtain ⟨_, _, qn, h1⟩ := i_nm (show chkNm env.scope (fun _ => true) y (.Name id p) = true from h1)
      cases qn
      simp only [Bool.and_eq_true, beq_iff_eq, bne_iff_ne] at h1
      obtain ⟨⟨rfl, hx⟩, hk⟩ := h1
      have hk' : env.kindOf (Str.ofString y) = some .local ∨ (env.kindOf (Str.ofString y) = some .cell ∧ allOwn (Str.ofString y) = true) := by
        show env.scope.names.lookup _ = _ ∨ _
        split at hk
        · rename_i e; exact .inl e
        · rename_i e; exact .inr ⟨e, rfl⟩
        · cases hk
      have plain : swapsWith v (some (.Name (Str.ofString y) p)) pos.line env = pure false → wpAny (model prog w) A (PySem.exec (.Assign [.Name (Str.ofString y) p] v pos) env) (SP K P allOwn env Q) E s := fun hs => by
        refine wpAny_Assign_Name (wpAny_mono (sndE cx e h3 X hq) (fun r s₁ hx' => ?_) fun _ _ e => e) hs
        obtain ⟨va, h₁, hva, X₁, hq₁⟩ := hx'
        exact X₁.store hx hva hk' fun s' X' _ _ => ⟨_, _, _, .next, X', hq₁⟩
      by_cases hn : notComp v = true
      · exact plain (swaps_no hn)
      · have hce : isComp e = true := by
          rcases Bool.or_eq_true_iff.mp h2 with q | q
          · exact q
          · exact absurd q hn
        cases e <;> (try cases hce)
        rename_i elt t src ifs
        have h3' := h3
        obtain ⟨el, tg, it, ts, csc, cpos, rfl, h9⟩ := i_comp h3
        · simp only [Bool.and_eq_true] at h9
          obtain ⟨⟨⟨⟨⟨g1, g2⟩, g3⟩, g4⟩, g5⟩, g6⟩ := h9
          have hsw : swapsWith (.ListComp el [⟨tg, it, ts, 0⟩] csc cpos) (some (.Name (Str.ofString y) p)) pos.line env = pure (env.blockKind == .function && env.kindOf (Str.ofString y) == some .local && p.line == (Expr.ListComp el [⟨tg, it, ts, 0⟩] csc cpos).pos.line
      && !(csc.names.any fun (n, k) => n == Str.ofString y && (k == .local || k == .cell))) := rfl
          cases hb : (env.blockKind == .function && env.kindOf (Str.ofString y) == some .local && p.line == (Expr.ListComp el [⟨tg, it, ts, 0⟩] csc cpos).pos.line
      && !(csc.names.any fun (n, k) => n == Str.ofString y && (k == .local || k == .cell))) with
          | false => rw [hb] at hsw; exact plain hsw
          | true =>
            rw [hb] at hsw
            rw [exec_Assign_Name_used _ _ _ _ hsw, arm_evalThenUse_ListComp]
            refine wpAny_bind (wpAny_standAt (wpAny_bind (wpAny_bind ?_)))
            simp only [r_ev_none, r_ev_bool, r_ev_int, r_ev_ty, r_ev_var, r_ev_bin, r_ev_neg, r_ev_not, r_ev_cmp, r_ev_band, r_ev_bor, r_ev_ite, r_ev_sub, r_ev_list, r_ev_tup, r_ev_call, r_ev_bfn, r_ev_meth, r_ev_comp] at hq
            refine wpAny_comprehension_free rfl (folded_id g3) (closureFor_eq (comp_frees X g1)) (scOk.kind g1) (fun p hp hl => by rw [scOk.same g1 p hp, hl]) ?_
            refine wpAny_mono (sndSrc cx src g4 X hq) (fun r s₁ hx => ?_) fun _ _ e => e
            obtain ⟨xs, kp, h₁, X₁, hxl, hv, hq₁⟩ := hx
            have := comp_store (E := E) (pos := cpos) (iter := it) cx.rm.hd g1 g2 h1' (fun L P' σ' h' s' Q' E' Y hy => sndIfs cx ifs g5 Y hy) (fun L P' σ' h' s' Q' E' Y hy => sndE cx elt g6 Y hy) X₁ hv hxl hq₁
            refine wpAny_mono this (fun it' s₂ hx => wpAny_mono hx (fun acc s₃ hx => wpAny_mono hx (fun cenv s₄ hx => codeAny_mono hx fun r s' hx => ?_) fun _ _ e => e) fun _ _ e => e) fun _ _ e => e
            cases r with
            | error x => exact hx
            | ok f =>
              refine wpAny_mono hx (fun _ s'' hx => ?_) fun _ _ e => e
              obtain ⟨m, hm, hx⟩ := hx
              refine ⟨m, hm, fun hp hs => ?_⟩
              obtain ⟨σ', h', X', hq'⟩ := hx hp hs
              exact wpAny_pure (wpAny_pure ⟨_, _, _, .next, X', hq'⟩)
  | .assign (.sub a i) e, env, P, σ, h, s, x, Q, E, hc, X, hq => by
    obtain ⟨_, _, _, _, _, rfl, hc'⟩ := i_set hc
    · simp only [Bool.and_eq_true] at hc'
      simp only [r_exec_assign_tg, r_exec_assign_sub, r_exec_expr, r_exec_ite, r_exec_whl, r_exec_fr, r_exec_ret] at hq
      refine wpAny_Assign_Subscript (wpAny_mono (sndE cx e hc'.2 X hq) (fun r s₁ hx => ?_) fun _ _ e => e) swaps_sub
      obtain ⟨v, h₁, hv, X₁, hq₁⟩ := hx
      refine wpAny_mono (sndE cx a hc'.1.1 X₁ hq₁) (fun r s₁ hx => ?_) fun _ _ e => e
      obtain ⟨va, h₂, hva, X₂, hq₂⟩ := hx
      refine wpAny_mono (sndE cx i hc'.1.2 X₂ hq₂) (fun r s₁ hx => ?_) fun _ _ e => e
      obtain ⟨vi, h₃, hvi, X₃, hq₃⟩ := hx
      refine wpAny_mono (snd_setSub X₃ (by have := cx.rm.un; (first | lia | omega)) hva hvi hv hq₃) (fun _ s₄ hx => ?_) fun _ _ e => e
      obtain ⟨h₄, X₄, hq₄⟩ := hx
      exact ⟨_, _, _, .next, X₄, hq₄⟩
  | .expr e, env, P, σ, h, s, x, Q, E, hc, X, hq => by
    obtain ⟨_, _, _, _, _, rfl, hc'⟩ := i_expr hc
    · simp only [r_exec_assign_tg, r_exec_assign_sub, r_exec_expr, r_exec_ite, r_exec_whl, r_exec_fr, r_exec_ret] at hq
      refine wpAny_Expr (wpAny_mono (sndE cx e hc' X hq) (fun r s₁ hx => ?_) fun _ _ e => e) (by unfold interactive; rw [X.fr.kind]; rfl) rfl
      obtain ⟨v, h₁, hv, X₁, hq₁⟩ := hx
      cases hv <;> (try exact hq₁.elim)
      exact ⟨_, _, _, .next, X₁, hq₁⟩
  | .ite c a b, env, P, σ, h, s, x, Q, E, hc, X, hq => by
    obtain ⟨_, _, _, _, rfl, hc'⟩ := i_if hc
    · simp only [Bool.and_eq_true] at hc'
      simp only [r_exec_assign_tg, r_exec_assign_sub, r_exec_expr, r_exec_ite, r_exec_whl, r_exec_fr, r_exec_ret] at hq
      refine wpAny_If (wpAny_mono (sndC cx c hc'.1.1 X hq) (fun r s₁ hx => ?_) fun _ _ e => e)
      obtain ⟨h₁, X₁, hq₁⟩ := hx
      cases r with
      | true => exact sndSs cx a hc'.1.2 X₁ hq₁
      | false => exact sndSs cx b hc'.2 X₁ hq₁
  | .whl c b, env, P, σ, h, s, x, Q, E, hc, X, hq => by
    obtain ⟨_, _, _, rfl, hc'⟩ := i_whl hc
    · simp only [Bool.and_eq_true] at hc'
      simp only [r_exec_assign_tg, r_exec_assign_sub, r_exec_expr, r_exec_ite, r_exec_whl, r_exec_fr, r_exec_ret] at hq
      obtain ⟨n, hq⟩ := hq
      refine wpAny_While (codeAny_whileLoop (fun j s => ∃ σ h, St K P allOwn env σ h s ∧ whileW (fun σ h K => cond G c σ h K) (fun σ h K => execs G b σ h K) j σ h Q) (fun j s hI => ?_) n ⟨σ, h, X, hq⟩)
      obtain ⟨σ, h, X, hq⟩ := hI
      cases j with
      | zero => exact hq.elim
      | succ j =>
        simp only [whileW] at hq
        refine wpAny_mono (sndC cx c hc'.1 X hq) (fun r s₁ hx => ?_) fun _ _ e => e
        obtain ⟨h₁, X₁, hq₁⟩ := hx
        cases r with
        | false => exact wpAny_execs_nil ⟨_, _, _, .next, X₁, hq₁⟩
        | true =>
          refine wpAny_mono (sndSs cx b hc'.2 X₁ hq₁) (fun f s₂ hx => ?_) fun _ _ e => e
          obtain ⟨fl, σ₂, h₂, hf, X₂, hq₂⟩ := hx
          cases hf with
          | next => exact ⟨j, Nat.lt_succ_self _, σ₂, h₂, X₂, hq₂⟩
          | ret hv => exact ⟨_, _, _, .ret hv, X₂, hq₂⟩
  | .fr t src b, env, P, σ, h, s, x, Q, E, hc, X, hq => by
    obtain ⟨tg, it, l, pos, rfl, hc'⟩ := i_fr hc
    · simp only [Bool.and_eq_true] at hc'
      obtain ⟨⟨⟨h1, h2⟩, h3⟩, h4⟩ := hc'
      simp only [r_exec_assign_tg, r_exec_assign_sub, r_exec_expr, r_exec_ite, r_exec_whl, r_exec_fr, r_exec_ret] at hq
      refine wpAny_For (wpAny_mono (sndSrc cx src h3 X hq) (fun r s₁ hx => ?_) fun _ _ e => e) (folded_id h2)
      obtain ⟨xs, kp, h₁, X₁, hxl, hv, hq₁⟩ := hx
      refine hv E _ fun I s₂ g hI0 hI => ?_
      have X₂ := X₁.grow g
      have hPI : P I = none := X₁.rel.p_none_of hI0
      clear X hq hv X₁ hxl hI0 g
      refine codeAny_forLoop_any (fun j s => ∃ rest σ h, j = rest.length ∧ St K P allOwn env σ h s ∧ ItAt I kp rest s ∧ forW (fun v σ h K => tgW t v σ h fun σ' => execs G b σ' h K) kp rest σ h Q) (fun j s hJ => ?_) xs.length ⟨xs, σ, h₁, rfl, X₂, hI, hq₁⟩
      clear hI X₂ hq₁
      obtain ⟨rest, σ, h, rfl, X, hI, hq⟩ := hJ
      obtain ⟨obI, hI1, hI2⟩ := hI.ob
      cases rest with
      | nil =>
        simp only [forW] at hq
        refine iter_end cx.rm.hd X.rel hq.1 hI fun s' k1 k2 k3 => ?_
        exact wpAny_execs_nil ⟨_, _, _, .next, X.junkF hI1 hI2 hPI k1 k2 k3, hq.2⟩
      | cons v rest =>
        simp only [forW] at hq
        refine iter_item X.rel hq.1 hI fun rv s₁ hv hI₁ k1 k2 k3 => ?_
        have X₁ := X.junkF hI1 hI2 hPI (fun b o hb e => (k1 b hb).trans e) k2 k3
        refine sndGo h1 hv hq.2 hI₁ (fun q => by subst q; exact hI.int) ?_
        refine sndTg cx.rm.hd h1 X₁ hv hq.2 fun σ' s₂ X₂ hq₂ k4 _ => ?_
        obtain ⟨obI', hI1', fs', hI2'⟩ := hI₁.ob
        have hIo : s₂.heap.get? I = some obI' := k4 _ _ hI1' (fun _ _ q => by rw [hI2'] at q; cases q) (fun _ q => by rw [hI2'] at q; cases q)
        have hI₂ := hI₁.at fun o e => by rw [hI1'] at e; cases e; exact hIo
        have X₃ := X₂.guard' hIo (X₂.rel.nm_shape hIo (by rw [hI2']; intros; simp) (by rw [hI2']; intros; simp)) (by rw [hI2']; intros; simp) (by rw [hI2']; intros; simp)
        refine wpAny_mono (sndSs cx b h4 X₃ hq₂) (fun f s₃ hx => ?_) fun _ _ e => e
        obtain ⟨fl, σ₃, h₃, hf, X₄, hq₃⟩ := hx
        obtain ⟨Z, hI₃, _⟩ := X₄.unguard X₂.rel.sub hPI (by rw [hI2']; intros; simp)
        cases hf with
        | next => exact ⟨rest.length, Nat.lt_succ_self _, rest, σ₃, h₃, rfl, Z, hI₂.at fun o e => by rw [hIo] at e; cases e; exact hI₃, hq₃⟩
        | ret hv => exact ⟨_, _, _, .ret hv, Z, hq₃⟩
  | .stop, env, P, σ, h, s, x, Q, E, hc, X, hq => by exact False.elim hq
  | .ret e, env, P, σ, h, s, x, Q, E, hc, X, hq => by
    obtain ⟨_, _, rfl, hc'⟩ := i_ret hc
    · simp only [r_exec_assign_tg, r_exec_assign_sub, r_exec_expr, r_exec_ite, r_exec_whl, r_exec_fr, r_exec_ret] at hq
      refine wpAny_Return_some (wpAny_mono (sndE cx e hc' X hq) (fun r s₁ hx => ?_) fun _ _ e => e)
      obtain ⟨v, h₁, hv, X₁, hq₁⟩ := hx
      exact ⟨_, _, _, .ret hv, X₁, hq₁⟩
theorem sndSs (cx : Cx prog w K G A k) : ∀ (st : PSs) {env : PySem.Env} {P : Prt} {σ : Env} {h : H} {s : Shared} {x : List Stmt} {Q : Flow → Env → H → Prop} {E : Value → Shared → Prop},
    chkSs K.fns env.scope st x = true → St K P allOwn env σ h s → execs G st σ h Q → wpAny (model prog w) A (PySem.execs x env) (SP K P allOwn env Q) E s
  | .nil, env, P, σ, h, s, x, Q, E, hc, X, hq => by
    cases i_snil hc
    · simp only [r_execs_nil, r_execs_cons] at hq
      exact wpAny_execs_nil ⟨_, _, _, .next, X, hq⟩
  | .cons st r, env, P, σ, h, s, x, Q, E, hc, X, hq => by
    obtain ⟨_, _, rfl, hc'⟩ := i_scons hc
    · simp only [Bool.and_eq_true] at hc'
      simp only [r_execs_nil, r_execs_cons] at hq
      refine wpAny_execs_cons (wpAny_mono (sndS cx st hc'.1 X hq) (fun f s₁ hx => ?_) fun _ _ e => e)
      obtain ⟨fl, σ₁, h₁, hf, X₁, hq₁⟩ := hx
      cases hf with
      | next => exact sndSs cx r hc'.2 X₁ hq₁
      | ret hv => exact ⟨_, _, _, .ret hv, X₁, hq₁⟩
end
end
end MP

end
section
namespace MP
open PySem PyProof.Rows

theorem bindL_other (kindOf : Str → Option NameKind) (n : Str) : ∀ (binds : List (Str × Value)) (m : Str → Option Value), (∀ p ∈ binds, p.1 ≠ n) → bindL kindOf binds m n = m n
  | [], _, _ => rfl
  | (y, v) :: r, m, h => by
    unfold bindL
    rw [bindL_other kindOf n r _ fun p hp => h p (List.mem_cons_of_mem _ hp)]
    have := h (y, v) List.mem_cons_self
    split
    · exact if_neg (Ne.symm this)
    · rfl
theorem bindC_other (kindOf : Str → Option NameKind) (n : Str) : ∀ (binds : List (Str × Value)) (m : Str → Option Value), (∀ p ∈ binds, p.1 ≠ n) → bindC kindOf binds m n = m n
  | [], _, _ => rfl
  | (y, v) :: r, m, h => by
    unfold bindC
    rw [bindC_other kindOf n r _ fun p hp => h p (List.mem_cons_of_mem _ hp)]
    have := h (y, v) List.mem_cons_self
    split
    · rfl
    · exact if_neg (Ne.symm this)

theorem zip_fst_mem : ∀ {xs : List String} {rs : List Value} {p : Str × Value}, p ∈ (xs.map Str.ofString).zip rs → ∃ x ∈ xs, p.1 = Str.ofString x
  | x :: xs, r :: rs, p, h => by
    simp only [List.map_cons, List.zip_cons_cons] at h
    rcases List.mem_cons.mp h with rfl | h
    · exact ⟨x, List.mem_cons_self, rfl⟩
    · obtain ⟨y, hy, e⟩ := zip_fst_mem h
      exact ⟨y, List.mem_cons_of_mem _ hy, e⟩
  | [], _, _, h => by simp at h
  | _ :: _, [], _, h => by simp at h

theorem bindL_spec {K : KK} (kindOf : Str → Option NameKind) : ∀ (xs : List String) (vs : List V) (rs : List Value) (m : Str → Option Value), VRs K vs rs → xs.length = vs.length → xs.Nodup → ∀ x v, bindP xs vs x = some v → kindOf (Str.ofString x) = some .local →
    ∃ rv, bindL kindOf ((xs.map Str.ofString).zip rs) m (Str.ofString x) = some rv ∧ VR K v rv
  | [], _, _, _, _, _, _, x, v, e, _ => by simp [bindP] at e
  | y :: xs, [], _, _, _, hl, _, _, _, _, _ => by simp at hl
  | y :: xs, v0 :: vs, _, m, hv, hl, hn, x, v, e, hk => by
    cases hv with
    | cons a b =>
      rename_i r rs
      obtain ⟨hy, hn'⟩ := List.nodup_cons.mp hn
      simp only [List.map_cons, List.zip_cons_cons]
      unfold bindL
      simp only [bindP, upd] at e
      split at e
      · rename_i q; subst q; cases e
        rw [if_pos hk, bindL_other _ _ _ _ fun p hp q => by
          obtain ⟨z, hz, e⟩ := zip_fst_mem hp
          rw [e] at q
          exact hy (ofString_inj q ▸ hz)]
        exact ⟨r, by simp, a⟩
      · exact bindL_spec kindOf xs vs rs _ b (by simpa using hl) hn' x v e hk
theorem bindC_spec {K : KK} (kindOf : Str → Option NameKind) : ∀ (xs : List String) (vs : List V) (rs : List Value) (m : Str → Option Value), VRs K vs rs → xs.length = vs.length → xs.Nodup → ∀ x v, bindP xs vs x = some v → kindOf (Str.ofString x) ≠ some .local →
    ∃ rv, bindC kindOf ((xs.map Str.ofString).zip rs) m (Str.ofString x) = some rv ∧ VR K v rv
  | [], _, _, _, _, _, _, x, v, e, _ => by simp [bindP] at e
  | y :: xs, [], _, _, _, hl, _, _, _, _, _ => by simp at hl
  | y :: xs, v0 :: vs, _, m, hv, hl, hn, x, v, e, hk => by
    cases hv with
    | cons a b =>
      rename_i r rs
      obtain ⟨hy, hn'⟩ := List.nodup_cons.mp hn
      simp only [List.map_cons, List.zip_cons_cons]
      unfold bindC
      simp only [bindP, upd] at e
      split at e
      · rename_i q; subst q; cases e
        rw [if_neg hk, bindC_other _ _ _ _ fun p hp q => by
          obtain ⟨z, hz, e⟩ := zip_fst_mem hp
          rw [e] at q
          exact hy (ofString_inj q ▸ hz)]
        exact ⟨r, by simp, a⟩
      · exact bindC_spec kindOf xs vs rs _ b (by simpa using hl) hn' x v e hk

/-- a look at a def of the text, but for its body -/
noncomputable def chkHead (fd : FuncData) (ps : List String) : Bool :=
  fd.closure.isEmpty && fd.globals == mainGlobals && fd.builtins == builtinsNs && fd.defaults == .none && !fd.scope.isCoroutine && !fd.scope.isGenerator && fd.scope.kind == .function &&
  (match fd.params with
    | ⟨[], as, none, [], [], none, []⟩ => as.map (·.arg) == ps.map Str.ofString
    | _ => false) &&
  decide ps.Nodup &&
  ps.all (fun x => match fd.scope.names.lookup (Str.ofString x) with | some .local => true | some .cell => true | _ => false) &&
  fd.scope.names.all (fun p => p.2 != .free)
/-- a look at a def of the text -/
noncomputable def chkFn (fns : List String) (fd : FuncData) (d : Fn) : Bool :=
  (match fd.body with
    | .stmts b => chkSs fns fd.scope d.body b
    | _ => false) && chkHead fd d.params

structure FnAt (K : KK) (f : String) (d : Fn) : Prop where
  at' : ∃ a o fd, K.mg (Str.ofString f) = some (.ref a) ∧ K.base.get? a = some o ∧ o.data = .func fd ∧ K.base.CodeRec fd.code fd.qualname ∧ chkFn K.fns fd d = true

theorem nodup_map {xs : List String} (h : xs.Nodup) : (xs.map Str.ofString).Nodup := by
  induction xs with
  | nil => exact List.nodup_nil
  | cons x xs ih =>
    obtain ⟨h1, h2⟩ := List.nodup_cons.mp h
    simp only [List.map_cons]
    refine List.nodup_cons.mpr ⟨fun hm => ?_, ih h2⟩
    obtain ⟨y, hy, e⟩ := List.mem_map.mp hm
    exact h1 (ofString_inj e ▸ hy)

theorem KOk.at {K : KK} (hK : KOk K) (l : List PySem.Env) : KOk (K.at l) :=
  ⟨hK.noLim, hK.nsG, hK.nsB, hK.bf, hK.rng, hK.ty, let ⟨items, h1, h2⟩ := hK.scr; ⟨items, h1, VRs.at (K := K) (l := K.fl) h2 l⟩, hK.scrL, hK.fn, fun x v e => let ⟨rv, h1, h2⟩ := hK.gc x v e; ⟨rv, h1, VR.at (K := K) (l := K.fl) h2 l⟩⟩

section
variable {prog : Program} {w : World} {k : Nat} {K : KK}

theorem fn_enter {a : PySem.Addr} {o : Obj} {fd : FuncData} {ps : List String} {body : List Stmt} (hK : KOk K) (h2 : K.base.get? a = some o) (h3 : o.data = .func fd) (h4 : K.base.CodeRec fd.code fd.qualname) (h5 : chkHead fd ps = true) (hb : fd.body = .stmts body)
    {vs : List V} {h : H} (hlen : ps.length = vs.length) {l : List PySem.Env} {A : Around} {P : Prt} {s : Shared} {rs : List Value} {Q : Value → Shared → Prop} {E : Value → Shared → Prop} (hdp : A.depth < recursionLimit) (R : Rel (K.at l) P h s) (hvs : VRs (K.at l) vs rs)
    (hB : ∀ env s', env.scope = fd.scope → env.frame = some env.locals → env.code = fd.code → St (K.at (env :: l)) P allOwn env (bindP ps vs) h s' →
      wpAny (model prog w) (A.deeper env) (PySem.execs body env) (fun fl s₂ => Q (match fl with | .ret v => v | _ => .none) s₂) (fun e s₂ => wpAny (model prog w) (A.deeper env) (leaving env e) (fun _ s₃ => E e s₃) (fun e' s₃ => E e' s₃) s₂) s') :
    wpAny (model prog w) A (call (.ref a) rs) Q E s := by
  simp only [chkHead, Bool.and_eq_true] at h5
  obtain ⟨⟨⟨⟨⟨⟨⟨⟨⟨⟨c2, c3⟩, c4⟩, c5⟩, c6⟩, c7⟩, c8⟩, c9⟩, c10⟩, c11⟩, c12⟩ := h5
  simp only [List.isEmpty_iff, beq_iff_eq, Bool.not_eq_true', decide_eq_true_eq, List.all_eq_true, bne_iff_ne] at c2 c3 c4 c5 c6 c7 c8 c10 c11 c12
  obtain ⟨as, hp, ha⟩ : ∃ as, fd.params = ⟨[], as, none, [], [], none, []⟩ ∧ as.map (·.arg) = ps.map Str.ofString := by
    split at c9
    · rename_i as q; exact ⟨as, q, beq_iff_eq.mp c9⟩
    · cases c9
  have hlen' : rs.length = as.length := by
    have := congrArg List.length ha
    simp only [List.length_map] at this
    rw [this, hlen, hvs.length]
  refine wpAny_call (codeAny_call_function hdp (R.base _ _ h2) h3 c6 c7 hb (h4.keeps R.base) ?_)
  rw [bind_plain hp c5 hlen' (by rw [ha]; exact nodup_map c10), ha]
  refine wpAny_pure ?_
  rw [c2, c3, c4]
  have hkinds : ∀ x ∈ ps, fd.scope.names.lookup (Str.ofString x) = some .local ∨ fd.scope.names.lookup (Str.ofString x) = some .cell := fun x hx => by
    have := c11 x hx
    split at this
    · exact .inl (by assumption)
    · exact .inr (by assumption)
    · cases this
  refine wpAny_newFunctionEnv_cells c8 (fun p hp => ?_) fun env he s' hin => ?_
  · obtain ⟨x, hx, e⟩ := zip_fst_mem hp
    rw [e]
    rcases hkinds x hx with q | q
    · exact .inl q
    · obtain ⟨c, g1, _⟩ := cellsFrom_new (Str.ofString x) 0 fd.scope.names (s.heap.objs.size + 1) [] (Nat.zero_le _) (.inl (lookup_mem q))
      exact .inr ⟨q, by rw [g1]; rfl⟩
  subst he
  obtain ⟨hp', tk, rfl, hkeep⟩ := hin.done
  have g : Grown s { s with heap := hp', toks := tk } := .of hkeep
  have R' := R.grow g
  refine ⟨hK.noLim.keeps R'.base, codeAny_func ?_⟩
  have szn : ∀ b, s.heap.objs.size ≤ b → s.heap.get? b = none := fun b hb => by
    cases q : s.heap.get? b with
    | none => rfl
    | some o => exact absurd (Heap.lt_size q) (Nat.not_lt.mpr hb)
  generalize henv : newEnv fd.scope s.heap.objs.size mainGlobals (cellsFrom (s.heap.objs.size + 1) fd.scope.names []) (fd.qualname ++ ".<locals>.") (some a) fd.code none builtinsNs = env at *
  have e1 : env.scope = fd.scope := by subst henv; rfl
  have e2 : env.locals = s.heap.objs.size := by subst henv; rfl
  have e3 : env.cells = cellsFrom (s.heap.objs.size + 1) fd.scope.names [] := by subst henv; rfl
  have e4 : env.globals = mainGlobals := by subst henv; rfl
  have e5 : env.builtins = builtinsNs := by subst henv; rfl
  have e6 : env.frame = some s.heap.objs.size := by subst henv; rfl
  have hfr : FrAt K.base hp' env := ⟨by rw [e1]; exact c8, s.heap.objs.size, _, e6, (by
    cases q : K.base.get? s.heap.objs.size with
    | none => rfl
    | some o => have := R.base _ _ q; rw [szn _ (Nat.le_refl _)] at this; cases this), by rw [← e2]; exact hin.toInCall.ns⟩
  replace R' := R'.at (env :: l) (fun e he => by
    rcases List.mem_cons.mp he with rfl | he
    · exact hfr
    · exact R'.frs e he) (fun e he L hL => by
    rcases List.mem_cons.mp he with rfl | he
    · rw [e6] at hL; cases hL
      exact fun o eo => by rw [R.none_of (szn _ (Nat.le_refl _))] at eo; cases eo
    · exact R'.frm e he L hL)
  replace hvs := hvs.at (env :: l)
  have hinj := cellsFrom_inj fd.scope.names (s.heap.objs.size + 1) [] fun p hp => nomatch hp
  have X : St (K.at (env :: l)) P allOwn env (bindP ps vs) h { s with heap := hp', toks := tk } := by
    refine ⟨R', ⟨by rw [e1]; exact c8, e4, e5, ⟨_, hin.toInCall.ns, fun x v _ e hk => bindL_spec _ _ _ _ _ hvs hlen c10 x v e hk⟩, ?_, fun o e => ?_, fun n hn => ?_, fun n n' c hn hn' g1 g2 => ?_⟩⟩
    · rw [e2]; exact R.p_none_of (szn _ (Nat.le_refl _))
    · rw [e2] at e; rw [R.none_of (szn _ (Nat.le_refl _))] at e; cases e
    · have hn' : fd.scope.names.lookup n = some .cell := by
        have hn : isCF (fd.scope.names.lookup n) := by rw [← e1]; exact hn
        rcases hn with hn | hn
        · exact hn
        · exact absurd rfl (c12 _ (lookup_mem hn))
      obtain ⟨c, g1, g2⟩ := cellsFrom_new n (s.heap.objs.size + 1) fd.scope.names (s.heap.objs.size + 1) [] (Nat.le_refl _) (.inl (lookup_mem hn'))
      rw [← e3] at g1
      refine ⟨c, _, g1, hin.cell n c g1, fun x v hx e => ?_, fun _ => R.p_none_of (szn _ (Nat.le_of_succ_le g2))⟩
      subst hx
      exact bindC_spec _ _ _ _ _ hvs hlen c10 x v e (by show env.scope.names.lookup _ ≠ _; rw [e1, hn']; simp)
    · rw [e3] at g1 g2
      rcases hinj _ (lookup_mem g1) _ (lookup_mem g2) rfl with q | ⟨q, _⟩
      · exact congrArg Prod.fst q
      · cases q
  exact hB env _ e1 (by rw [e6, e2]) (by subst henv; rfl) X

theorem fn_call {G : Par} {f : String} {d : Fn} (hK : KOk K) (hns : G.ns = K.ns) (hgc : G.gc = K.gc) (hV : Valid prog w K G.Γ k) (hf : FnAt K f d) {vs : List V} {h : H} {Q : V → H → Prop} (hq : runFn G d vs h Q) :
    ∃ a, K.mg (Str.ofString f) = some (.ref a) ∧
    ∀ (l : List PySem.Env) (A : Around) (P : Prt) (s : Shared) (rs : List Value) (E : Value → Shared → Prop), Rm A (k + 1) → A.frames = some l → Rel (K.at l) P h s → VRs (K.at l) vs rs →
      wpAny (model prog w) A (call (.ref a) rs) (fun r s' => ∃ v h', VR (K.at l) v r ∧ Rel (K.at l) P h' s' ∧ Q v h') E s := by
  obtain ⟨a, o, fd, h1, h2, h3, h4, h5⟩ := hf.at'
  refine ⟨a, h1, fun l A P s rs E hR hA R hvs => ?_⟩
  simp only [chkFn, Bool.and_eq_true] at h5
  obtain ⟨c1, h5⟩ := h5
  obtain ⟨body, hb⟩ : ∃ b, fd.body = .stmts b := by
    split at c1
    · exact ⟨_, by assumption⟩
    · cases c1
  rw [hb] at c1
  obtain ⟨hlen, hq⟩ := hq
  refine fn_enter hK h2 h3 h4 h5 hb hlen (by have := hR.dp; (first | lia | omega)) R hvs fun env s' e1 _ _ X => ?_
  have cx : Cx prog w (K.at (env :: l)) G (A.deeper env) k := ⟨hK.at _, hns, hgc, ⟨hR.hd, by have := hR.dp; show A.depth + 1 + k < _; (first | lia | omega), by have := hR.un; show A.units + 3 + 4 * k + 100 < _; (first | lia | omega)⟩, Around.frames_deeper hA, hV⟩
  have hb' : chkSs K.fns env.scope d.body body = true := by rw [e1]; exact c1
  refine wpAny_mono (sndSs cx d.body hb' X hq) (fun fl s₂ hx => ?_) fun _ _ e => e
  obtain ⟨fl', σ', h', hfl, X', hq'⟩ := hx
  cases hfl with
  | next => exact ⟨_, _, .none, X'.rel.at l (fun e he => X'.rel.frs e (List.mem_cons_of_mem _ he)) (fun e he => X'.rel.frm e (List.mem_cons_of_mem _ he)), hq'⟩
  | ret hv => exact ⟨_, _, hv.at l, X'.rel.at l (fun e he => X'.rel.frs e (List.mem_cons_of_mem _ he)) (fun e he => X'.rel.frm e (List.mem_cons_of_mem _ he)), hq'⟩

theorem valid_table (hK : KOk K) : ∀ (fs : List (String × Fn)), (∀ p ∈ fs, FnAt K p.1 p.2) → Valid prog w K (table K.ns K.gc fs) fs.length
  | [], _ => fun f vs h Q hq => by simp [table] at hq
  | (g, d) :: r, hf => fun f vs h Q hq => by
    have ih := valid_table hK r fun p hp => hf p (List.mem_cons_of_mem _ hp)
    simp only [table] at hq
    split at hq
    · rename_i q; subst q
      exact fn_call (G := ⟨K.ns, K.gc, table K.ns K.gc r⟩) hK rfl rfl ih (hf (f, d) List.mem_cons_self) hq
    · obtain ⟨a, h1, h2⟩ := ih f vs h Q hq
      exact ⟨a, h1, fun l A P s rs E hR => h2 l A P s rs E ⟨hR.hd, by have := hR.dp; simp only [List.length_cons] at this; (first | lia | omega), by have := hR.un; simp only [List.length_cons] at this; (first | lia | omega)⟩⟩
end
end MP

end
section
namespace MP
open PySem PySem.W PyProof.Rows

noncomputable def codeB (F : Frag) (cd : Value) (q : Str) : Bool :=
  match cd with
  | .ref c => (match F.lookup c with
    | some o => (match o.data with
      | PySem.Data.fields (vs : Array Value) => (match (vs[1]? : Option Value) with
        | some (Value.str p _) => p == q
        | _ => false)
      | _ => false)
    | none => false)
  | _ => false
noncomputable def fnB (F : Frag) (fns : List String) (f : String) (d : Fn) : Bool :=
  match nsIn F mainGlobals (Str.ofString f) with
  | some (some (.ref a)) => (match F.lookup a with
    | some o => (match o.data with
      | .func fd => chkFn fns fd d && codeB F fd.code fd.qualname
      | _ => false)
    | none => false)
  | _ => false

theorem codeB_rec {F : Frag} {h : Heap} (KX : F.In h) {cd : Value} {q : Str} (e : codeB F cd q = true) : h.CodeRec cd q := by
  unfold codeB at e
  split at e
  · rename_i c
    split at e
    · rename_i o ho
      split at e
      · rename_i vs hv
        split at e
        · rename_i p t hp
          rw [beq_iff_eq.mp e] at hp
          exact ⟨c, o, vs, t, rfl, KX _ _ ho, hv, hp⟩
        · cases e
      · cases e
    · cases e
  · cases e

theorem fnB_at {K : KK} {F : Frag} (KX : F.In K.base) (hg : K.base.Ns mainGlobals K.mg) {f : String} {d : Fn} (e : fnB F K.fns f d = true) : FnAt K f d := by
  unfold fnB at e
  split at e
  · rename_i a hn
    split at e
    · rename_i o ho
      split at e
      · rename_i fd hd
        simp only [Bool.and_eq_true] at e
        exact ⟨a, o, fd, mg_of KX hg hn, KX _ _ ho, hd, codeB_rec KX e.2, e.1⟩
      · cases e
    · cases e
  · cases e

theorem vrs_ints {K : KK} : ∀ {vs : List Value} {ns : List Int}, IntsAre vs ns → VRs K (ns.map V.int) vs
  | _, _, .nil => .nil
  | _, _, .cons n t h => .cons (.int n t) (vrs_ints h)

/-- the names of the built-ins -/
noncomputable def bfB (F : Frag) : Bool := ([Bf.len, .list, .min, .max, .sum, .type].all fun f => nsIn F mainGlobals (Str.ofString (bfName f)) == some none) && nsIn F mainGlobals (Str.ofString "range") == some none && (tyNames.all fun t => nsIn F mainGlobals (Str.ofString t) == some none)
theorem bf_all (f : Bf) : f ∈ [Bf.len, .list, .min, .max, .sum, .type] := by cases f <;> simp
theorem bf_boot (f : Bf) : bootBuiltins (Str.ofString (bfName f)) = some (bfVal f) ∧ Str.ofString (bfName f) ≠ "__name__" := by
  cases f <;> exact ⟨by kernel_rfl, by decide +kernel⟩
theorem ty_boot : ∀ t ∈ tyNames, bootBuiltins (Str.ofString t) = some (.type t) ∧ Str.ofString t ≠ "__name__" := by
  intro t ht
  simp only [tyNames, List.mem_cons, List.not_mem_nil, or_false] at ht
  rcases ht with rfl | rfl | rfl | rfl <;> exact ⟨by kernel_rfl, by decide +kernel⟩
theorem range_boot : bootBuiltins (Str.ofString "range") = some (.type "range") ∧ Str.ofString "range" ≠ "__name__" := ⟨by kernel_rfl, by decide +kernel⟩

end MP

end
section
/-! Loops, heaps, arrays in plain Lean. -/
namespace MP
open PySem (PyData)

/-- h' knows all that h knows -/
noncomputable def Ext (h h' : H) : Prop := ∀ a o, h a = some o → h' a = some o
theorem Ext.refl (h : H) : Ext h h := fun _ _ e => e
theorem Ext.trans {a b c : H} (x : Ext a b) (y : Ext b c) : Ext a c := fun _ _ e => y _ _ (x _ _ e)
theorem Ext.new {h : H} {a : Nat} (o : O) (e : h a = Option.none) : Ext h (h.set a o) := fun b o' e' => by
  unfold H.set; split
  · rename_i q; rw [q, e] at e'; cases e'
  · exact e'
theorem Ext.set {h h' : H} {a : Nat} (x : Ext h h') (o : O) (e : h a = Option.none) : Ext h (h'.set a o) := fun b o' e' => by
  unfold H.set; split
  · rename_i q; rw [q, e] at e'; cases e'
  · exact x _ _ e'
theorem Ext.none {h h' : H} (x : Ext h h') {a : Nat} (e : h' a = Option.none) : h a = Option.none := by
  cases q : h a with
  | none => rfl
  | some o => rw [x _ _ q] at e; cases e
@[simp] theorem H.set_self (h : H) (a : Nat) (o : O) : h.set a o a = some o := by simp [H.set]
theorem H.set_other (h : H) {a b : Nat} (o : O) (hb : b ≠ a) : h.set a o b = h b := by simp [H.set, hb]

@[simp] theorem upd_self (σ : Env) (x : String) (v : V) : upd σ x v x = some v := by simp [upd]
theorem upd_other (σ : Env) {x y : String} (v : V) (h : y ≠ x) : upd σ x v y = σ y := by simp [upd, h]

mutual
theorem Rd.mono {h h' : H} (x : Ext h h') : ∀ {v : V} {d : PyData}, Rd h v d → Rd h' v d
  | _, _, .none => .none
  | _, _, .bool b => .bool b
  | _, _, .int i => .int i
  | _, _, .list e r => .list (x _ _ e) (RdAll.mono x r)
  | _, _, .tup e r => .tup (x _ _ e) (RdAll.mono x r)
theorem RdAll.mono {h h' : H} (x : Ext h h') : ∀ {vs : List V} {ds : List PyData}, RdAll h vs ds → RdAll h' vs ds
  | _, _, .nil => .nil
  | _, _, .cons a b => .cons (Rd.mono x a) (RdAll.mono x b)
end

theorem RdAll.length {h : H} : ∀ {vs : List V} {ds : List PyData}, RdAll h vs ds → vs.length = ds.length
  | _, _, .nil => rfl
  | _, _, .cons _ b => by simp [RdAll.length b]
theorem RdAll.get {h : H} : ∀ {vs : List V} {ds : List PyData}, RdAll h vs ds → ∀ {i : Nat} {d : PyData}, ds[i]? = some d → ∃ v, vs[i]? = some v ∧ Rd h v d
  | _, _, .nil, _, _, e => by simp at e
  | _, _, .cons a b, 0, _, e => by simp at e; subst e; exact ⟨_, rfl, a⟩
  | _, _, .cons a b, i + 1, _, e => by simp at e; simpa using b.get e
theorem RdAll.append {h : H} : ∀ {vs : List V} {ds : List PyData}, RdAll h vs ds → ∀ {ws : List V} {es : List PyData}, RdAll h ws es → RdAll h (vs ++ ws) (ds ++ es)
  | _, _, .nil, _, _, r => r
  | _, _, .cons a b, _, _, r => .cons a (b.append r)
theorem RdAll.of_get {h : H} : ∀ {vs : List V} {ds : List PyData}, vs.length = ds.length → (∀ (i : Nat) v d, vs[i]? = some v → ds[i]? = some d → Rd h v d) → RdAll h vs ds
  | [], [], _, _ => .nil
  | [], _ :: _, e, _ => by simp at e
  | _ :: _, [], e, _ => by simp at e
  | v :: vs, d :: ds, e, f => .cons (f 0 v d rfl rfl) (RdAll.of_get (by simpa using e) fun i v' d' h1 h2 => f (i + 1) v' d' (by simpa using h1) (by simpa using h2))

/-- n places, the i-th holding f i -/
noncomputable def arr (n : Nat) (f : Nat → V) : List V := (List.range n).map f
@[simp] theorem arr_length (n : Nat) (f : Nat → V) : (arr n f).length = n := by simp [arr]
theorem arr_get {n i : Nat} (f : Nat → V) (h : i < n) : (arr n f)[i]? = some (f i) := by simp [arr, h]
theorem arr_set {n i : Nat} (f : Nat → V) (v : V) : (arr n f).set i v = arr n fun j => if j = i then v else f j := by
  apply List.ext_getElem?
  intro j
  rw [List.getElem?_set]
  by_cases hj : j < n
  · by_cases q : i = j
    · subst q; simp [arr, hj]
    · rw [if_neg q, arr_get _ hj, arr_get _ hj, if_neg (fun e => q e.symm)]
  · have h1 : (arr n f)[j]? = Option.none := List.getElem?_eq_none (by simp; exact (Nat.le_of_not_lt hj))
    have h2 : (arr n fun j => if j = i then v else f j)[j]? = Option.none := List.getElem?_eq_none (by simp; exact (Nat.le_of_not_lt hj))
    rw [h1, h2]
    split
    · simp; (first | lia | omega)
    · rfl
theorem arr_congr {n : Nat} {f g : Nat → V} (h : ∀ i < n, f i = g i) : arr n f = arr n g := by
  unfold arr
  apply List.map_congr_left
  intro i hi; exact h i (by simpa using hi)
theorem getIdx_arr {n i : Nat} (f : Nat → V) (h : i < n) : getIdx (arr n f) (i : Nat) = some (f i) := by
  unfold getIdx; rw [if_pos (by exact (Int.natCast_nonneg _)), Int.toNat_natCast, arr_get f h]
theorem getIdx_nat {xs : List V} {i : Nat} : getIdx xs (i : Nat) = xs[i]? := by
  unfold getIdx; rw [if_pos (by exact (Int.natCast_nonneg _)), Int.toNat_natCast]

@[simp] theorem intsOf_map {α : Type} (f : α → Int) (l : List α) : intsOf (l.map fun x => V.int (f x)) = some (l.map f) := by
  induction l with
  | nil => rfl
  | cons a r ih => simp [intsOf, ih]
@[simp] theorem intsOf_arr (n : Nat) (f : Nat → Int) : intsOf (arr n fun i => .int (f i)) = some ((List.range n).map f) := by
  unfold arr; exact intsOf_map f _

theorem upTo_zero (n : Nat) : upTo 0 n = (List.range n).map fun i : Nat => (i : Int) := by
  unfold upTo; simp
theorem upTo_nat (m n : Nat) : upTo m n = (List.range (n - m)).map fun i => ((m + i : Nat) : Int) := by
  unfold upTo
  rw [show ((n : Int) - (m : Int)).toNat = n - m by exact MP.Ar.toNat_sub]
  simp

/-- a for that never returns -/
theorem forW_inv {turn : V → Env → H → (Flow → Env → H → Prop) → Prop} {kp : Option (Nat × List V)} {Q : Flow → Env → H → Prop} (I : List V → List V → Env → H → Prop)
    (hst : ∀ d r σ h, I d r σ h → stays kp h) (step : ∀ d v r σ h K, I d (v :: r) σ h → (∀ σ' h', I (d ++ [v]) r σ' h' → K Flow.next σ' h') → turn v σ h K) :
    ∀ (xs d : List V) (σ : Env) (h : H), I d xs σ h → (∀ σ' h', I (d ++ xs) [] σ' h' → Q .next σ' h') → forW turn kp xs σ h Q
  | [], d, σ, h, hI, fin => ⟨hst _ _ _ _ hI, fin _ _ (by simpa using hI)⟩
  | v :: r, d, σ, h, hI, fin => by
    refine ⟨hst _ _ _ _ hI, step d v r σ h _ hI fun σ' h' hI' => ?_⟩
    exact forW_inv I hst step r (d ++ [v]) σ' h' hI' (by simpa using fin)

theorem forW_from {turn : V → Env → H → (Flow → Env → H → Prop) → Prop} {Q : Flow → Env → H → Prop} {n : Nat} (I : Nat → Env → H → Prop)
    (step : ∀ i σ h K, i < n → I i σ h → (∀ σ' h', I (i + 1) σ' h' → K Flow.next σ' h') → turn (.int (i : Nat)) σ h K) (fin : ∀ σ h, I n σ h → Q .next σ h) :
    ∀ (k i : Nat) (σ : Env) (h : H), i + k = n → I i σ h → forW turn Option.none ((List.range k).map fun j => V.int ((i + j : Nat) : Int)) σ h Q
  | 0, i, σ, h, e, hI => ⟨trivial, fin _ _ (by rw [← e]; exact hI)⟩
  | k + 1, i, σ, h, e, hI => by
    rw [List.range_succ_eq_map, List.map_cons]
    refine ⟨trivial, step i σ h _ (by exact (MP.Ar.add_lt e)) hI fun σ' h' hI' => ?_⟩
    have := forW_from I step fin k (i + 1) σ' h' (by exact (MP.Ar.add_sw e)) hI'
    rw [List.map_map]
    have e2 : ((fun j => V.int ((i + j : Nat) : Int)) ∘ Nat.succ) = fun j => V.int ((i + 1 + j : Nat) : Int) := by
      funext j; simp only [Function.comp, Nat.succ_eq_add_one]; congr 1; exact MP.Ar.add_swI
    rw [e2]; exact this
theorem forW_range {turn : V → Env → H → (Flow → Env → H → Prop) → Prop} {Q : Flow → Env → H → Prop} {n : Nat} (I : Nat → Env → H → Prop) {σ : Env} {h : H} (h0 : I 0 σ h)
    (step : ∀ i σ h K, i < n → I i σ h → (∀ σ' h', I (i + 1) σ' h' → K Flow.next σ' h') → turn (.int (i : Nat)) σ h K) (fin : ∀ σ h, I n σ h → Q .next σ h) :
    forW turn Option.none ((upTo 0 n).map .int) σ h Q := by
  have := forW_from I step fin n 0 σ h (by exact MP.Ar.zadd) h0
  rw [upTo_zero, List.map_map]
  have e : (V.int ∘ fun i : Nat => (i : Int)) = fun j : Nat => V.int ((0 + j : Nat) : Int) := by funext j; simp
  rw [e]; exact this
theorem while_of {test : Env → H → (Bool → H → Prop) → Prop} {turn : Env → H → (Flow → Env → H → Prop) → Prop} {Q : Flow → Env → H → Prop} (I : Nat → Env → H → Prop)
    (step : ∀ j σ h (K : Env → H → Prop), I j σ h → (∀ j' σ' h', j' < j → I j' σ' h' → K σ' h') → test σ h fun b h' => if b then turn σ h' fun f σ' h'' => (match f with
      | .next => K σ' h''
      | .ret w => Q (.ret w) σ' h'') else Q .next σ h') :
    ∀ (n j : Nat) (σ : Env) (h : H), j ≤ n → I j σ h → whileW test turn (n + 1) σ h Q
  | 0, j, σ, h, hj, hI => by
    have := step j σ h (fun σ' h' => whileW test turn 0 σ' h' Q) hI fun j' _ _ hj' _ => by exact False.elim (Nat.lt_irrefl _ (Nat.lt_of_lt_of_le hj' (Nat.le_trans hj (Nat.zero_le _))))
    exact this
  | n + 1, j, σ, h, hj, hI => by
    have := step j σ h (fun σ' h' => whileW test turn (n + 1) σ' h' Q) hI fun j' σ' h' hj' hI' => while_of I step n j' σ' h' (by exact (MP.Ar.lt_le_pred hj hj')) hI'
    exact this
theorem while_inv {test : Env → H → (Bool → H → Prop) → Prop} {turn : Env → H → (Flow → Env → H → Prop) → Prop} {Q : Flow → Env → H → Prop} (I : Nat → Env → H → Prop)
    (step : ∀ j σ h (K : Env → H → Prop), I j σ h → (∀ j' σ' h', j' < j → I j' σ' h' → K σ' h') → test σ h fun b h' => if b then turn σ h' fun f σ' h'' => (match f with
      | .next => K σ' h''
      | .ret w => Q (.ret w) σ' h'') else Q .next σ h') {j : Nat} {σ : Env} {h : H} (hI : I j σ h) : ∃ n, whileW test turn n σ h Q :=
  ⟨j + 1, while_of I step j j σ h (Nat.le_refl _) hI⟩

/-- a comprehension that leaves the heap -/
theorem compW_pure {turn : V → H → (Option V → H → Prop) → Prop} {kp : Option (Nat × List V)} {Q : List V → H → Prop} {h : H} (g : V → Option V) (hst : stays kp h) :
    ∀ (xs ys : List V), (∀ v ∈ xs, ∀ K : Option V → H → Prop, K (g v) h → turn v h K) → Q (ys ++ xs.filterMap g) h → compW turn kp xs ys h Q
  | [], ys, _, hQ => by simpa [compW] using hQ
  | v :: r, ys, step, hQ => by
    refine ⟨hst, step v List.mem_cons_self _ ?_⟩
    cases q : g v with
    | none => exact compW_pure g hst r ys (fun v hv => step v (List.mem_cons_of_mem _ hv)) (by simpa [q] using hQ)
    | some w => exact compW_pure g hst r (ys ++ [w]) (fun v hv => step v (List.mem_cons_of_mem _ hv)) (by simpa [q] using hQ)

theorem compW_range {turn : V → H → (Option V → H → Prop) → Prop} {Q : List V → H → Prop} {h : H} {n : Nat} (g : Nat → V) (step : ∀ i < n, ∀ K : Option V → H → Prop, K (some (g i)) h → turn (.int (i : Nat)) h K) (hQ : Q (arr n g) h) :
    compW turn Option.none ((upTo 0 n).map .int) [] h Q := by
  refine compW_pure (kp := Option.none) (fun v => match v with | .int i => some (g i.toNat) | _ => Option.none) trivial _ _ (fun v hv K hK => ?_) ?_
  · obtain ⟨i, hi, rfl⟩ := List.mem_map.mp hv
    rw [upTo_zero] at hi
    obtain ⟨j, hj, rfl⟩ := List.mem_map.mp hi
    exact step j (by simpa using hj) K (by simpa using hK)
  · rw [upTo_zero, List.map_map, List.nil_append, List.filterMap_map]
    have : (List.range n).filterMap ((fun v => match v with | V.int i => some (g i.toNat) | _ => Option.none) ∘ V.int ∘ fun i : Nat => (i : Int)) = arr n g := by
      unfold arr
      rw [← List.filterMap_eq_map]
      apply congrFun; apply congrArg
      funext i; simp
    rw [this]; exact hQ
end MP

end
section
/-! The rules by which simp walks a text of the small language. -/
namespace MP
variable {G : Par} {σ : Env} {h : H}

noncomputable def optK (o : Option V) (K : V → Prop) : Prop := match o with
  | some v => K v
  | Option.none => False
@[simp] theorem optK_some (v : V) (K : V → Prop) : optK (some v) K = K v := rfl
noncomputable def listK (o : Option O) (K : List V → Prop) : Prop := match o with
  | some (.list xs) => K xs
  | _ => False
@[simp] theorem listK_some (xs : List V) (K : List V → Prop) : listK (some (.list xs)) K = K xs := rfl
noncomputable def seqsK (o : Option O) (K : List V → Prop) : Prop := match o with
  | some (.list xs) => K xs
  | some (.tup xs) => K xs
  | _ => False
@[simp] theorem seqsK_list (xs : List V) (K : List V → Prop) : seqsK (some (.list xs)) K = K xs := rfl
@[simp] theorem seqsK_tup (xs : List V) (K : List V → Prop) : seqsK (some (.tup xs)) K = K xs := rfl
noncomputable def intsK (o : Option (List Int)) (K : List Int → Prop) : Prop := match o with
  | some is => K is
  | _ => False
@[simp] theorem intsK_some (is : List Int) (K : List Int → Prop) : intsK (some is) K = K is := rfl
noncomputable def ints1K (o : Option (List Int)) (K : List Int → Prop) : Prop := match o with
  | some (i :: is) => K (i :: is)
  | _ => False
theorem ints1K_some (is : List Int) (K : List Int → Prop) (hne : is ≠ []) (hK : K is) : ints1K (some is) K := by
  cases is with
  | nil => exact absurd rfl hne
  | cons i r => exact hK

@[simp] theorem upd_apply (σ : Env) (x : String) (v : V) (y : String) : upd σ x v y = if y = x then some v else σ y := rfl
@[simp] theorem H.set_apply (h : H) (a : Nat) (o : O) (b : Nat) : h.set a o b = if b = a then some o else h b := rfl
@[simp] theorem tgW_name (x : String) (v : V) (Q : Env → Prop) : tgW (.name x) v σ h Q = Q (upd σ x v) := rfl
@[simp] theorem cmpop_in (a b : V) (Q : V → H → Prop) : cmpop .isin a b h Q = inW a b h fun r => Q (.bool r) h := rfl
@[simp] theorem truth_bool (b : Bool) (Q : Bool → Prop) : truth (.bool b) Q = Q b := rfl
@[simp] theorem negW_int (i : Int) (Q : V → H → Prop) : negW (.int i) h Q = Q (.int (-i)) h := rfl
@[simp] theorem binop_add (i j : Int) (Q : V → H → Prop) : binop .add (.int i) (.int j) h Q = Q (.int (i + j)) h := rfl
@[simp] theorem binop_sub (i j : Int) (Q : V → H → Prop) : binop .sub (.int i) (.int j) h Q = Q (.int (i - j)) h := rfl
@[simp] theorem binop_mul (i j : Int) (Q : V → H → Prop) : binop .mul (.int i) (.int j) h Q = (inLim i ∧ inLim j ∧ Q (.int (i * j)) h) := rfl
@[simp] theorem binop_div (i j : Int) (Q : V → H → Prop) : binop .div (.int i) (.int j) h Q = (0 < j ∧ j ≤ lim ∧ Q (.int (i / j)) h) := rfl
@[simp] theorem binop_mod (i j : Int) (Q : V → H → Prop) : binop .mod (.int i) (.int j) h Q = (0 < j ∧ Q (.int (i % j)) h) := rfl
@[simp] theorem cmpop_lt (i j : Int) (Q : V → H → Prop) : cmpop .lt (.int i) (.int j) h Q = Q (.bool (decide (i < j))) h := rfl
@[simp] theorem cmpop_le (i j : Int) (Q : V → H → Prop) : cmpop .le (.int i) (.int j) h Q = Q (.bool (decide (i ≤ j))) h := rfl
@[simp] theorem cmpop_gt (i j : Int) (Q : V → H → Prop) : cmpop .gt (.int i) (.int j) h Q = Q (.bool (decide (j < i))) h := rfl
@[simp] theorem cmpop_ge (i j : Int) (Q : V → H → Prop) : cmpop .ge (.int i) (.int j) h Q = Q (.bool (decide (j ≤ i))) h := rfl
@[simp] theorem cmpop_eq (a b : V) (Q : V → H → Prop) : cmpop .eq a b h Q = eqW a b h fun r => Q (.bool r) h := rfl
@[simp] theorem cmpop_ne (a b : V) (Q : V → H → Prop) : cmpop .ne a b h Q = eqW a b h fun r => Q (.bool (!r)) h := rfl
@[simp] theorem eqW_int (i j : Int) (Q : Bool → Prop) : eqW (.int i) (.int j) h Q = Q (decide (i = j)) := rfl
@[simp] theorem cmpop_is_none (a : V) (Q : V → H → Prop) : cmpop .is a .none h Q = Q (.bool (decide (a = .none))) h := rfl
@[simp] theorem cmpop_isnt_none (a : V) (Q : V → H → Prop) : cmpop .isnt a .none h Q = Q (.bool (!decide (a = .none))) h := rfl
@[simp] theorem bfn_len_scr (Q : V → H → Prop) : bfnW G .len [.scr] h Q = Q (.int G.ns.length) h := rfl
@[simp] theorem bfn_len (a : Nat) (Q : V → H → Prop) : bfnW G .len [.ref a] h Q = seqsK (h a) fun xs => Q (.int xs.length) h := rfl
@[simp] theorem binop_mulL (a : Nat) (k : Int) (Q : V → H → Prop) : binop .mul (.ref a) (.int k) h Q = listK (h a) fun xs => 0 ≤ k ∧ k ≤ lim ∧ xs.length * k.toNat ≤ lim ∧ alloc (.list (List.replicate k.toNat xs).flatten) h Q := rfl
@[simp] theorem bfn_min3 (i j k : Int) (Q : V → H → Prop) : bfnW G .min [.int i, .int j, .int k] h Q = Q (.int (min (min i j) k)) h := rfl
@[simp] theorem bfn_list (a : Nat) (Q : V → H → Prop) : bfnW G .list [.ref a] h Q = listK (h a) fun xs => alloc (.list xs) h Q := rfl
@[simp] theorem bfn_min2 (i j : Int) (Q : V → H → Prop) : bfnW G .min [.int i, .int j] h Q = Q (.int (min i j)) h := rfl
@[simp] theorem bfn_max2 (i j : Int) (Q : V → H → Prop) : bfnW G .max [.int i, .int j] h Q = Q (.int (max i j)) h := rfl
@[simp] theorem bfn_min (a : Nat) (Q : V → H → Prop) : bfnW G .min [.ref a] h Q = listK (h a) fun xs => ints1K (intsOf xs) fun is => Q (.int (minL is)) h := rfl
@[simp] theorem bfn_sum (a : Nat) (Q : V → H → Prop) : bfnW G .sum [.ref a] h Q = listK (h a) fun xs => intsK (intsOf xs) fun is => Q (.int is.sum) h := rfl
@[simp] theorem subW_scr (k : Int) (Q : V → H → Prop) : subW G .scr (.int k) h Q = optK (getIdx (G.ns.map .int) k) fun v => Q v h := rfl
@[simp] theorem subW_ref (r : Nat) (k : Int) (Q : V → H → Prop) : subW G (.ref r) (.int k) h Q = seqsK (h r) fun xs => optK (getIdx xs k) fun v => Q v h := rfl
@[simp] theorem setSub_ref (r : Nat) (k : Int) (v : V) (Q : H → Prop) : setSub (.ref r) (.int k) v h Q = listK (h r) fun xs => 0 ≤ k ∧ k < xs.length ∧ Q (h.set r (.list (xs.set k.toNat v))) := rfl
@[simp] theorem meth_append (a : Nat) (v : V) (Q : V → H → Prop) : methW .append (.ref a) [v] h Q = listK (h a) fun xs => xs.length < lim ∧ Q .none (h.set a (.list (xs ++ [v]))) := rfl
@[simp] theorem meth_index (a : Nat) (k : Int) (Q : V → H → Prop) : methW .index (.ref a) [.int k] h Q = listK (h a) fun xs => intsK (intsOf xs) fun is => k ∈ is ∧ Q (.int (is.idxOf k : Nat)) h := rfl
@[simp] theorem meth_reverse (a : Nat) (Q : V → H → Prop) : methW .reverse (.ref a) [] h Q = listK (h a) fun xs => Q .none (h.set a (.list xs.reverse)) := rfl
@[simp] theorem isL_ref (a : Nat) : isL (.ref a) h = listK (h a) fun _ => True := rfl

@[simp] theorem ev_none (Q : V → H → Prop) : ev G .none σ h Q = Q .none h := rfl
@[simp] theorem ev_bool (b : Bool) (Q : V → H → Prop) : ev G (.bool b) σ h Q = Q (.bool b) h := rfl
@[simp] theorem ev_int (i : Int) (Q : V → H → Prop) : ev G (.int i) σ h Q = Q (.int i) h := rfl
@[simp] theorem ev_ty (t : String) (Q : V → H → Prop) : ev G (.ty t) σ h Q = Q (.ty t) h := rfl
@[simp] theorem cmpop_is_bool (a : V) (b : Bool) (Q : V → H → Prop) : cmpop .is a (.bool b) h Q = Q (.bool (decide (a = .bool b))) h := rfl
@[simp] theorem cmpop_isnt_bool (a : V) (b : Bool) (Q : V → H → Prop) : cmpop .isnt a (.bool b) h Q = Q (.bool (!decide (a = .bool b))) h := rfl
@[simp] theorem cmpop_is_ty (t u : String) (Q : V → H → Prop) : cmpop .is (.ty u) (.ty t) h Q = Q (.bool (decide (u = t))) h := rfl
@[simp] theorem cmpop_isnt_ty (t u : String) (Q : V → H → Prop) : cmpop .isnt (.ty u) (.ty t) h Q = Q (.bool (!decide (u = t))) h := rfl
noncomputable def strK (o : Option String) (K : String → Prop) : Prop := match o with
  | some t => K t
  | Option.none => False
@[simp] theorem strK_some (t : String) (K : String → Prop) : strK (some t) K = K t := rfl
@[simp] theorem bfn_type (v : V) (Q : V → H → Prop) : bfnW G .type [v] h Q = strK (typeN v h) fun t => Q (.ty t) h := rfl
@[simp] theorem typeN_none : typeN .none h = some "NoneType" := rfl
@[simp] theorem typeN_bool (b : Bool) : typeN (.bool b) h = some "bool" := rfl
@[simp] theorem typeN_int (i : Int) : typeN (.int i) h = some "int" := rfl
@[simp] theorem ev_var (x : String) (Q : V → H → Prop) : ev G (.var x) σ h Q = optK (σ x) fun v => Q v h := rfl
@[simp] theorem ev_bin (op : Op) (a b : PE) (Q : V → H → Prop) : ev G (.bin op a b) σ h Q = ev G a σ h fun va h₁ => ev G b σ h₁ fun vb h₂ => binop op va vb h₂ Q := rfl
@[simp] theorem ev_neg (a : PE) (Q : V → H → Prop) : ev G (.neg a) σ h Q = ev G a σ h fun va h₁ => negW va h₁ Q := rfl
@[simp] theorem ev_not (a : PE) (Q : V → H → Prop) : ev G (.not a) σ h Q = ev G a σ h fun va h₁ => truth va fun b => Q (.bool (!b)) h₁ := rfl
@[simp] theorem ev_cmp (op : Cm) (a b : PE) (Q : V → H → Prop) : ev G (.cmp op a b) σ h Q = ev G a σ h fun va h₁ => ev G b σ h₁ fun vb h₂ => cmpop op va vb h₂ Q := rfl
@[simp] theorem ev_band (es : PEs) (Q : V → H → Prop) : ev G (.band es) σ h Q = evAnd G es σ h Q := rfl
@[simp] theorem ev_bor (es : PEs) (Q : V → H → Prop) : ev G (.bor es) σ h Q = evOr G es σ h Q := rfl
@[simp] theorem ev_ite (c a b : PE) (Q : V → H → Prop) : ev G (.ite c a b) σ h Q = cond G c σ h fun r h₁ => if r then ev G a σ h₁ Q else ev G b σ h₁ Q := rfl
@[simp] theorem ev_sub (a i : PE) (Q : V → H → Prop) : ev G (.sub a i) σ h Q = ev G a σ h fun va h₁ => ev G i σ h₁ fun vi h₂ => subW G va vi h₂ Q := rfl
@[simp] theorem ev_take (a e : PE) (Q : V → H → Prop) : ev G (.take a e) σ h Q = ev G a σ h fun va h₁ => ev G e σ h₁ fun vi h₂ => ofL va h₂ fun xs => natI vi fun k => alloc (.list (xs.take k)) h₂ Q := rfl
@[simp] theorem ofL_r (a : Nat) (K : List V → Prop) : ofL (.ref a) h K = listK (h a) K := rfl
@[simp] theorem natI_i (i : Int) (K : Nat → Prop) : natI (.int i) K = (0 ≤ i ∧ K i.toNat) := rfl
@[simp] theorem binop_addL (a b : Nat) (Q : V → H → Prop) : binop .add (.ref a) (.ref b) h Q = listK (h a) fun xs => listK (h b) fun ys => xs.length + ys.length ≤ lim ∧ alloc (.list (xs ++ ys)) h Q := rfl
@[simp] theorem ev_list (es : PEs) (Q : V → H → Prop) : ev G (.list es) σ h Q = evs G es σ h fun vs h₁ => alloc (.list vs) h₁ Q := rfl
@[simp] theorem ev_tup (es : PEs) (Q : V → H → Prop) : ev G (.tup es) σ h Q = evs G es σ h fun vs h₁ => alloc (.tup vs) h₁ Q := rfl
@[simp] theorem ev_call (f : String) (es : PEs) (Q : V → H → Prop) : ev G (.call f es) σ h Q = evs G es σ h fun vs h₁ => G.Γ f vs h₁ Q := rfl
@[simp] theorem ev_bfn (f : Bf) (es : PEs) (Q : V → H → Prop) : ev G (.bfn f es) σ h Q = evs G es σ h fun vs h₁ => bfnW G f vs h₁ Q := rfl
@[simp] theorem ev_meth (a : PE) (m : Mt) (es : PEs) (Q : V → H → Prop) : ev G (.meth a m es) σ h Q = ev G a σ h fun va h₁ => isL va h₁ ∧ evs G es σ h₁ fun vs h₂ => methW m va vs h₂ Q := rfl
@[simp] theorem ev_comp (elt : PE) (t : Tg) (src : Src) (ifs : PEs) (Q : V → H → Prop) : ev G (.comp elt t src ifs) σ h Q = evSrc G src σ h fun xs k h₁ =>
      compW (fun v h K => tgW t v σ h fun σ' => condAnd G ifs σ' h fun b h' => if b then ev G elt σ' h' fun w h'' => K (some w) h'' else K Option.none h') k xs [] h₁
        fun ys h₂ => stays k h₂ ∧ alloc (.list ys) h₂ Q := rfl
@[simp] theorem evs_nil (Q : List V → H → Prop) : evs G .nil σ h Q = Q [] h := rfl
@[simp] theorem evs_cons (e : PE) (r : PEs) (Q : List V → H → Prop) : evs G (.cons e r) σ h Q = ev G e σ h fun v h₁ => evs G r σ h₁ fun vs h₂ => Q (v :: vs) h₂ := rfl
@[simp] theorem evAnd_one (e : PE) (Q : V → H → Prop) : evAnd G (.cons e .nil) σ h Q = ev G e σ h Q := rfl
@[simp] theorem evAnd_cons (e e' : PE) (r : PEs) (Q : V → H → Prop) : evAnd G (.cons e (.cons e' r)) σ h Q = ev G e σ h fun v h₁ => truth v fun b => if b then evAnd G (.cons e' r) σ h₁ Q else Q v h₁ := rfl
@[simp] theorem evOr_one (e : PE) (Q : V → H → Prop) : evOr G (.cons e .nil) σ h Q = ev G e σ h Q := rfl
@[simp] theorem evOr_cons (e e' : PE) (r : PEs) (Q : V → H → Prop) : evOr G (.cons e (.cons e' r)) σ h Q = ev G e σ h fun v h₁ => truth v fun b => if b then Q v h₁ else evOr G (.cons e' r) σ h₁ Q := rfl
@[simp] theorem cond_not (a : PE) (Q : Bool → H → Prop) : cond G (.not a) σ h Q = cond G a σ h fun b h₁ => Q (!b) h₁ := rfl
@[simp] theorem cond_band (es : PEs) (Q : Bool → H → Prop) : cond G (.band es) σ h Q = condAnd G es σ h Q := rfl
@[simp] theorem cond_bor (es : PEs) (Q : Bool → H → Prop) : cond G (.bor es) σ h Q = condOr G es σ h Q := rfl
@[simp] theorem cond_cmp (op : Cm) (a b : PE) (Q : Bool → H → Prop) : cond G (.cmp op a b) σ h Q = ev G a σ h fun va h₁ => ev G b σ h₁ fun vb h₂ => cmpop op va vb h₂ fun v h₃ => truth v fun r => Q r h₃ := rfl
@[simp] theorem cond_bool (b : Bool) (Q : Bool → H → Prop) : cond G (.bool b) σ h Q = Q b h := rfl
@[simp] theorem cond_var (x : String) (Q : Bool → H → Prop) : cond G (.var x) σ h Q = optK (σ x) fun v => truth v fun b => Q b h := rfl
@[simp] theorem cond_sub (a i : PE) (Q : Bool → H → Prop) : cond G (.sub a i) σ h Q = ev G a σ h fun va h₁ => ev G i σ h₁ fun vi h₂ => subW G va vi h₂ fun v h₃ => truth v fun r => Q r h₃ := rfl
@[simp] theorem cond_call (f : String) (es : PEs) (Q : Bool → H → Prop) : cond G (.call f es) σ h Q = evs G es σ h fun vs h₁ => G.Γ f vs h₁ fun v h₂ => truth v fun r => Q r h₂ := rfl
@[simp] theorem cond_bfn (f : Bf) (es : PEs) (Q : Bool → H → Prop) : cond G (.bfn f es) σ h Q = evs G es σ h fun vs h₁ => bfnW G f vs h₁ fun v h₂ => truth v fun r => Q r h₂ := rfl
@[simp] theorem condAnd_nil (Q : Bool → H → Prop) : condAnd G .nil σ h Q = Q true h := rfl
@[simp] theorem condAnd_cons (e : PE) (r : PEs) (Q : Bool → H → Prop) : condAnd G (.cons e r) σ h Q = cond G e σ h fun b h₁ => if b then condAnd G r σ h₁ Q else Q false h₁ := rfl
@[simp] theorem condOr_nil (Q : Bool → H → Prop) : condOr G .nil σ h Q = Q false h := rfl
@[simp] theorem condOr_cons (e : PE) (r : PEs) (Q : Bool → H → Prop) : condOr G (.cons e r) σ h Q = cond G e σ h fun b h₁ => if b then Q true h₁ else condOr G r σ h₁ Q := rfl
/-- a bounded range -/
noncomputable def upK (va : V) (h : H) (K : SrcK) : Prop := match va with
  | .int n => inLim n ∧ K ((upTo 0 n).map .int) Option.none h
  | _ => False
noncomputable def fromToK (va vb : V) (h : H) (K : SrcK) : Prop := match va, vb with
  | .int m, .int n => inLim m ∧ inLim n ∧ K ((upTo m n).map .int) Option.none h
  | _, _ => False
noncomputable def seqK (va : V) (h : H) (K : SrcK) : Prop := match va with
  | .ref a => (match h a with
    | some (.list xs) => K xs (some (a, xs)) h
    | _ => False)
  | _ => False
@[simp] theorem upK_int (n : Int) (K : SrcK) : upK (.int n) h K = (inLim n ∧ K ((upTo 0 n).map .int) Option.none h) := rfl
@[simp] theorem fromToK_int (m n : Int) (K : SrcK) : fromToK (.int m) (.int n) h K = (inLim m ∧ inLim n ∧ K ((upTo m n).map .int) Option.none h) := rfl
@[simp] theorem seqK_ref (a : Nat) (K : SrcK) : seqK (.ref a) h K = listK (h a) fun xs => K xs (some (a, xs)) h := rfl
@[simp] theorem evSrc_up (a : PE) (K : SrcK) : evSrc G (.up a) σ h K = ev G a σ h fun va h₁ => upK va h₁ K := rfl
@[simp] theorem evSrc_fromTo (a b : PE) (K : SrcK) : evSrc G (.fromTo a b) σ h K = ev G a σ h fun va h₁ => ev G b σ h₁ fun vb h₂ => fromToK va vb h₂ K := rfl
@[simp] theorem evSrc_seq (e : PE) (K : SrcK) : evSrc G (.seq e) σ h K = ev G e σ h fun va h₁ => seqK va h₁ K := rfl

noncomputable def noneK (v : V) (Q : Prop) : Prop := match v with
  | .none => Q
  | _ => False
@[simp] theorem noneK_none (Q : Prop) : noneK .none Q = Q := rfl
@[simp] theorem exec_assign (x : String) (e : PE) (Q : Flow → Env → H → Prop) : exec G (.assign (.tg (.name x)) e) σ h Q = ev G e σ h fun v h₁ => Q .next (upd σ x v) h₁ := rfl
@[simp] theorem exec_set (a i e : PE) (Q : Flow → Env → H → Prop) : exec G (.assign (.sub a i) e) σ h Q = ev G e σ h fun v h₁ => ev G a σ h₁ fun va h₂ => ev G i σ h₂ fun vi h₃ => setSub va vi v h₃ fun h₄ => Q .next σ h₄ := rfl
@[simp] theorem exec_expr (e : PE) (Q : Flow → Env → H → Prop) : exec G (.expr e) σ h Q = ev G e σ h fun v h₁ => noneK v (Q .next σ h₁) := rfl
@[simp] theorem exec_ite (c : PE) (a b : PSs) (Q : Flow → Env → H → Prop) : exec G (.ite c a b) σ h Q = cond G c σ h fun r h₁ => if r then execs G a σ h₁ Q else execs G b σ h₁ Q := rfl
@[simp] theorem exec_whl (c : PE) (b : PSs) (Q : Flow → Env → H → Prop) : exec G (.whl c b) σ h Q = ∃ n, whileW (fun σ h K => cond G c σ h K) (fun σ h K => execs G b σ h K) n σ h Q := rfl
@[simp] theorem exec_fr (t : Tg) (src : Src) (b : PSs) (Q : Flow → Env → H → Prop) : exec G (.fr t src b) σ h Q = evSrc G src σ h fun xs k h₁ => forW (fun v σ h K => tgW t v σ h fun σ' => execs G b σ' h K) k xs σ h₁ Q := rfl
@[simp] theorem exec_ret (e : PE) (Q : Flow → Env → H → Prop) : exec G (.ret e) σ h Q = ev G e σ h fun v h₁ => Q (.ret v) σ h₁ := rfl
@[simp] theorem execs_nil (Q : Flow → Env → H → Prop) : execs G .nil σ h Q = Q .next σ h := rfl
/-- what follows a statement -/
noncomputable def thenK (G : Par) (r : PSs) (Q : Flow → Env → H → Prop) (f : Flow) (σ : Env) (h : H) : Prop := match f with
  | .next => execs G r σ h Q
  | .ret v => Q (.ret v) σ h
@[simp] theorem thenK_next (r : PSs) (Q : Flow → Env → H → Prop) : thenK G r Q .next σ h = execs G r σ h Q := rfl
@[simp] theorem thenK_ret (r : PSs) (Q : Flow → Env → H → Prop) (v : V) : thenK G r Q (.ret v) σ h = Q (.ret v) σ h := rfl
@[simp] theorem execs_cons (s : PS) (r : PSs) (Q : Flow → Env → H → Prop) : execs G (.cons s r) σ h Q = exec G s σ h (thenK G r Q) := rfl
/-- what a call hands back -/
noncomputable def retK (Q : V → H → Prop) (f : Flow) (_ : Env) (h : H) : Prop := match f with
  | .ret v => Q v h
  | .next => Q .none h
@[simp] theorem retK_ret (Q : V → H → Prop) (v : V) : retK Q (.ret v) σ h = Q v h := rfl
@[simp] theorem retK_next (Q : V → H → Prop) : retK Q .next σ h = Q .none h := rfl
theorem runFn_of {d : Fn} {vs : List V} {Q : V → H → Prop} (hl : d.params.length = vs.length) (hq : execs G d.body (bindP d.params vs) h (retK Q)) : runFn G d vs h Q := by
  refine ⟨hl, ?_⟩
  have : (fun (fl : Flow) (_ : Env) (h' : H) => Q (match fl with | .ret v => v | .next => .none) h') = retK Q := by
    funext fl σ h; cases fl <;> rfl
  rw [← this] at hq; exact hq
@[simp] theorem bindP_nil : bindP [] [] = fun _ => Option.none := rfl
@[simp] theorem bindP_cons (x : String) (xs : List String) (v : V) (vs : List V) : bindP (x :: xs) (v :: vs) = upd (bindP xs vs) x v := rfl
end MP

end
section
namespace MP.Core
open MP
noncomputable def path_to_b2 : PSs :=
  (.cons (.assign (.tg (.name "at")) (.sub (.var "previous") (.var "at")))
  (.cons (.expr (.meth (.var "path") .append (.cons (.var "at") .nil)))
  .nil))
noncomputable def path_to_b1 : PSs :=
  (.cons (.ite (.cmp .ne (.var "at") (.var "source"))
  path_to_b2 .nil)
  .nil)
noncomputable def path_to_body : PSs :=
  (.cons (.ite (.cmp .eq (.var "source") (.var "target"))
  (.cons (.ret (.list (.cons (.var "source") .nil)))
  .nil) .nil)
  (.cons (.ite (.cmp .is (.sub (.var "previous") (.var "target")) .none)
  (.cons (.ret (.list .nil))
  .nil) .nil)
  (.cons (.assign (.tg (.name "path")) (.list (.cons (.var "target") .nil)))
  (.cons (.assign (.tg (.name "at")) (.var "target"))
  (.cons (.fr (.name "_") (.up (.bfn .len (.cons (.var "previous") .nil))) path_to_b1)
  (.cons (.expr (.meth (.var "path") .reverse .nil))
  (.cons (.ret (.var "path"))
  .nil)))))))
noncomputable def path_to_fn : Fn := ⟨["previous", "source", "target"], path_to_body⟩
noncomputable def capacity_table_b1 : PSs :=
  (.cons (.assign (.sub (.sub (.var "table") (.sub (.var "e") (.int 0))) (.sub (.var "e") (.int 1))) (.bin .add (.sub (.sub (.var "table") (.sub (.var "e") (.int 0))) (.sub (.var "e") (.int 1))) (.sub (.var "e") (.int 2))))
  .nil)
noncomputable def capacity_table_body : PSs :=
  (.cons (.assign (.tg (.name "table")) (.comp (.comp (.int 0) (.name "v") (.up (.var "n")) .nil) (.name "u") (.up (.var "n")) .nil))
  (.cons (.fr (.name "e") (.seq (.var "edges")) capacity_table_b1)
  (.cons (.ret (.var "table"))
  .nil)))
noncomputable def capacity_table_fn : Fn := ⟨["n", "edges"], capacity_table_body⟩
noncomputable def augmenting_path_b3 : PSs :=
  (.cons (.assign (.sub (.var "previous") (.var "v")) (.var "u"))
  (.cons (.expr (.meth (.var "queue") .append (.cons (.var "v") .nil)))
  .nil))
noncomputable def augmenting_path_b2 : PSs :=
  (.cons (.ite (.band (.cons (.cmp .gt (.sub (.sub (.var "residual") (.var "u")) (.var "v")) (.int 0)) (.cons (.cmp .ne (.var "v") (.var "source")) (.cons (.cmp .is (.sub (.var "previous") (.var "v")) .none) .nil))))
  augmenting_path_b3 .nil)
  .nil)
noncomputable def augmenting_path_b1 : PSs :=
  (.cons (.assign (.tg (.name "u")) (.sub (.var "queue") (.var "place")))
  (.cons (.assign (.tg (.name "place")) (.bin .add (.var "place") (.int 1)))
  (.cons (.fr (.name "v") (.up (.var "n")) augmenting_path_b2)
  .nil)))
noncomputable def augmenting_path_body : PSs :=
  (.cons (.assign (.tg (.name "previous")) (.comp .none (.name "v") (.up (.var "n")) .nil))
  (.cons (.assign (.tg (.name "queue")) (.list (.cons (.var "source") .nil)))
  (.cons (.assign (.tg (.name "place")) (.int 0))
  (.cons (.whl (.cmp .lt (.var "place") (.bfn .len (.cons (.var "queue") .nil))) augmenting_path_b1)
  (.cons (.ret (.call "path_to" (.cons (.var "previous") (.cons (.var "source") (.cons (.var "sink") .nil)))))
  .nil)))))
noncomputable def augmenting_path_fn : Fn := ⟨["n", "residual", "source", "sink"], augmenting_path_body⟩
noncomputable def max_flow_b2 : PSs :=
  (.cons (.assign (.tg (.name "u")) (.sub (.var "path") (.bin .sub (.var "i") (.int 1))))
  (.cons (.assign (.tg (.name "v")) (.sub (.var "path") (.var "i")))
  (.cons (.assign (.sub (.sub (.var "room") (.var "u")) (.var "v")) (.bin .sub (.sub (.sub (.var "room") (.var "u")) (.var "v")) (.var "narrowest")))
  (.cons (.assign (.sub (.sub (.var "room") (.var "v")) (.var "u")) (.bin .add (.sub (.sub (.var "room") (.var "v")) (.var "u")) (.var "narrowest")))
  .nil))))
noncomputable def max_flow_b1 : PSs :=
  (.cons (.assign (.tg (.name "narrowest")) (.bfn .min (.cons (.comp (.sub (.sub (.var "room") (.sub (.var "path") (.bin .sub (.var "i") (.int 1)))) (.sub (.var "path") (.var "i"))) (.name "i") (.fromTo (.int 1) (.bfn .len (.cons (.var "path") .nil))) .nil) .nil)))
  (.cons (.fr (.name "i") (.fromTo (.int 1) (.bfn .len (.cons (.var "path") .nil))) max_flow_b2)
  (.cons (.assign (.tg (.name "path")) (.call "augmenting_path" (.cons (.var "n") (.cons (.var "room") (.cons (.var "source") (.cons (.var "sink") .nil))))))
  .nil)))
noncomputable def max_flow_body : PSs :=
  (.cons (.assign (.tg (.name "capacity")) (.call "capacity_table" (.cons (.var "n") (.cons (.var "edges") .nil))))
  (.cons (.assign (.tg (.name "room")) (.comp (.bfn .list (.cons (.var "row") .nil)) (.name "row") (.seq (.var "capacity")) .nil))
  (.cons (.assign (.tg (.name "path")) (.list .nil))
  (.cons (.ite (.cmp .ne (.var "source") (.var "sink"))
  (.cons (.assign (.tg (.name "path")) (.call "augmenting_path" (.cons (.var "n") (.cons (.var "room") (.cons (.var "source") (.cons (.var "sink") .nil))))))
  .nil) .nil)
  (.cons (.whl (.cmp .gt (.bfn .len (.cons (.var "path") .nil)) (.int 0)) max_flow_b1)
  (.cons (.ret (.comp (.comp (.bfn .max (.cons (.bin .sub (.sub (.sub (.var "capacity") (.var "u")) (.var "v")) (.sub (.sub (.var "room") (.var "u")) (.var "v"))) (.cons (.int 0) .nil))) (.name "v") (.up (.var "n")) .nil) (.name "u") (.up (.var "n")) .nil))
  .nil))))))
noncomputable def max_flow_fn : Fn := ⟨["n", "edges", "source", "sink"], max_flow_body⟩
noncomputable def flow_value_body : PSs :=
  (.cons (.ret (.bin .sub (.bfn .sum (.cons (.sub (.var "flow") (.var "source")) .nil)) (.bfn .sum (.cons (.comp (.sub (.var "row") (.var "source")) (.name "row") (.seq (.var "flow")) .nil) .nil))))
  .nil)
noncomputable def flow_value_fn : Fn := ⟨["flow", "source"], flow_value_body⟩
noncomputable def source_side_b3 : PSs :=
  (.cons (.assign (.sub (.var "side") (.var "v")) (.bool true))
  (.cons (.expr (.meth (.var "queue") .append (.cons (.var "v") .nil)))
  .nil))
noncomputable def source_side_b2 : PSs :=
  (.cons (.ite (.band (.cons (.not (.sub (.var "side") (.var "v"))) (.cons (.bor (.cons (.cmp .lt (.sub (.sub (.var "flow") (.var "u")) (.var "v")) (.sub (.sub (.var "capacity") (.var "u")) (.var "v"))) (.cons (.cmp .gt (.sub (.sub (.var "flow") (.var "v")) (.var "u")) (.int 0)) .nil))) .nil)))
  source_side_b3 .nil)
  .nil)
noncomputable def source_side_b1 : PSs :=
  (.cons (.assign (.tg (.name "u")) (.sub (.var "queue") (.var "place")))
  (.cons (.assign (.tg (.name "place")) (.bin .add (.var "place") (.int 1)))
  (.cons (.fr (.name "v") (.up (.var "n")) source_side_b2)
  .nil)))
noncomputable def source_side_body : PSs :=
  (.cons (.assign (.tg (.name "capacity")) (.call "capacity_table" (.cons (.var "n") (.cons (.var "edges") .nil))))
  (.cons (.assign (.tg (.name "side")) (.comp (.bool false) (.name "v") (.up (.var "n")) .nil))
  (.cons (.assign (.sub (.var "side") (.var "source")) (.bool true))
  (.cons (.assign (.tg (.name "queue")) (.list (.cons (.var "source") .nil)))
  (.cons (.assign (.tg (.name "place")) (.int 0))
  (.cons (.whl (.cmp .lt (.var "place") (.bfn .len (.cons (.var "queue") .nil))) source_side_b1)
  (.cons (.ret (.var "side"))
  .nil)))))))
noncomputable def source_side_fn : Fn := ⟨["n", "edges", "flow", "source"], source_side_body⟩
end MP.Core

end
section
namespace MP
open PySem (PyData)

noncomputable abbrev iv (n : Nat) : V := .int (n : Nat)
noncomputable def optV : Option Nat → V
  | Option.none => .none
  | some u => iv u
@[simp] theorem optV_none : (optV Option.none = V.none) = True := by simp [optV]
@[simp] theorem optV_some (u : Nat) : optV (some u) = iv u := rfl

/-- a new list is handed back, nothing old is changed -/
noncomputable abbrev Ret (h : H) (Q : V → H → Prop) (xs : List V) : Prop := ∀ r h', h r = Option.none → Ext h h' → h' r = some (.list xs) → Q (.ref r) h'

theorem set_set (h : H) (a : Nat) (o o' : O) : (h.set a o).set a o' = h.set a o' := by
  funext b; unfold H.set; split <;> rfl
theorem ne_of_none {h : H} {a b : Nat} {o : O} (ha : h a = some o) (hb : h b = Option.none) : a ≠ b := fun e => by rw [e, hb] at ha; cases ha

theorem path_to_same {G : Par} {a s : Nat} {h : H} {Q : V → H → Prop} (hQ : Ret h Q [iv s]) : runFn G Core.path_to_fn [.ref a, iv s, iv s] h Q := by
  refine runFn_of rfl ?_
  simp [Core.path_to_fn, Core.path_to_body, alloc]
  intro r hr
  exact hQ r _ hr (Ext.new _ hr) (by simp)

theorem path_to_none {G : Par} {n a s t : Nat} {prev : Nat → Option Nat} {h : H} {Q : V → H → Prop} (ha : h a = some (.list (arr n fun v => optV (prev v)))) (hst : s ≠ t) (ht : t < n) (hp : prev t = Option.none) (hQ : Ret h Q []) :
    runFn G Core.path_to_fn [.ref a, iv s, iv t] h Q := by
  refine runFn_of rfl ?_
  have hst' : ¬ ((s : Int) = (t : Int)) := by exact (fun e => hst (Int.ofNat.inj e))
  simp [Core.path_to_fn, Core.path_to_body, alloc, ha, getIdx_arr, ht, hp, hst']
  intro r hr
  exact hQ r _ hr (Ext.new _ hr) (by simp)

theorem rev_range (k : Nat) (p : Nat → Nat) : ((List.range (k + 1)).map fun i => iv (p (k - i))).reverse = (List.range (k + 1)).map fun i => iv (p i) := by
  apply List.ext_getElem?
  intro i
  by_cases hi : i < k + 1
  · rw [List.getElem?_reverse (by simpa using hi)]
    simp only [List.length_map, List.length_range]
    rw [List.getElem?_map, List.getElem?_range (by (first | lia | omega)), List.getElem?_map, List.getElem?_range hi]
    simp only [Option.map_some]
    rw [show k - (k + 1 - 1 - i) = i by (first | lia | omega)]
  · rw [List.getElem?_eq_none (by simp; exact (Nat.le_of_not_lt hi)), List.getElem?_eq_none (by simp; exact (Nat.le_of_not_lt hi))]

theorem path_to_chain {G : Par} {n a s t k : Nat} {prev : Nat → Option Nat} {p : Nat → Nat} {h : H} {Q : V → H → Prop} (ha : h a = some (.list (arr n fun v => optV (prev v)))) (hn : n ≤ 1000)
    (hst : s ≠ t) (h0 : p 0 = s) (hk : p k = t) (hkn : k ≤ n) (hp : ∀ i, i < k → p (i + 1) < n ∧ prev (p (i + 1)) = some (p i) ∧ p (i + 1) ≠ s) (hQ : Ret h Q ((List.range (k + 1)).map fun i => iv (p i))) :
    runFn G Core.path_to_fn [.ref a, iv s, iv t] h Q := by
  refine runFn_of rfl ?_
  have hst' : ¬ ((s : Int) = (t : Int)) := by exact (fun e => hst (Int.ofNat.inj e))
  have k1 : 1 ≤ k := by
    rcases Nat.eq_zero_or_pos k with e | e
    · rw [e, h0] at hk; exact absurd hk hst
    · exact e
  obtain ⟨g1, g2, g3⟩ := hp (k - 1) (by exact (Nat.sub_lt (Nat.lt_of_lt_of_le (by decide) k1) Nat.one_pos))
  rw [show k - 1 + 1 = k by exact (Nat.sub_add_cancel k1), hk] at g1 g2 g3
  have hnl : inLim (n : Int) := by unfold inLim; exact (MP.Ar.lim1 (Nat.le_of_lt (Nat.lt_of_le_of_lt hn (by decide))))
  simp [Core.path_to_fn, Core.path_to_body, alloc, ha, getIdx_arr, g1, g2, hst', hnl]
  intro r hr
  have har : a ≠ r := ne_of_none ha hr
  simp [har, ha, hnl]
  refine forW_range (fun j σ h' => σ "previous" = some (.ref a) ∧ σ "source" = some (iv s) ∧ σ "path" = some (.ref r) ∧ σ "at" = some (iv (p (k - j))) ∧ h' = h.set r (.list ((List.range (min j k + 1)).map fun i => iv (p (k - i))))) ?_ ?_ ?_
  · simp [hk]
  · rintro j σ h' K hj ⟨e1, e2, e3, e4, rfl⟩ hK
    simp [Core.path_to_b1, e1, e2, e3, e4]
    by_cases hjk : j < k
    · obtain ⟨q1, q2, q3⟩ := hp (k - j - 1) (by (first | lia | omega))
      rw [show k - j - 1 + 1 = k - j by (first | lia | omega)] at q1 q2 q3
      have q3' : ¬ ((p (k - j) : Int) = (s : Int)) := by exact (fun e => q3 (Int.ofNat.inj e))
      simp [q3', Core.path_to_b2, e1, e2, e3, e4, har, ha, getIdx_arr, q1, q2]
      refine ⟨by unfold lim; (first | lia | omega), hK _ _ ⟨by simp [e1], by simp [e2], by simp [e3], by simp; congr 1, ?_⟩⟩
      rw [set_set, show min (j + 1) k + 1 = (min j k + 1) + 1 by (first | lia | omega), List.range_succ (n := min j k + 1), List.map_append]
      congr 3
      simp
      congr 2; (first | lia | omega)
    · have : p (k - j) = s := by rw [show k - j = 0 by exact (MP.Ar.sub_self_zero (Nat.le_of_not_lt hjk)), h0]
      simp [this]
      exact hK _ _ ⟨by simp [e1], by simp [e2], by simp [e3], by simp [e4, this, show k - (j + 1) = 0 by exact (MP.Ar.sub_self_zero (Nat.le_of_lt (Nat.lt_of_le_of_lt (Nat.le_of_not_lt hjk) (Nat.lt_succ_self _)))), h0], by rw [show min (j + 1) k = min j k by (first | lia | omega)]⟩
  · rintro σ h' ⟨e1, e2, e3, e4, rfl⟩
    simp [e3, set_set]
    rw [show min n k = k by exact (Nat.min_eq_right hkn), rev_range]
    exact hQ r _ hr (Ext.new _ hr) (by simp)
end MP

end
section
namespace MP
open PySem (PyData)

noncomputable abbrev Edge := Nat × Nat × Int
noncomputable def edgeD (e : Edge) : PyData := .tuple [.int (e.1 : Nat), .int (e.2.1 : Nat), .int e.2.2]
noncomputable def edgesD (es : List Edge) : PyData := .list (es.map edgeD)

theorem rd_list {h : H} {v : V} {ds : List PyData} (r : Rd h v (.list ds)) : ∃ a xs, v = .ref a ∧ h a = some (.list xs) ∧ RdAll h xs ds := by
  cases r with
  | list e r => exact ⟨_, _, rfl, e, r⟩
theorem rd_tup {h : H} {v : V} {ds : List PyData} (r : Rd h v (.tuple ds)) : ∃ a xs, v = .ref a ∧ h a = some (.tup xs) ∧ RdAll h xs ds := by
  cases r with
  | tup e r => exact ⟨_, _, rfl, e, r⟩
theorem rd_int {h : H} {v : V} {i : Int} (r : Rd h v (.int i)) : v = .int i := by cases r; rfl
theorem rd_edge {h : H} {v : V} {e : Edge} (r : Rd h v (edgeD e)) : ∃ b, v = .ref b ∧ h b = some (.tup [iv e.1, iv e.2.1, .int e.2.2]) := by
  obtain ⟨b, xs, rfl, h1, h2⟩ := rd_tup r
  cases h2 with
  | cons a r =>
    cases r with
    | cons b r =>
      cases r with
      | cons c r =>
        cases r
        rw [rd_int a, rd_int b, rd_int c] at h1
        exact ⟨_, rfl, h1⟩
theorem rd_edges {h : H} {a : Nat} {es : List Edge} (r : Rd h (.ref a) (edgesD es)) : ∃ xs, h a = some (.list xs) ∧ xs.length = es.length ∧ ∀ (i : Nat) e, es[i]? = some e → ∃ b, xs[i]? = some (.ref b) ∧ h b = some (.tup [iv e.1, iv e.2.1, .int e.2.2]) := by
  obtain ⟨a', xs, e, h1, h2⟩ := rd_list r
  cases e
  refine ⟨xs, h1, by simpa using h2.length, fun i e he => ?_⟩
  obtain ⟨v, h3, h4⟩ := h2.get (i := i) (d := edgeD e) (by rw [List.getElem?_map, he]; rfl)
  obtain ⟨b, rfl, h5⟩ := rd_edge h4
  exact ⟨b, h3, h5⟩

/-- a table of n rows of n ints -/
structure Tab (h : H) (t n : Nat) (rows : Nat → Nat) (M : Nat → Nat → Int) : Prop where
  top : h t = some (.list (arr n fun i => .ref (rows i)))
  row : ∀ i, i < n → h (rows i) = some (.list (arr n fun j => .int (M i j)))
  inj : ∀ i j, i < n → j < n → rows i = rows j → i = j
  ne : ∀ i, i < n → rows i ≠ t

theorem Tab.ext {h h' : H} {t n : Nat} {rows : Nat → Nat} {M : Nat → Nat → Int} (T : Tab h t n rows M) (x : Ext h h') : Tab h' t n rows M :=
  ⟨x _ _ T.top, fun i hi => x _ _ (T.row i hi), T.inj, T.ne⟩
theorem Tab.congr {h : H} {t n : Nat} {rows : Nat → Nat} {M N : Nat → Nat → Int} (T : Tab h t n rows M) (e : ∀ i j, i < n → j < n → M i j = N i j) : Tab h t n rows N :=
  ⟨T.top, fun i hi => by rw [T.row i hi]; congr 2; exact arr_congr fun j hj => by rw [e i j hi hj], T.inj, T.ne⟩

noncomputable def put2 (M : Nat → Nat → Int) (u v : Nat) (x : Int) : Nat → Nat → Int := fun i j => if i = u ∧ j = v then x else M i j

theorem Tab.put {h : H} {t n : Nat} {rows : Nat → Nat} {M : Nat → Nat → Int} (T : Tab h t n rows M) {u : Nat} (v : Nat) (x : Int) (hu : u < n) :
    Tab (h.set (rows u) (.list ((arr n fun j => .int (M u j)).set v (.int x)))) t n rows (put2 M u v x) := by
  refine ⟨?_, fun i hi => ?_, T.inj, T.ne⟩
  · rw [H.set_other _ _ (fun e => T.ne u hu e.symm)]; exact T.top
  · by_cases q : i = u
    · subst q
      rw [H.set_self, arr_set]
      congr 2
      refine arr_congr fun j _ => ?_
      unfold put2; split <;> simp_all
    · rw [H.set_other _ _ (fun e => q (T.inj _ _ hi hu e)), T.row i hi]
      congr 2
      refine arr_congr fun j _ => ?_
      unfold put2; rw [if_neg (fun e => q e.1)]

noncomputable def tabD (n : Nat) (M : Nat → Nat → Int) : PyData := .list ((List.range n).map fun i => .list ((List.range n).map fun j => .int (M i j)))
theorem rd_ints {h : H} {n : Nat} {f : Nat → Int} : RdAll h (arr n fun j => .int (f j)) ((List.range n).map fun j => .int (f j)) := by
  refine RdAll.of_get (by simp) fun i v d h1 h2 => ?_
  by_cases hi : i < n
  · rw [arr_get _ hi] at h1
    simp [hi] at h2
    cases h1; rw [← h2]; exact .int _
  · rw [List.getElem?_eq_none (by simp; exact (Nat.le_of_not_lt hi))] at h1; cases h1
theorem Tab.rd {h : H} {t n : Nat} {rows : Nat → Nat} {M : Nat → Nat → Int} (T : Tab h t n rows M) : Rd h (.ref t) (tabD n M) := by
  refine .list T.top (RdAll.of_get (by simp) fun i v d h1 h2 => ?_)
  by_cases hi : i < n
  · rw [arr_get _ hi] at h1
    simp [hi] at h2
    cases h1; rw [← h2]
    exact .list (T.row i hi) rd_ints
  · rw [List.getElem?_eq_none (by simp; exact (Nat.le_of_not_lt hi))] at h1; cases h1

theorem stays_ext {kp : Option (Nat × List V)} {h h' : H} (s : stays kp h) (x : Ext h h') : stays kp h' := by
  cases kp with
  | none => trivial
  | some p => exact x _ _ s

@[simp] theorem upTo_arr (n : Nat) : (upTo 0 n).map V.int = arr n iv := by rw [upTo_zero, List.map_map]; rfl
theorem forW_arr {turn : V → Env → H → (Flow → Env → H → Prop) → Prop} {Q : Flow → Env → H → Prop} {n : Nat} (I : Nat → Env → H → Prop) {σ : Env} {h : H} (h0 : I 0 σ h)
    (step : ∀ i σ h K, i < n → I i σ h → (∀ σ' h', I (i + 1) σ' h' → K Flow.next σ' h') → turn (iv i) σ h K) (fin : ∀ σ h, I n σ h → Q .next σ h) : forW turn Option.none (arr n iv) σ h Q := by
  rw [← upTo_arr]; exact forW_range I h0 step fin
theorem compW_arr {turn : V → H → (Option V → H → Prop) → Prop} {Q : List V → H → Prop} {h : H} {n : Nat} (g : Nat → V) (step : ∀ i < n, ∀ K : Option V → H → Prop, K (some (g i)) h → turn (iv i) h K) (hQ : Q (arr n g) h) :
    compW turn Option.none (arr n iv) [] h Q := by
  rw [← upTo_arr]; exact compW_range g step hQ

/-- a comprehension whose every turn makes a new list -/
theorem compW_rows {turn : V → H → (Option V → H → Prop) → Prop} {kp : Option (Nat × List V)} {Q : List V → H → Prop} {h : H} {n m : Nat} (x : Nat → V) (g : Nat → Nat → V) (hst : stays kp h)
    (step : ∀ i, i < n → ∀ h' (K : Option V → H → Prop), Ext h h' → (∀ r, h' r = Option.none → K (some (.ref r)) (h'.set r (.list (arr m (g i))))) → turn (x i) h' K)
    (fin : ∀ (rows : Nat → Nat) h', Ext h h' → (∀ i, i < n → h (rows i) = Option.none ∧ h' (rows i) = some (.list (arr m (g i)))) → (∀ i j, i < n → j < n → rows i = rows j → i = j) → Q (arr n fun i => .ref (rows i)) h') :
    compW turn kp (arr n x) [] h Q := by
  suffices H : ∀ (k i : Nat) (rows : Nat → Nat) (h' : H), i + k = n → Ext h h' → (∀ j, j < i → h (rows j) = Option.none ∧ h' (rows j) = some (.list (arr m (g j)))) → (∀ a b, a < i → b < i → rows a = rows b → a = b) →
      compW turn kp ((List.range k).map fun j => x (i + j)) (arr i fun j => .ref (rows j)) h' Q by
    have := H n 0 (fun _ => 0) h (by exact MP.Ar.zadd) (Ext.refl h) (fun j hj => by exact absurd hj (Nat.not_lt_zero _)) (fun a b ha => by exact absurd ha (Nat.not_lt_zero _))
    simpa [arr] using this
  intro k
  induction k with
  | zero =>
    intro i rows h' e hx hr hi
    have : i = n := by assumption
    subst this
    exact fin rows h' hx hr hi
  | succ k ih =>
    intro i rows h' e hx hr hi
    rw [List.range_succ_eq_map, List.map_cons]
    refine ⟨stays_ext hst hx, step i (by exact (MP.Ar.add_lt e)) h' _ hx fun r hrn => ?_⟩
    have hne : ∀ j, j < i → rows j ≠ r := fun j hj q => by rw [← q, (hr j hj).2] at hrn; cases hrn
    have := ih (i + 1) (fun j => if j = i then r else rows j) (h'.set r (.list (arr m (g i)))) (by exact (MP.Ar.add_sw e)) (hx.trans (Ext.new _ hrn)) (fun j hj => ?_) (fun a b ha hb q => ?_)
    · rw [List.map_map]
      have e2 : ((fun j => x (i + j)) ∘ Nat.succ) = fun j => x (i + 1 + j) := by funext j; simp only [Function.comp, Nat.succ_eq_add_one]; congr 1; exact MP.Ar.add_sw'
      have e3 : (arr i fun j => V.ref (rows j)) ++ [V.ref r] = arr (i + 1) fun j => V.ref (if j = i then r else rows j) := by
        unfold arr
        rw [List.range_succ, List.map_append]
        congr 1
        · apply List.map_congr_left
          intro j hj
          have : j ≠ i := by have := List.mem_range.mp hj; exact (Nat.ne_of_lt this)
          simp [this]
        · simp
      simp only [Nat.add_zero]
      rw [e2, e3]; exact this
    · by_cases q : j = i
      · subst q; simp; exact hx.none hrn
      · simp only [q, if_false]
        obtain ⟨h1, h2⟩ := hr j (by exact (MP.Ar.lt_ne hj q))
        exact ⟨h1, by rw [H.set_other _ _ (hne j (by exact (MP.Ar.lt_ne hj q)))]; exact h2⟩
    · split at q <;> split at q
      · (first | lia | omega)
      · exact absurd q.symm (hne b (by exact (MP.Ar.lt_ne hb (by assumption))))
      · exact absurd q (hne a (by exact (MP.Ar.lt_ne ha (by assumption))))
      · exact hi a b (by exact (MP.Ar.lt_ne ha (by assumption))) (by exact (MP.Ar.lt_ne hb (by assumption))) q

noncomputable def capM (es : List Edge) (u v : Nat) : Int := ((es.filter fun e => decide (e.1 = u) && decide (e.2.1 = v)).map fun e => e.2.2).sum
theorem capM_snoc (es : List Edge) (e : Edge) (u v : Nat) : capM (es ++ [e]) u v = put2 (capM es) e.1 e.2.1 (capM es e.1 e.2.1 + e.2.2) u v := by
  unfold capM put2
  rw [List.filter_append, List.map_append, List.sum_append]
  by_cases q : e.1 = u ∧ e.2.1 = v
  · obtain ⟨rfl, rfl⟩ := q; simp
  · have : (decide (e.1 = u) && decide (e.2.1 = v)) = false := by
      cases h1 : decide (e.1 = u) <;> cases h2 : decide (e.2.1 = v) <;> simp_all
    have q' : ¬ (u = e.1 ∧ v = e.2.1) := fun ⟨h1, h2⟩ => q ⟨h1.symm, h2.symm⟩
    simp [this, q']
noncomputable def okEdges (n : Nat) (es : List Edge) : Prop := ∀ e ∈ es, e.1 < n ∧ e.2.1 < n


theorem capacity_table_spec {G : Par} {n a : Nat} {es : List Edge} {h : H} {Q : V → H → Prop} (hn : n ≤ 1000) (he : Rd h (.ref a) (edgesD es)) (hok : okEdges n es)
    (hQ : ∀ t rows h', Ext h h' → h t = Option.none → (∀ i, i < n → h (rows i) = Option.none) → Tab h' t n rows (capM es) → Q (.ref t) h') :
    runFn G Core.capacity_table_fn [iv n, .ref a] h Q := by
  refine runFn_of rfl ?_
  have hnl : inLim (n : Int) := by unfold inLim; exact (MP.Ar.lim1 (Nat.le_of_lt (Nat.lt_of_le_of_lt hn (by decide))))
  obtain ⟨xs, h1, h2, h3⟩ := rd_edges he
  simp [Core.capacity_table_fn, Core.capacity_table_body, hnl]
  refine compW_rows (m := n) iv (fun _ _ => .int 0) trivial ?_ ?_
  · intro i hi h' K hx hK
    refine compW_arr (fun _ => .int 0) (fun j hj K' hK' => by simpa using hK') ?_
    exact ⟨trivial, fun r hr => hK r hr⟩
  · intro rows h' hx hr hi
    refine ⟨trivial, fun t ht => ?_⟩
    have ha : a ≠ t := ne_of_none (hx _ _ h1) ht
    simp [ha, hx _ _ h1]
    have ht0 : h t = Option.none := hx.none ht
    refine forW_inv (kp := some (a, xs)) (fun d r σ h'' => σ "table" = some (.ref t) ∧ Ext h h'' ∧ (∃ k, d = xs.take k ∧ r = xs.drop k ∧ k ≤ xs.length ∧ Tab h'' t n rows (capM (es.take k)))) (fun d r σ h'' hI => hI.2.1 _ _ h1) ?_ xs [] _ _ ⟨by simp, (hx.trans (Ext.new _ ht)), 0, rfl, rfl, Nat.zero_le _, ?_⟩ ?_
    · rintro d v r σ h'' K ⟨e1, hx'', k, rfl, er, hk, T⟩ hK
      have hklt : k < xs.length := by
        rcases Nat.lt_or_ge k xs.length with q | q
        · exact q
        · rw [List.drop_eq_nil_of_le q] at er; cases er
      have hke : k < es.length := by exact (Nat.lt_of_lt_of_le hklt (Nat.le_of_eq h2))
      obtain ⟨b, g1, g2⟩ := h3 k es[k] (List.getElem?_eq_getElem hke)
      have hv : v = .ref b := by
        have := congrArg (fun l => l[0]?) er
        simp [g1] at this
        exact this
      subst hv
      obtain ⟨o1, o2⟩ := hok _ (List.getElem_mem hke)
      have hx3 := hx'' _ _ g2
      have gi : ∀ (l : List V) (j : Nat), getIdx l (j : Nat) = l[j]? := fun l j => getIdx_nat
      have gi0 := gi [iv es[k].1, iv es[k].2.1, .int es[k].2.2] 0
      have gi1 := gi [iv es[k].1, iv es[k].2.1, .int es[k].2.2] 1
      have gi2 := gi [iv es[k].1, iv es[k].2.1, .int es[k].2.2] 2
      simp at gi0 gi1 gi2
      simp [Core.capacity_table_b1, e1, hx3, T.top, T.row _ o1, getIdx_arr, o1, o2, gi0, gi1, gi2]
      refine hK _ _ ⟨by simp [e1], hx''.set _ (hr _ o1).1, k + 1, ?_, ?_, by assumption, ?_⟩
      · rw [List.take_add_one, g1]; rfl
      · have := congrArg List.tail er; simpa using this
      · have T' := T.put es[k].2.1 (capM (es.take k) es[k].1 es[k].2.1 + es[k].2.2) o1
        refine T'.congr fun i j _ _ => ?_
        rw [List.take_add_one, List.getElem?_eq_getElem hke]
        exact (capM_snoc _ _ _ _).symm
    · refine ⟨by simp, fun i hi' => ?_, hi, fun i hi' e => ?_⟩
      · rw [H.set_other _ _ (ne_of_none (hr i hi').2 ht), (hr i hi').2]; rfl
      · exact ne_of_none (hr i hi').2 ht e
    · rintro σ h'' ⟨e1, hx'', k, e, er, hk, T⟩
      have hkl : k = es.length := by
        have := congrArg List.length er
        simp at this; (first | lia | omega)
      subst hkl
      simp [e1]
      exact hQ t rows h'' hx'' ht0 (fun i hi' => (hr i hi').1) (by simpa using T)
end MP

end
section
namespace MP
open PySem (PyData)

theorem nodup_idx : ∀ {l : List Nat}, l.Nodup → ∀ {i j : Nat} {v : Nat}, l[i]? = some v → l[j]? = some v → i = j
  | [], _, _, _, _, e, _ => by simp at e
  | a :: l, hn, i, j, v, e, e' => by
    obtain ⟨h1, h2⟩ := List.nodup_cons.mp hn
    cases i with
    | zero =>
      cases j with
      | zero => rfl
      | succ j =>
        simp at e e'
        subst e
        exact absurd (List.mem_of_getElem? e') h1
    | succ i =>
      cases j with
      | zero =>
        simp at e e'
        subst e'
        exact absurd (List.mem_of_getElem? e) h1
      | succ j =>
        simp at e e'
        rw [nodup_idx h2 e e']
theorem nodup_len : ∀ (n : Nat) (l : List Nat), l.Nodup → (∀ x ∈ l, x < n) → l.length ≤ n
  | 0, l, _, h => by
    cases l with
    | nil => simp
    | cons a r => exact absurd (h a List.mem_cons_self) (Nat.not_lt_zero _)
  | n + 1, l, hn, h => by
    by_cases q : n ∈ l
    · have h1 := nodup_len n (l.erase n) (hn.erase n) fun x hx => by
        have h2 := h x (List.mem_of_mem_erase hx)
        have h3 : x ≠ n := fun e => by subst e; exact absurd hx (List.Nodup.not_mem_erase hn)
        exact (MP.Ar.lt_ne h2 h3)
      rw [List.length_erase_of_mem q] at h1; (first | lia | omega)
    · have h1 := nodup_len n l hn fun x hx => by
        have h2 := h x hx
        have h3 : x ≠ n := fun e => q (e ▸ hx)
        exact (MP.Ar.lt_ne h2 h3)
      exact (Nat.le_of_lt (Nat.lt_of_le_of_lt h1 (Nat.lt_succ_self _)))

/-- the search in the midst: the p-th of the queue is at hand, its neighbours below j are seen -/
structure Bfs (n : Nat) (r : Nat → Nat → Prop) (s : Nat) (prev : Nat → Option Nat) (q : List Nat) (p j : Nat) : Prop where
  nod : q.Nodup
  lt : ∀ u ∈ q, u < n
  hd : q[0]? = some s
  ps : prev s = Option.none
  mem : ∀ v, v < n → v ≠ s → (prev v ≠ Option.none ↔ v ∈ q)
  par : ∀ (i v : Nat), 1 ≤ i → q[i]? = some v → ∃ (a u : Nat), q[a]? = some u ∧ a < i ∧ prev v = some u ∧ r u v ∧ (∀ (b w : Nat), b < a → q[b]? = some w → ¬ r w v) ∧ (a < p ∨ (a = p ∧ v < j))
  mono : ∀ (i i' v v' a a' u u' : Nat), 1 ≤ i → i < i' → q[i]? = some v → q[i']? = some v' → prev v = some u → prev v' = some u' → q[a]? = some u → q[a']? = some u' → a < a' ∨ (a = a' ∧ v < v')
  clo : ∀ (i u v : Nat), (i < p ∨ (i = p ∧ v < j)) → q[i]? = some u → v < n → r u v → v ∈ q

theorem Bfs.start {n s : Nat} {r : Nat → Nat → Prop} (hs : s < n) : Bfs n r s (fun _ => Option.none) [s] 0 0 where
  nod := by simp
  lt := by simp [hs]
  hd := rfl
  ps := rfl
  mem := fun v _ hv => by simp [hv]
  par := fun i v hi e => by
    rw [List.getElem?_eq_none (by simp; exact hi)] at e; cases e
  mono := fun i i' v v' a a' u u' h1 h2 e => by
    rw [List.getElem?_eq_none (by simp; exact h1)] at e; cases e
  clo := fun i u v h => by (first | lia | omega)

variable {n s : Nat} {r : Nat → Nat → Prop} {prev : Nat → Option Nat} {q : List Nat} {p j : Nat}

theorem Bfs.skip (B : Bfs n r s prev q p j) {u : Nat} (hu : q[p]? = some u) (hno : ¬ (r u j ∧ j ≠ s ∧ prev j = Option.none)) (hj : j < n) : Bfs n r s prev q p (j + 1) where
  nod := B.nod
  lt := B.lt
  hd := B.hd
  ps := B.ps
  mem := B.mem
  par := fun i v hi e => by
    obtain ⟨a, u, h1, h2, h3, h4, h5, h6⟩ := B.par i v hi e
    exact ⟨a, u, h1, h2, h3, h4, h5, by exact (MP.Ar.lex2 h6)⟩
  mono := B.mono
  clo := fun i u' v h e hv hr => by
    by_cases hc : i = p ∧ v = j
    · obtain ⟨rfl, rfl⟩ := hc
      rw [hu] at e; cases e
      by_cases hvs : v = s
      · subst hvs; exact List.mem_of_getElem? B.hd
      · refine (B.mem v hv hvs).mp fun hp => hno ⟨hr, hvs, hp⟩
    · exact B.clo i u' v (by (first | lia | omega)) e hv hr

noncomputable def setP (prev : Nat → Option Nat) (v u : Nat) : Nat → Option Nat := fun x => if x = v then some u else prev x

theorem Bfs.add (B : Bfs n r s prev q p j) {u : Nat} (hu : q[p]? = some u) (hr : r u j) (hjs : j ≠ s) (hp : prev j = Option.none) (hj : j < n) : Bfs n r s (setP prev j u) (q ++ [j]) p (j + 1) := by
  have hjq : j ∉ q := fun hm => (B.mem j hj hjs).mpr hm hp
  have hpl : p < q.length := (List.getElem?_eq_some_iff.mp hu).1
  have old : ∀ {i v : Nat}, i < q.length → (q ++ [j])[i]? = some v → q[i]? = some v := fun hi e => by rwa [List.getElem?_append_left hi] at e
  have cs : ∀ {i v : Nat}, (q ++ [j])[i]? = some v → (i < q.length ∧ q[i]? = some v) ∨ (i = q.length ∧ v = j) := fun {i v} e => by
    rcases Nat.lt_or_ge i q.length with h | h
    · exact .inl ⟨h, old h e⟩
    · have h2 := (List.getElem?_eq_some_iff.mp e).1
      simp at h2
      have : i = q.length := by exact (Nat.le_antisymm (Nat.le_of_lt_succ h2) h)
      subst this
      simp at e
      exact .inr ⟨rfl, e.symm⟩
  have up : ∀ {i v : Nat}, q[i]? = some v → (q ++ [j])[i]? = some v := fun e => by
    rw [List.getElem?_append_left (List.getElem?_eq_some_iff.mp e).1]; exact e
  have pv : ∀ {v : Nat}, v ∈ q → setP prev j u v = prev v := fun hv => by
    unfold setP; rw [if_neg (fun e => hjq (by rw [← e]; exact hv))]
  have nod' : (q ++ [j]).Nodup := by
    rw [List.nodup_append]
    exact ⟨B.nod, by simp, fun a ha b hb e => by simp at hb; subst hb; exact hjq (e ▸ ha)⟩
  refine ⟨nod', fun v hv => ?_, up B.hd, ?_, fun v hv hvs => ?_, fun i v hi e => ?_, fun i i' v v' a a' x x' h1 h2 e e' g g' k k' => ?_, fun i x v h e hv hrv => ?_⟩
  · rcases List.mem_append.mp hv with h | h
    · exact B.lt v h
    · simp at h; exact (Nat.lt_of_le_of_lt (Nat.le_of_eq h) hj)
  · unfold setP; rw [if_neg (Ne.symm hjs)]; exact B.ps
  · unfold setP
    by_cases hvj : v = j
    · simp [hvj]
    · simp only [hvj, if_false, List.mem_append, List.mem_singleton, or_false]
      exact B.mem v hv hvs
  · rcases cs e with ⟨hi', e1⟩ | ⟨rfl, rfl⟩
    · obtain ⟨a, x, g1, g2, g3, g4, g5, g6⟩ := B.par i v hi e1
      refine ⟨a, x, up g1, g2, by rw [pv (List.mem_of_getElem? e1)]; exact g3, g4, fun b w hb hw => ?_, by exact (MP.Ar.lex2 g6)⟩
      exact g5 b w hb (old (by exact (Nat.lt_trans (Nat.lt_trans hb g2) hi')) hw)
    · refine ⟨p, u, up hu, hpl, by simp [setP], hr, fun b w hb hw hrw => ?_, .inr ⟨rfl, Nat.lt_succ_self _⟩⟩
      exact hjq (B.clo b w _ (.inl hb) (old (by exact (Nat.lt_trans hb hpl)) hw) hj hrw)
  · rcases cs e with ⟨hi', e1⟩ | ⟨rfl, rfl⟩
    · rw [pv (List.mem_of_getElem? e1)] at g
      obtain ⟨a0, x0, b1, b2, b3, b4, b5, b6⟩ := B.par i v h1 e1
      rw [g] at b3; cases b3
      have ha : a = a0 := nodup_idx nod' k (up b1)
      subst ha
      rcases cs e' with ⟨hi2, e2⟩ | ⟨rfl, rfl⟩
      · rw [pv (List.mem_of_getElem? e2)] at g'
        obtain ⟨a1, x1, c1, c2, c3, c4, c5, c6⟩ := B.par i' v' (by exact (Nat.le_of_lt (Nat.lt_of_le_of_lt h1 h2))) e2
        rw [g'] at c3; cases c3
        have ha' : a' = a1 := nodup_idx nod' k' (up c1)
        subst ha'
        exact B.mono i i' v v' a a' x x' h1 h2 e1 e2 g g' b1 c1
      · have : x' = u := by simp [setP] at g'; exact g'.symm
        subst this
        have ha' : a' = p := nodup_idx nod' k' (up hu)
        subst ha'
        exact b6
    · have := (List.getElem?_eq_some_iff.mp e').1
      simp at this; exact False.elim (Nat.lt_irrefl _ (Nat.lt_of_lt_of_le h2 (Nat.le_of_lt_succ this)))
  · rcases cs e with ⟨hi', e1⟩ | ⟨rfl, rfl⟩
    · by_cases hc : i = p ∧ v = j
      · exact List.mem_append_right _ (by simp [hc.2])
      · exact List.mem_append_left _ (B.clo i x v (by (first | lia | omega)) e1 hv hrv)
    · (first | lia | omega)

theorem Bfs.next (B : Bfs n r s prev q p n) : Bfs n r s prev q (p + 1) 0 where
  nod := B.nod
  lt := B.lt
  hd := B.hd
  ps := B.ps
  mem := B.mem
  par := fun i v hi e => by
    obtain ⟨a, u, h1, h2, h3, h4, h5, h6⟩ := B.par i v hi e
    exact ⟨a, u, h1, h2, h3, h4, h5, by (first | lia | omega)⟩
  mono := B.mono
  clo := fun i u v h e hv hr => B.clo i u v (by (first | lia | omega)) e hv hr

theorem Bfs.len (B : Bfs n r s prev q p j) : q.length ≤ n := nodup_len n q B.nod B.lt

/-- from the source to the target by previous points -/
structure Chain (n : Nat) (r : Nat → Nat → Prop) (s : Nat) (prev : Nat → Option Nat) (q : List Nat) (t k : Nat) (c : Nat → Nat) : Prop where
  z : c 0 = s
  e : c k = t
  st : ∀ i, i < k → c (i + 1) < n ∧ prev (c (i + 1)) = some (c i) ∧ c (i + 1) ≠ s ∧ r (c i) (c (i + 1)) ∧ c (i + 1) ∈ q

theorem Bfs.chain (B : Bfs n r s prev q p j) : ∀ (i v : Nat), q[i]? = some v → ∃ k c, k ≤ i ∧ Chain n r s prev q v k c := by
  intro i
  induction i using Nat.strongRecOn with
  | ind i ih =>
    intro v e
    rcases Nat.eq_zero_or_pos i with rfl | hi
    · rw [B.hd] at e; cases e
      exact ⟨0, fun _ => s, Nat.le_refl _, rfl, rfl, fun i hi => by exact absurd hi (Nat.not_lt_zero _)⟩
    · obtain ⟨a, u, h1, h2, h3, h4, h5, h6⟩ := B.par i v hi e
      obtain ⟨k, c, hk, C⟩ := ih a h2 u h1
      have hvs : v ≠ s := fun q' => by
        subst q'
        have := nodup_idx B.nod e B.hd
        exact Nat.lt_irrefl _ (Nat.lt_of_lt_of_le hi (Nat.le_of_eq this))
      refine ⟨k + 1, fun x => if x ≤ k then c x else v, by exact (Nat.succ_le_of_lt (Nat.lt_of_le_of_lt hk h2)), by simp [C.z], if_neg (by exact (Nat.not_le_of_lt (Nat.lt_succ_self _))), fun i hi => ?_⟩
      by_cases hik : i < k
      · have h7 : i + 1 ≤ k := hik
        have h8 : i ≤ k := by exact (Nat.le_of_lt h7)
        simp only [h7, h8, if_true]
        exact C.st i hik
      · have : i = k := by exact (Nat.le_antisymm (Nat.le_of_lt_succ hi) (Nat.le_of_not_lt hik))
        subst this
        simp only [Nat.le_refl, if_true, show ¬ (i + 1 ≤ i) by assumption, if_false]
        refine ⟨B.lt v (List.mem_of_getElem? e), by rw [C.e]; exact h3, hvs, by rw [C.e]; exact h4, List.mem_of_getElem? e⟩

/-- what the search hands back -/
noncomputable def IsWay (n : Nat) (r : Nat → Nat → Prop) (s t : Nat) (prev : Nat → Option Nat) (q : List Nat) (way : List Nat) : Prop :=
  (s = t ∧ way = [s]) ∨ (s ≠ t ∧ t ∉ q ∧ way = []) ∨ (s ≠ t ∧ ∃ k c, Chain n r s prev q t k c ∧ k < n ∧ way = (List.range (k + 1)).map c)

theorem augmenting_path_spec {G G' : Par} {n t s snk : Nat} {rows : Nat → Nat} {R : Nat → Nat → Int} {h : H} {Q : V → H → Prop} (hc : ∀ vs h Q, runFn G' Core.path_to_fn vs h Q → G.Γ "path_to" vs h Q)
    (hn : n ≤ 1000) (hs : s < n) (hk : snk < n) (T : Tab h t n rows R)
    (hQ : ∀ prev q way, Bfs n (fun u v => 0 < R u v) s prev q q.length 0 → IsWay n (fun u v => 0 < R u v) s snk prev q way → Ret h Q (way.map iv)) :
    runFn G Core.augmenting_path_fn [iv n, .ref t, iv s, iv snk] h Q := by
  refine runFn_of rfl ?_
  have hnl : inLim (n : Int) := by unfold inLim; exact (MP.Ar.lim1 (Nat.le_of_lt (Nat.lt_of_le_of_lt hn (by decide))))
  simp [Core.augmenting_path_fn, Core.augmenting_path_body, hnl]
  refine compW_arr (fun _ => .none) (fun i hi K hK => hK) ⟨trivial, fun pa hpa => fun qa hqa => ?_⟩
  have hpq : pa ≠ qa := by
    intro e; subst e; simp at hqa
  have hqa0 : h qa = Option.none := by simpa [Ne.symm hpq] using hqa
  refine while_inv (fun m σ h' => ∃ prev q p, Bfs n (fun u v => 0 < R u v) s prev q p 0 ∧ m = n - p ∧ p ≤ q.length ∧ σ "n" = some (iv n) ∧ σ "residual" = some (.ref t) ∧ σ "source" = some (iv s) ∧ σ "sink" = some (iv snk) ∧
      σ "previous" = some (.ref pa) ∧ σ "queue" = some (.ref qa) ∧ σ "place" = some (iv p) ∧ Ext h h' ∧ h' pa = some (.list (arr n fun v => optV (prev v))) ∧ h' qa = some (.list (q.map iv))) ?_ (j := n) ?_
  · rintro m σ h' K ⟨prev, q, p, B, rfl, hp, e1, e2, e3, e4, e5, e6, e7, hx, hh1, hh2⟩ hK
    simp [e7, e6, hh2]
    by_cases hlt : p < q.length
    · have hlt' : (p : Int) < (q.length : Int) := by exact (Int.ofNat_lt.mpr hlt)
      simp only [hlt, if_true]
      have hlen := B.len
      have hu : q[p]? = some q[p] := List.getElem?_eq_getElem hlt
      simp [Core.augmenting_path_b1, e6, hh2, e7, getIdx_nat, hu, e1, hnl]
      refine forW_arr (fun v σ h' => ∃ prev q', Bfs n (fun u v => 0 < R u v) s prev q' p v ∧ q'[p]? = some q[p] ∧ σ "n" = some (iv n) ∧ σ "residual" = some (.ref t) ∧ σ "source" = some (iv s) ∧ σ "sink" = some (iv snk) ∧
        σ "previous" = some (.ref pa) ∧ σ "queue" = some (.ref qa) ∧ σ "place" = some (iv (p + 1)) ∧ σ "u" = some (iv q[p]) ∧ Ext h h' ∧ h' pa = some (.list (arr n fun v => optV (prev v))) ∧ h' qa = some (.list (q'.map iv))) ?_ ?_ ?_
      · exact ⟨prev, q, B, hu, by simp [e1], by simp [e2], by simp [e3], by simp [e4], by simp [e5], by simp [e6], by simp, by simp, hx, hh1, hh2⟩
      · rintro v σ h' K' hv ⟨prev, q', B, hu', e1, e2, e3, e4, e5, e6, e7, e8, hx, hh1, hh2⟩ hK'
        have hun : q[p] < n := B.lt _ (List.mem_of_getElem? hu')
        have T' := T.ext hx
        simp [Core.augmenting_path_b2, e2, e8, T'.top, T'.row _ hun, getIdx_arr, hun, hv, e3, e5, hh1]
        have keepσ : ∀ prev q' h', Bfs n (fun u v => 0 < R u v) s prev q' p (v + 1) → q'[p]? = some q[p] → Ext h h' → h' pa = some (.list (arr n fun v => optV (prev v))) → h' qa = some (.list (q'.map iv)) → K' .next (upd σ "v" (iv v)) h' :=
          fun prev q' h' b1 b2 b3 b4 b5 => hK' _ _ ⟨prev, q', b1, b2, by simp [e1], by simp [e2], by simp [e3], by simp [e4], by simp [e5], by simp [e6], by simp [e7], by simp [e8], b3, b4, b5⟩
        by_cases c1 : 0 < R q[p] v
        · simp only [c1, if_true]
          by_cases c2 : v = s
          · have c2' : (v : Int) = (s : Int) := by (first | lia | omega)
            simp only [c2', decide_true, Bool.not_true, Bool.false_eq_true, if_false]
            exact keepσ _ _ _ (B.skip hu' (fun q => q.2.1 c2) hv) hu' hx hh1 hh2
          · have c2' : ¬ ((v : Int) = (s : Int)) := by exact (fun e => c2 (Int.ofNat.inj e))
            simp only [c2', decide_false, Bool.not_false, if_true]
            cases c3 : prev v with
            | some w =>
              simp [c3]
              exact keepσ _ _ _ (B.skip hu' (fun q => by rw [q.2.2] at c3; cases c3) hv) hu' hx hh1 hh2
            | none =>
              simp [optV, Core.augmenting_path_b3, e8, e5, e6, hh1, hv, hh2, Ne.symm hpq]
              have hl2 := B.len
              refine ⟨by unfold lim; exact (Nat.lt_of_le_of_lt (Nat.le_trans hl2 hn) (by decide)), keepσ (setP prev v q[p]) (q' ++ [v]) _ (B.add hu' c1 c2 c3 hv) ?_ ((hx.set _ hpa).set _ hqa0) ?_ ?_⟩
              · rw [List.getElem?_append_left (List.getElem?_eq_some_iff.mp hu').1]; exact hu'
              · rw [H.set_other _ _ hpq, H.set_self, arr_set]
                congr 2
                refine arr_congr fun j _ => ?_
                unfold setP; split <;> rfl
              · simp
        · simp only [c1, if_false]
          exact keepσ _ _ _ (B.skip hu' (fun q => c1 q.1) hv) hu' hx hh1 hh2
      · rintro σ h' ⟨prev, q', B, hu', e1, e2, e3, e4, e5, e6, e7, e8, hx, hh1, hh2⟩
        have hp' : p < q'.length := (List.getElem?_eq_some_iff.mp hu').1
        simp
        exact hK (n - (p + 1)) _ _ (by have := B.len; (first | lia | omega)) ⟨prev, q', p + 1, B.next, rfl, hp', e1, e2, e3, e4, e5, e6, e7, hx, hh1, hh2⟩
    · simp only [hlt, if_false]
      have hpl : p = q.length := by exact (Nat.le_antisymm hp (Nat.le_of_not_lt hlt))
      subst hpl
      simp [e5, e3, e4]
      refine hc _ _ _ ?_
      have ret : ∀ way, IsWay n (fun u v => 0 < R u v) s snk prev q way → Ret h' Q (way.map iv) := fun way hw r h'' g1 g2 g3 => hQ prev q way B hw r h'' (hx.none g1) (hx.trans g2) g3
      by_cases hsk : s = snk
      · subst hsk
        exact path_to_same (ret [s] (.inl ⟨rfl, rfl⟩))
      · by_cases hm : snk ∈ q
        · obtain ⟨i, hi⟩ := List.mem_iff_getElem?.mp hm
          obtain ⟨k, c, hki, C⟩ := B.chain i snk hi
          have hkn : k < n := by
            have := (List.getElem?_eq_some_iff.mp hi).1
            have := B.len
            exact (Nat.lt_of_lt_of_le (Nat.lt_of_le_of_lt hki (show i < q.length by assumption)) this)
          have := ret ((List.range (k + 1)).map c) (.inr (.inr ⟨hsk, k, c, C, hkn, rfl⟩))
          rw [List.map_map] at this
          exact path_to_chain hh1 hn hsk C.z C.e (by exact (Nat.le_of_lt hkn)) (fun i hi => ⟨(C.st i hi).1, (C.st i hi).2.1, (C.st i hi).2.2.1⟩) this
        · have hp0 : prev snk = Option.none := by
            cases c : prev snk with
            | none => rfl
            | some w => exact absurd ((B.mem snk hk (Ne.symm hsk)).mp (by rw [c]; simp)) hm
          exact path_to_none hh1 hsk hk hp0 (ret [] (.inr (.inl ⟨hsk, hm, rfl⟩)))
  · refine ⟨fun _ => Option.none, [s], 0, Bfs.start hs, rfl, by simp, by simp, by simp, by simp, by simp, by simp, by simp, by simp, ?_, ?_, by simp⟩
    · exact (Ext.new _ hpa).trans (Ext.new _ hqa)
    · rw [H.set_other _ _ hpq, H.set_self]; rfl
end MP

end
section
/-! Equality of what is read; lists of edges. -/
namespace MP
open PySem (PyData)

mutual
theorem Rd.eqv {h : H} : ∀ {v : V} {d : PyData}, Rd h v d → PyData.eqv d d = true
  | _, _, .none => rfl
  | _, _, .bool b => by cases b <;> rfl
  | _, _, .int i => by show (i == i) = true; exact beq_self_eq_true i
  | _, _, .list e r => RdAll.eqv r
  | _, _, .tup e r => RdAll.eqv r
theorem RdAll.eqv {h : H} : ∀ {vs : List V} {ds : List PyData}, RdAll h vs ds → PyData.eqvAll ds ds = true
  | _, _, .nil => rfl
  | _, _, .cons a b => Bool.and_eq_true_iff.mpr ⟨Rd.eqv a, RdAll.eqv b⟩
end
theorem eqv_i {a b : Int} : PyData.eqv (.int a) (.int b) = (a == b) := rfl
theorem depth_l {l : List PyData} : (PyData.list l).depth = PyData.depthAll l + 1 := rfl
theorem depth_t {l : List PyData} : (PyData.tuple l).depth = PyData.depthAll l + 1 := rfl
theorem depth_i {i : Int} : (PyData.int i).depth = 0 := rfl
theorem depth_b {b : Bool} : (PyData.bool b).depth = 0 := rfl
theorem depth_o : PyData.none.depth = 0 := rfl
theorem depth_c {d : PyData} {r : List PyData} : PyData.depthAll (d :: r) = max d.depth (PyData.depthAll r) := rfl
theorem depth_n : PyData.depthAll [] = 0 := rfl

theorem depthAll_le {k : Nat} : ∀ {ds : List PyData}, (∀ d ∈ ds, d.depth ≤ k) → PyData.depthAll ds ≤ k
  | [], _ => by simp [depth_c, depth_n]
  | d :: r, f => by
    simp only [depth_c, depth_n]
    exact Nat.max_le.mpr ⟨f d List.mem_cons_self, depthAll_le fun d hd => f d (List.mem_cons_of_mem _ hd)⟩
theorem depth_ints (is : List Int) : (PyData.list (is.map PyData.int)).depth ≤ 1 := by
  simp only [depth_l, depth_t, depth_i, depth_b, depth_o]
  have := depthAll_le (k := 0) (ds := is.map PyData.int) (fun d hd => by obtain ⟨i, _, rfl⟩ := List.mem_map.mp hd; simp [depth_l, depth_t, depth_i, depth_b, depth_o])
  exact (MP.Ar.le_sum1 this)
theorem depth_tab (n : Nat) (M : Nat → Nat → Int) : (tabD n M).depth ≤ 8 := by
  simp only [tabD, depth_l, depth_t, depth_i, depth_b, depth_o]
  have := depthAll_le (k := 1) (ds := (List.range n).map fun i => PyData.list ((List.range n).map fun j => .int (M i j))) (fun d hd => by
    obtain ⟨i, _, rfl⟩ := List.mem_map.mp hd
    have := depth_ints ((List.range n).map fun j => M i j)
    rw [List.map_map] at this; exact this)
  exact (Nat.succ_le_of_lt (Nat.lt_of_le_of_lt this (by decide)))
theorem depth_edges (es : List Edge) : (edgesD es).depth ≤ 8 := by
  simp only [edgesD, depth_l, depth_t, depth_i, depth_b, depth_o]
  have := depthAll_le (k := 1) (ds := es.map edgeD) (fun d hd => by
    obtain ⟨i, _, rfl⟩ := List.mem_map.mp hd
    simp [edgeD, depth_l, depth_t, depth_i, depth_b, depth_o, depth_c, depth_n])
  exact (Nat.succ_le_of_lt (Nat.lt_of_le_of_lt this (by decide)))

/-- two values that read as the same are equal -/
theorem eqW_same {h : H} {a b : Nat} {d : PyData} {Q : Bool → Prop} (ra : Rd h (.ref a) d) (rb : Rd h (.ref b) d) (hd : d.depth ≤ 8) (hQ : Q true) : eqW (.ref a) (.ref b) h Q :=
  ⟨d, d, ra, rb, hd, hd, by rw [ra.eqv]; exact hQ⟩
/-- the places of the list are tuples, one for each edge -/
noncomputable def EA (h : H) (xs : List V) (es : List Edge) : Prop := xs.length = es.length ∧ ∀ (i : Nat) e, es[i]? = some e → ∃ b, xs[i]? = some (.ref b) ∧ h b = some (.tup [iv e.1, iv e.2.1, .int e.2.2])
theorem EA.nil {h : H} : EA h [] [] := ⟨rfl, fun i e he => by simp at he⟩
theorem EA.mono {h h' : H} {xs : List V} {es : List Edge} (A : EA h xs es) (x : Ext h h') : EA h' xs es :=
  ⟨A.1, fun i e he => by obtain ⟨b, h1, h2⟩ := A.2 i e he; exact ⟨b, h1, x _ _ h2⟩⟩
theorem EA.set {h : H} {xs l : List V} {es : List Edge} {a : Nat} {o : O} (A : EA h xs es) (ha : h a = some (.list l)) : EA (h.set a o) xs es :=
  ⟨A.1, fun i e he => by
    obtain ⟨b, h1, h2⟩ := A.2 i e he
    refine ⟨b, h1, ?_⟩
    rw [H.set_other _ _ (fun q => by rw [q, ha] at h2; cases h2)]; exact h2⟩
theorem EA.snoc {h : H} {xs : List V} {es : List Edge} {b : Nat} {e : Edge} (A : EA h xs es) (hb : h b = some (.tup [iv e.1, iv e.2.1, .int e.2.2])) : EA h (xs ++ [.ref b]) (es ++ [e]) := by
  refine ⟨by simp [A.1], fun i e' he => ?_⟩
  rcases Nat.lt_or_ge i es.length with q | q
  · rw [List.getElem?_append_left q] at he
    obtain ⟨b', h1, h2⟩ := A.2 i e' he
    exact ⟨b', by rw [List.getElem?_append_left (by rw [A.1]; exact q)]; exact h1, h2⟩
  · have h1 := (List.getElem?_eq_some_iff.mp he).1
    simp at h1
    have : i = es.length := by exact (Nat.le_antisymm (Nat.le_of_lt_succ h1) q)
    subst this
    simp at he; subst he
    exact ⟨b, by rw [← A.1]; simp, hb⟩
theorem EA.all {h : H} {xs : List V} {es : List Edge} (A : EA h xs es) : RdAll h xs (es.map edgeD) := by
  refine RdAll.of_get (by simp [A.1]) fun i v d h1 h2 => ?_
  rw [List.getElem?_map] at h2
  cases q : es[i]? with
  | none => rw [q] at h2; cases h2
  | some e =>
    rw [q] at h2; cases h2
    obtain ⟨b, g1, g2⟩ := A.2 i e q
    rw [g1] at h1; cases h1
    exact .tup g2 (.cons (.int _) (.cons (.int _) (.cons (.int _) .nil)))
theorem EA.rd {h : H} {a : Nat} {xs : List V} {es : List Edge} (A : EA h xs es) (ha : h a = some (.list xs)) : Rd h (.ref a) (edgesD es) := .list ha A.all

/-- a comprehension over a list of edges that leaves the heap -/
theorem compW_edges {turn : V → H → (Option V → H → Prop) → Prop} {kp : Option (Nat × List V)} {Q : List V → H → Prop} {h : H} (g : Edge → Option V) (hst : stays kp h)
    (step : ∀ e b, h b = some (.tup [iv e.1, iv e.2.1, .int e.2.2]) → ∀ K : Option V → H → Prop, K (g e) h → turn (.ref b) h K) :
    ∀ (xs : List V) (es : List Edge) (ys : List V), EA h xs es → Q (ys ++ es.filterMap g) h → compW turn kp xs ys h Q
  | [], [], ys, _, hQ => by simpa [compW] using hQ
  | [], _ :: _, _, A, _ => absurd A.1 (by simp)
  | _ :: _, [], _, A, _ => absurd A.1 (by simp)
  | v :: r, e :: es, ys, A, hQ => by
    obtain ⟨b, h1, h2⟩ := A.2 0 e rfl
    simp at h1; subst h1
    have A' : EA h r es := ⟨by simpa using A.1, fun i e he => by simpa using A.2 (i + 1) e (by simpa using he)⟩
    refine ⟨hst, step e b h2 _ ?_⟩
    cases q : g e with
    | none => exact compW_edges g hst step r es ys A' (by simpa [q] using hQ)
    | some w => exact compW_edges g hst step r es (ys ++ [w]) A' (by simpa [q] using hQ)
@[simp] theorem gi3_0 (a b c : V) : getIdx [a, b, c] 0 = some a := rfl
@[simp] theorem gi3_1 (a b c : V) : getIdx [a, b, c] 1 = some b := rfl
@[simp] theorem gi3_2 (a b c : V) : getIdx [a, b, c] 2 = some c := rfl
end MP

end
section
/-! More loops; least of a list. -/
namespace MP
theorem forW_list {turn : V → Env → H → (Flow → Env → H → Prop) → Prop} {kp : Option (Nat × List V)} {Q : Flow → Env → H → Prop} {xs : List V} (I : Nat → Env → H → Prop) {σ : Env} {h : H} (h0 : I 0 σ h) (hst : ∀ i σ h, I i σ h → stays kp h)
    (step : ∀ i v σ h K, xs[i]? = some v → I i σ h → (∀ σ' h', I (i + 1) σ' h' → K Flow.next σ' h') → turn v σ h K) (fin : ∀ σ h, I xs.length σ h → Q .next σ h) : forW turn kp xs σ h Q := by
  refine forW_inv (fun d r σ h => d ++ r = xs ∧ I d.length σ h) (fun d r σ h hI => hst _ _ _ hI.2) ?_ xs [] σ h ⟨rfl, h0⟩ ?_
  · rintro d v r σ h K ⟨e, hI⟩ hK
    refine step d.length v σ h K (by rw [← e]; simp) hI fun σ' h' hI' => hK σ' h' ⟨by simp [e], by simpa using hI'⟩
  · rintro σ h ⟨e, hI⟩
    simp at hI; exact fin _ _ hI
theorem forW_arrG {turn : V → Env → H → (Flow → Env → H → Prop) → Prop} {Q : Flow → Env → H → Prop} {n : Nat} {f : Nat → V} (I : Nat → Env → H → Prop) {σ : Env} {h : H} (h0 : I 0 σ h)
    (step : ∀ i σ h K, i < n → I i σ h → (∀ σ' h', I (i + 1) σ' h' → K Flow.next σ' h') → turn (f i) σ h K) (fin : ∀ σ h, I n σ h → Q .next σ h) : forW turn Option.none (arr n f) σ h Q := by
  refine forW_list I h0 (fun _ _ _ _ => trivial) (fun i v σ h K e hI hK => ?_) (by simpa using fin)
  have hi : i < n := by have := (List.getElem?_eq_some_iff.mp e).1; simpa using this
  rw [arr_get f hi] at e; cases e
  exact step i σ h K hi hI hK
theorem filterMap_if {α : Type} (p : α → Bool) (f : α → V) (l : List α) : (l.filterMap fun a => if p a then some (f a) else Option.none) = (l.filter p).map f := by
  induction l with
  | nil => rfl
  | cons a r ih => by_cases q : p a <;> simp [q, ih]
theorem fmin_le : ∀ (l : List Int) (a : Int), l.foldl min a ≤ a ∧ ∀ x ∈ l, l.foldl min a ≤ x
  | [], a => ⟨Int.le_refl _, fun x hx => by simp at hx⟩
  | b :: l, a => by
    obtain ⟨h1, h2⟩ := fmin_le l (min a b)
    refine ⟨Int.le_trans h1 (by exact MP.Ar.minL), fun x hx => ?_⟩
    rcases List.mem_cons.mp hx with rfl | hx
    · exact Int.le_trans h1 (by exact MP.Ar.minR)
    · exact h2 x hx
theorem fmin_mem : ∀ (l : List Int) (a : Int), l.foldl min a = a ∨ l.foldl min a ∈ l
  | [], a => .inl rfl
  | b :: l, a => by
    rcases fmin_mem l (min a b) with h | h
    · rcases Int.le_total a b with q | q
      · left; rw [List.foldl_cons, h]; exact (MP.Ar.min_l q)
      · right; rw [List.foldl_cons, h, show min a b = b by exact (MP.Ar.min_r q)]; exact List.mem_cons_self
    · exact .inr (List.mem_cons_of_mem _ h)
theorem minL_le : ∀ {l : List Int} {x : Int}, x ∈ l → minL l ≤ x
  | a :: l, x, hx => by
    obtain ⟨h1, h2⟩ := fmin_le l a
    rcases List.mem_cons.mp hx with rfl | hx
    · exact h1
    · exact h2 x hx
theorem minL_mem : ∀ {l : List Int}, l ≠ [] → minL l ∈ l
  | [], h => absurd rfl h
  | a :: l, _ => by
    rcases fmin_mem l a with h | h
    · rw [minL, h]; exact List.mem_cons_self
    · exact List.mem_cons_of_mem _ h

/-- where a def lies in the table -/
noncomputable def findF (f : String) : List (String × Fn) → Option (Fn × List (String × Fn))
  | [] => Option.none
  | (g, d) :: r => if f = g then some (d, r) else findF f r
theorem call_of {ns : List Int} {gc : String → Option V} {f : String} {d : Fn} {r : List (String × Fn)} : ∀ {l : List (String × Fn)}, findF f l = some (d, r) → ∀ vs h Q, runFn ⟨ns, gc, table ns gc r⟩ d vs h Q → table ns gc l f vs h Q
  | [], e, _, _, _, _ => by cases e
  | (g, d') :: l, e, vs, h, Q, x => by
    rw [table]
    rw [findF] at e
    by_cases q : f = g
    · rw [if_pos q] at e ⊢; cases e; exact x
    · rw [if_neg q] at e ⊢; exact call_of e vs h Q x
end MP

end
section
/-! A head of our own: the look at the program's heap is one Bool that the kernel runs on the heap itself. -/
namespace MP
open PySem PySem.W PyProof.Rows
noncomputable def lookF (n : Nat) (h : Heap) : Frag := (List.range n).filterMap fun a => (h.get? a).map fun o => (a, o)
theorem lookF_in (n : Nat) (h : Heap) : (lookF n h).In h := by
  intro a o e
  unfold lookF at e
  generalize List.range n = l at e
  induction l with
  | nil => cases e
  | cons x r ih =>
    rw [List.filterMap_cons] at e
    cases q : h.get? x with
    | none => rw [q] at e; exact ih e
    | some ob =>
      rw [q] at e
      simp only [Option.map_some, List.lookup_cons] at e
      split at e
      · rename_i hx
        have : a = x := by simpa using hx
        cases e; rw [this]; exact q
      · exact ih e
noncomputable def chkHook (n : Nat) (chk : Frag → Bool) : Hook := ⟨Bool, fun s => chk (lookF n s.heap), fun _ => true, fun _ h => ∃ F : Frag, F.In h ∧ chk F = true, fun _ s e => ⟨_, lookF_in n s.heap, e⟩, fun _ _ _ ⟨F, x, e⟩ k => ⟨F, x.keeps k, e⟩⟩
noncomputable def viewOf (p : Program) (ks : List Nat) : Program := { p with main := { p.main with body := ks.filterMap fun i => p.main.body[i]? } }
end MP

end
section
/-! a generator over a list, with no condition: made, then handed to any or sum -/
namespace MP
open PySem PyProof.Rows
section
variable {prog : Program} {w : World} {A : Around} {E : Value → Shared → Prop} {s : Shared}
theorem gen_code {env : PySem.Env} {c P : Addr} {ps : Array Value} {pos : Pos} {q : Str} {scope : Scope} {Q : Value → Shared → Prop} (hcode : env.code = .ref c) (hok : s.heap.IsCode c P ps) (htab : s.heap.TableAt c P ps)
    (hQ : ∀ code h' tk ps', Heap.ExtBut P s.heap h' → s.heap.objs.size ≤ h'.objs.size → h'.IsCode c P ps' → h'.TableAt c P ps' → (∃ more, ps' = ps ++ more) → Q code { s with heap := h', toks := tk }) : wpAny (model prog w) A (genexprCode env pos q scope) Q E s := by
  cases hnf : codeAmong pos ps.toList with
  | some cv => exact wpAny_genexprCode_hit hcode hok hnf (hQ cv s.heap s.toks ps (Heap.ExtBut.refl _ _) (Nat.le_refl _) hok htab ⟨#[], by simp⟩)
  | none => exact wpAny_genexprCodeX hcode hok htab hnf fun c' h' tk hx hge hlt hc _ ht _ => hQ _ h' tk _ hx (Nat.le_trans hge (Nat.le_of_lt hlt)) hc ht ⟨_, rfl⟩
theorem passing_all (n : Nat) : passing (fun _ => true) n 0 = List.range n := by simp [passing]
theorem gen_list {env : PySem.Env} {elt iter : Expr} {x : Str} {px : Pos} {scope : Scope} {cl : List (Str × Addr)} {pos : Pos} {Q : Value → Shared → Prop} {c P S bm : Addr} {ps items : Array Value} {mg : Str → Option Value} {ob : Obj} {F : Nat → Value → Prop}
    (hcode : env.code = .ref c) (hok : s.heap.IsCode c P ps) (htab : s.heap.TableAt c P ps) (M : BMod s.heap env.globals mg bm ob)
    (hh : A.handled = none) (hco : scope.isCoroutine = false) (hclos : closureFor scope env = pure cl) (hcell : ∀ y ∈ scope.names, y.2 ≠ .cell) (h0 : scope.names.lookup (".0" : Str) = some NameKind.local)
    (hx : scope.names.lookup x = some .local) (hkind : scope.kind = .function) (hroom : A.depth < recursionLimit)
    (hit : ∀ Q' : Value → Shared → Prop, Q' (.ref S) s → wpAny (model prog w) A (eval iter env) Q' E s) (hS : s.heap.IsList S items) (hlim : s.heap.NoLimit) (G : AllBare s.gens)
    (helt : ∀ (code : Value) (C : Addr) (A' : Around) E' i v (t : Shared) m₂, A'.handled = none → A'.depth ≤ A.depth + 1 → A'.units ≤ A.units + 8 → items[i]? = some v → t.heap.Ns C m₂ → m₂ x = some v → (∀ b o, b ≠ P → s.heap.get? b = some o → t.heap.get? b = some o) →
      wpAny (model prog w) A' (eval elt (genEnv scope cl C code builtinsNs env)) (fun y s₃ => F i y ∧ Keeps t s₃) E' t)
    (hQ : ∀ a s₅ ps', (∀ b o, b ≠ P → s.heap.get? b = some o → s₅.heap.get? b = some o) → s₅.heap.IsCode c P ps' → s₅.heap.TableAt c P ps' → (∃ more, ps' = ps ++ more) → s₅.heap.NoLimit → s₅.os = s.os → AllBare s₅.gens → Gen prog w A (s.heap.objs.size - 1) a items.size F s₅ → Q (.ref a) s₅)
    (hs : ∀ x, genFold iter env x = pure x) :
    wpAny (model prog w) A (eval (.GeneratorExp elt [⟨.Name x px, iter, [], 0⟩] scope pos) env) Q E s := by
  have hSlt : S < s.heap.objs.size := by obtain ⟨_, e, _⟩ := hS; exact Heap.lt_size e
  have hPlt : P < s.heap.objs.size := Heap.lt_size htab.2
  have hSP : S ≠ P := fun e => by
    obtain ⟨o, ho, hc, _⟩ := hS
    rw [e, htab.2] at ho; cases ho; exact absurd hc (by simp)
  have hcP : cStatics ≠ P := fun e => by
    obtain ⟨_, hns, _⟩ := hlim
    obtain ⟨o, es, ep, ho, hd, _⟩ := hns
    rw [e, htab.2] at ho; cases ho; cases hd
  have hclt : cStatics < s.heap.objs.size := let ⟨_, hn, _⟩ := hlim; hn.lt
  refine wpAny_GeneratorExp_walksQD hh hco hclos hcell h0 hx hkind hroom (hit _ (wpAny_pyIter_list hS ⟨hlim.push _, ?_⟩)) hs
  have hok₂ := hok.push { cls := .type "list_iterator", data := .fields #[.ref S, .int 0 0] }
  have htab₂ : (s.heap.push { cls := .type "list_iterator", data := .fields #[.ref S, .int 0 0] }).TableAt c P ps := htab.keeps fun _ _ e => Heap.get?_push_of_some _ e
  refine gen_code hcode hok₂ htab₂ fun code h₃ tk ps' hx₃ hge hc₃ ht₃ hm => ?_
  have k₃ : ∀ b o, b ≠ P → s.heap.get? b = some o → h₃.get? b = some o := fun b o hb e => hx₃ b o hb (Heap.get?_push_of_some _ e)
  have hsz : s.heap.objs.size + 1 ≤ h₃.objs.size := by have := hge; rw [Heap.size_push] at this; exact this
  have bmP : bm ≠ P := fun e => by have := M.obj; rw [e, htab.2] at this; cases this; have := M.cls; cases this
  have gP : env.globals ≠ P := fun e => by
    obtain ⟨o, es, ep, ho, hd, _⟩ := M.ns
    rw [e, htab.2] at ho; cases ho; cases hd
  refine wpAny_builtinsFor (M.ns.at' fun o e => k₃ _ o gP e) M.name M.ne (k₃ _ _ bmP M.obj) M.cls M.dict M.data ?_
  have hI₃ : h₃.get? s.heap.objs.size = some { cls := .type "list_iterator", data := .fields #[.ref S, .int 0 0] } := hx₃ _ _ (Nat.ne_of_gt hPlt) (Heap.get?_push_size _ rfl)
  refine ⟨s.heap.objs.size, [s.heap.objs.size, S], [s.heap.objs.size], items.size, _, _, fun _ => true, F, rfl, (fun A' hA => Walks.list hA _ _ (Nat.ne_of_lt hSlt) items), ⟨⟨_, hI₃, rfl, rfl⟩, hS.at fun o e => k₃ _ o hSP e⟩, ?_, (hlim.push _).extBut hx₃ hcP, ?_, (fun href hhref => ⟨?_, ?_⟩), fun a h₅ tk' gs hgb hag hsz₅ hk₅ W hat => ?_⟩
  · intro b hb
    rcases List.mem_cons.mp hb with rfl | hb
    · exact hsz
    · rcases List.mem_cons.mp hb with rfl | hb
      · exact Nat.lt_of_lt_of_le (Nat.lt_succ_of_lt hSlt) hsz
      · cases hb
  · intro hb
    rcases List.mem_cons.mp hb with e | hb
    · exact absurd (e ▸ hclt) (Nat.lt_irrefl _)
    · cases hb
  · intro A' E' i v t m₂ hA hD hU hP hn hm hkp
    exact wpAny_pure ⟨rfl, t.heap, t.toks, rfl, fun _ _ e => e⟩
  · intro A' E' i v t m₂ hA hD hU hP _ hn hm hkp
    refine helt code _ A' E' i v t m₂ hA hD hU hP hn hm fun b o hb e => ?_
    have hlt := Heap.lt_size e
    exact hkp b (List.mem_range.mpr (Nat.lt_of_lt_of_le (Nat.lt_succ_of_lt hlt) hsz)) (fun hmem => by
      rcases List.mem_cons.mp hmem with q | q
      · exact absurd (q ▸ hlt) (Nat.lt_irrefl _)
      · cases q) o (hhref b o (k₃ b o hb e))
  · rw [passing_all, List.length_range] at W
    have W' := W.imp (P' := F) fun j y hy => by
      obtain ⟨i, hij, hF⟩ := hy
      rw [List.getElem?_eq_some_iff] at hij
      obtain ⟨hj, hij⟩ := hij
      rw [List.getElem_range] at hij
      rw [hij]; exact hF
    refine hQ a _ ps' (fun b o hb e => hk₅ b o (k₃ b o hb e)) (hc₃.keeps hk₅) (ht₃.keeps hk₅) hm (((hlim.push _).extBut hx₃ hcP).keeps hk₅) rfl (G.push hgb) ⟨_, _, _, _, W', hat, (fun i s' st => st.1.typeIs), List.mem_cons_self, ?_, ?_⟩
    · intro b hb
      show b < h₅.objs.size
      rw [hsz₅]
      rcases List.mem_cons.mp hb with rfl | hb
      · exact Nat.lt_succ_self _
      · rcases List.mem_cons.mp hb with rfl | hb
        · exact Nat.lt_succ_of_lt hag
        · exact Nat.lt_succ_of_lt (Nat.lt_trans (List.mem_range.mp hb) hag)
    · intro b hb
      have z : s.heap.objs.size - 1 < s.heap.objs.size := Nat.sub_lt (Nat.lt_of_le_of_lt (Nat.zero_le _) hPlt) Nat.one_pos
      rcases List.mem_cons.mp hb with rfl | hb
      · exact Nat.lt_of_lt_of_le z (Nat.le_of_succ_le hsz)
      · rcases List.mem_cons.mp hb with rfl | hb
        · exact z
        · cases hb
variable {L : Addr} {m : Str → Option Value} {a : Addr} {n K : Nat} {F : Nat → Value → Prop}
end
end MP

end
section
/-! a generator with two fors over a list of lists, no condition -/
namespace MP
open PySem PyProof.Rows
section
variable {elt iter1 iter2 : Expr} {x1 x2 : Str} {p1 p2 : Pos} {scope : Scope} {pos : Pos}
noncomputable abbrev gen2 (elt iter1 iter2 : Expr) (x1 x2 : Str) (p1 p2 : Pos) (scope : Scope) (pos : Pos) : Expr := .GeneratorExp elt [⟨.Name x1 p1, iter1, [], 0⟩, ⟨.Name x2 p2, iter2, [], 0⟩] scope pos
theorem compTurn_out (it acc : Value) (env : PySem.Env) :
    compTurn (gen2 elt iter1 iter2 x1 x2 p1 p2 scope pos) 0 it acc env = (do
      standAt iter1.pos
      match ← pyNext it with
      | none => pure (.done .next)
      | some v =>
        letOwnedTupleGo (.Name x1 p1) it v
        assign (.Name x1 p1) env v
        let x ← eval iter2 env
        standAt iter2.pos
        let x ← foldedSetIterable iter2 env x
        let _ ← runOwn (.compStart (gen2 elt iter1 iter2 x1 x2 p1 p2 scope pos) 1 (← holding [x] (pyIter x)) acc env) env
        again (.compLoop (gen2 elt iter1 iter2 x1 x2 p1 p2 scope pos) 0 it acc env)) := by rfl
theorem compTurn_in (it acc : Value) (env : PySem.Env) :
    compTurn (gen2 elt iter1 iter2 x1 x2 p1 p2 scope pos) 1 it acc env = (do
      standAt iter2.pos
      match ← pyNext it with
      | none => pure (.done .next)
      | some v =>
        letOwnedTupleGo (.Name x2 p2) it v
        assign (.Name x2 p2) env v
        (do let v ← eval elt env; standAt elt.pos; let _ ← yieldOut env v)
        again (.compLoop (gen2 elt iter1 iter2 x1 x2 p1 p2 scope pos) 1 it acc env)) := by rfl
end
/-- what is old stays -/
noncomputable abbrev KeepB (hb : Heap) (N C I : Nat) (h : Heap) : Prop := ∀ b o, b < N → b ≠ C → b ≠ I → hb.get? b = some o → h.get? b = some o
noncomputable abbrev SinceB (s₀ s : Shared) : Prop := ∃ h tk, s = { s₀ with heap := h, toks := tk }
noncomputable def prot2 (hb : Heap) (N : Nat) (J : Heap → Prop) : Protocol := fun m s₀ v s kap => v = .bool true ∧ SinceB s₀ s ∧ J s.heap ∧ ∀ s'' : Shared, s''.heap = s.heap → kap (.send .none) s''
noncomputable def end2 (hb : Heap) (N : Nat) (J : Heap → Prop) : Nat → Shared → Shared → Prop := fun n s₀ s₁ => n = 0 ∧ SinceB s₀ s₁ ∧ J s₁.heap
/-- how many items are left from row i on -/
noncomputable def cntR (sz : Nat → Nat) : Nat → Nat → Nat
  | 0, _ => 0
  | k + 1, i => sz i + cntR sz k (i + 1)
theorem SinceB.step {s₀ s : Shared} (x : SinceB s₀ s) {h : Heap} {tk : Nat} : SinceB s₀ { s with heap := h, toks := tk } := by
  obtain ⟨h', tk', rfl⟩ := x; exact ⟨h, tk, rfl⟩
section
variable {prog : Program} {w : World} {A : Around} {elt iter1 iter2 : Expr} {x1 x2 : Str} {p1 p2 : Pos} {scope : Scope} {pos : Pos}
variable {hb : Heap} {N I S : Addr} {items : Array Value} {cenv : PySem.Env} {sz : Nat → Nat} {OK : Value → Prop}
structure GHyp (prog : Program) (w : World) (elt iter2 : Expr) (x1 x2 : Str) (hb : Heap) (N I S : Addr) (items : Array Value) (cenv : PySem.Env) (sz : Nat → Nat) (OK : Value → Prop) : Prop where
  top : ∃ a o, a + 1 = N ∧ a ≠ cenv.locals ∧ a ≠ I ∧ hb.get? a = some o
  hCI : cenv.locals ≠ I
  hS : hb.IsList S items
  hSN : S < N ∧ S ≠ cenv.locals ∧ S ≠ I
  rows : ∀ (i : Nat) v, items[i]? = some v → ∃ L r, v = .ref L ∧ (L < N ∧ L ≠ cenv.locals ∧ L ≠ I) ∧ hb.IsList L r ∧ r.size = sz i ∧ ∀ (j : Nat) y, r[j]? = some y → OK y
  k1 : cenv.kindOf x1 = some .local
  k2 : cenv.kindOf x2 = some .local
  hp : (cenv.scope.kind == .class || (cenv.scope.kind == .module && cenv.locals != cenv.globals)) = false
  hco : cenv.scope.isCoroutine = false
  ev2 : ∀ (A' : Around) (E' : Value → Shared → Prop) v (t : Shared) m (Q : Value → Shared → Prop), t.heap.Ns cenv.locals m → m x1 = some v → Q v t → wpAny (model prog w) A' (eval iter2 cenv) Q E' t
  fold2 : ∀ x, foldedSetIterable iter2 cenv x = pure x
  elt : ∀ (A' : Around) E' y (t : Shared) m, A'.handled = none → OK y → t.heap.Ns cenv.locals m → m x2 = some y → KeepB hb N cenv.locals I t.heap → wpAny (model prog w) A' (eval elt cenv) (fun z s₃ => z = .bool true ∧ Keeps t s₃) E' t
structure GI (hb : Heap) (N C I S : Addr) (i : Nat) (h : Heap) : Prop where
  keep : KeepB hb N C I h
  ns : ∃ m, h.Ns C m
  it : h.IsListIter I S i
theorem GI.mono {C : Addr} {i : Nat} {h h' : Heap} (X : GI hb N C I S i h) (k : ∀ b o, h.get? b = some o → h'.get? b = some o) : GI hb N C I S i h' :=
  ⟨fun b o hb' c1 c2 e => k _ _ (X.keep b o hb' c1 c2 e), let ⟨m, hm⟩ := X.ns; ⟨m, hm.keeps k⟩, X.it.at fun o e => k _ o e⟩
noncomputable abbrev Inn (hb : Heap) (N C I S i J L : Addr) (j : Nat) (h : Heap) : Prop := GI hb N C I S i h ∧ h.IsListIter J L j ∧ N ≤ J ∧ J ≠ C ∧ J ≠ I
theorem seg_in (hh : A.handled = none) (H : GHyp prog w elt iter2 x1 x2 hb N I S items cenv sz OK) {i L J : Nat} {r : Array Value} (hL : L < N ∧ L ≠ cenv.locals ∧ L ≠ I) (hr : hb.IsList L r) (hok : ∀ (j : Nat) y, r[j]? = some y → OK y) {kk : Result → Sem Fin} {p : Pos} {rest : Nat}
    (next : ∀ s₀ s, SinceB s₀ s → GI hb N cenv.locals I S i s.heap → Seg (model prog w) A (fun n s₀ r s₁ => r = .ok .next ∧ end2 hb N (KeepB hb N cenv.locals I) n s₀ s₁) (prot2 hb N (KeepB hb N cenv.locals I)) rest s₀ (.compLoop (gen2 elt iter1 iter2 x1 x2 p1 p2 scope pos) 0 (.ref I) .none cenv) (kk (.ok .next)) [] s) :
    ∀ (d j : Nat) (s₀ s : Shared), r.size - j = d → j ≤ r.size → SinceB s₀ s → Inn hb N cenv.locals I S i J L j s.heap →
      Seg (model prog w) A (fun n s₀ r s₁ => r = .ok .next ∧ end2 hb N (KeepB hb N cenv.locals I) n s₀ s₁) (prot2 hb N (KeepB hb N cenv.locals I)) (d + rest) s₀
        (.compLoop (gen2 elt iter1 iter2 x1 x2 p1 p2 scope pos) 1 (.ref J) .none cenv)
        ((model prog w).den (.compLoop (gen2 elt iter1 iter2 x1 x2 p1 p2 scope pos) 1 (.ref J) .none cenv)) [.ret kk none false [] (.compLoop (gen2 elt iter1 iter2 x1 x2 p1 p2 scope pos) 0 (.ref I) .none cenv) p []] s := by
  intro d
  induction d with
  | zero =>
    intro j s₀ s hd hj hs ⟨G, hJ, hN, hJC, hJI⟩
    have hin : j = r.size := by (first | lia | omega)
    subst hin
    show Seg _ A _ _ _ s₀ _ ((compTurn (gen2 elt iter1 iter2 x1 x2 p1 p2 scope pos) 1 (.ref J) .none cenv).onRaise (fun x => do noteFrame x cenv; theTreesLotGoes x)) _ s
    rw [compTurn_in, Sem.onRaise_eq_wrap]
    refine seg_bind_wrap (wpAny_standAt ?_)
    have hl : s.heap.IsList L r := hr.at fun o e => G.keep _ o hL.1 hL.2.1 hL.2.2 e
    refine seg_bind_wrap (wpAny_pyNext_list_end hh hJ hl (Array.getElem?_eq_none (Nat.le_refl _)) fun h' hx => ?_)
    rw [Nat.zero_add]
    refine seg_leaf (.ok .next) (next _ _ (hs.step (tk := s.toks)) ⟨fun b o hb' c1 c2 e => hx _ _ (fun q => absurd hb' (Nat.not_lt_of_le (q ▸ hN))) (G.keep b o hb' c1 c2 e), ?_, G.it.at fun o e => hx _ o hJI.symm e⟩)
    obtain ⟨m, hm⟩ := G.ns
    exact ⟨m, hm.at' fun o e => hx _ o hJC.symm e⟩
  | succ d ih =>
    intro j s₀ s hd hj hs ⟨G, hJ, hN, hJC, hJI⟩
    have hlt : j < r.size := by (first | lia | omega)
    have hrj : r[j]? = some r[j] := Array.getElem?_eq_getElem hlt
    show Seg _ A _ _ _ s₀ _ ((compTurn (gen2 elt iter1 iter2 x1 x2 p1 p2 scope pos) 1 (.ref J) .none cenv).onRaise (fun x => do noteFrame x cenv; theTreesLotGoes x)) _ s
    rw [compTurn_in, Sem.onRaise_eq_wrap]
    refine seg_bind_wrap (wpAny_standAt ?_)
    have hl : s.heap.IsList L r := hr.at fun o e => G.keep _ o hL.1 hL.2.1 hL.2.2 e
    refine seg_bind_wrap (wpAny_pyNext_list_item hJ hl hrj fun h₁ hJ₁ hs₁ => ?_)
    refine seg_bind_wrap (wpAny_of_eq (rfl : letOwnedTupleGo (.Name x2 p2) (.ref J) _ = pure ()) ?_)
    obtain ⟨m, hm⟩ := G.ns
    refine seg_bind_wrap (wpAny_assign_Name (wpAny_storeName_local H.k2 (hm.at' fun o e => hs₁.extBut _ o hJC.symm e) (fun h₂ hn₂ hs₂ => ?_) H.hp))
    have k2 : ∀ b o, b ≠ J → b ≠ cenv.locals → s.heap.get? b = some o → h₂.get? b = some o := fun b o q1 q2 e => hs₂.extBut b o q2 (hs₁.extBut b o q1 e)
    have kp : KeepB hb N cenv.locals I h₂ := fun b o hb' c1 c2 e => k2 b o (fun q => absurd hb' (Nat.not_lt_of_le (q ▸ hN))) c1 (G.keep b o hb' c1 c2 e)
    have hJ₂ : h₂.IsListIter J L (j + 1) := hJ₁.at fun o e => hs₂.extBut _ o hJC e
    have hI₂ : h₂.IsListIter I S i := G.it.at fun o e => k2 _ o hJI.symm H.hCI.symm e
    have hy : ∀ v, yieldOut cenv v = yieldValue v := fun v => by simp only [yieldOut, H.hco, Bool.false_eq_true, if_false]
    simp only [hy]
    rw [Sem.bind_eq_wrap', Sem.bind_eq_wrap', Sem.wrap_wrap, Sem.wrap_wrap]
    refine seg_wrap (wpAny_mono (H.elt _ _ r[j] _ _ hh (hok j _ hrj) hn₂ (by simp) kp) (fun y s₄ h₄ => ?_) fun _ _ e => e)
    obtain ⟨rfl, h₄, tk₄, rfl, hk₄⟩ := h₄
    rw [Nat.add_right_comm]
    refine seg_at (seg_yield rfl rfl rfl ⟨rfl, hs.step, fun b o hb' c1 c2 e => hk₄ _ _ (kp b o hb' c1 c2 e), fun s'' hal => ?_⟩)
    refine seg_again rfl (ih (j + 1) s'' s'' (by (first | lia | omega)) hlt ⟨s''.heap, s''.toks, rfl⟩ ?_)
    rw [show s''.heap = h₄ from hal]
    exact ⟨⟨fun b o hb' c1 c2 e => hk₄ _ _ (kp b o hb' c1 c2 e), ⟨_, hn₂.keeps hk₄⟩, hI₂.at fun o e => hk₄ _ o e⟩, hJ₂.at fun o e => hk₄ _ o e, hN, hJC, hJI⟩
theorem seg_out (hh : A.handled = none) (H : GHyp prog w elt iter2 x1 x2 hb N I S items cenv sz OK) :
    ∀ (k i : Nat) (s₀ s : Shared), items.size - i = k → i ≤ items.size → SinceB s₀ s → GI hb N cenv.locals I S i s.heap →
      Seg (model prog w) A (fun n s₀ r s₁ => r = .ok .next ∧ end2 hb N (KeepB hb N cenv.locals I) n s₀ s₁) (prot2 hb N (KeepB hb N cenv.locals I)) (cntR sz k i) s₀
        (.compLoop (gen2 elt iter1 iter2 x1 x2 p1 p2 scope pos) 0 (.ref I) .none cenv)
        ((model prog w).den (.compLoop (gen2 elt iter1 iter2 x1 x2 p1 p2 scope pos) 0 (.ref I) .none cenv)) [] s := by
  intro k
  induction k with
  | zero =>
    intro i s₀ s hd hj hs G
    have hin : i = items.size := by (first | lia | omega)
    subst hin
    show Seg _ A _ _ _ s₀ _ ((compTurn (gen2 elt iter1 iter2 x1 x2 p1 p2 scope pos) 0 (.ref I) .none cenv).onRaise (leaving cenv)) _ s
    rw [compTurn_out, Sem.onRaise_eq_wrap]
    refine seg_bind_wrap (wpAny_standAt ?_)
    have hl : s.heap.IsList S items := H.hS.at fun o e => G.keep _ o H.hSN.1 H.hSN.2.1 H.hSN.2.2 e
    refine seg_bind_wrap (wpAny_pyNext_list_end hh G.it hl (Array.getElem?_eq_none (Nat.le_refl _)) fun h' hx => ?_)
    exact seg_end (.ok .next) ⟨rfl, rfl, hs.step (tk := s.toks), fun b o hb' c1 c2 e => hx _ _ c2 (G.keep b o hb' c1 c2 e)⟩
  | succ k ih =>
    intro i s₀ s hd hj hs G
    have hlt : i < items.size := by (first | lia | omega)
    have hri : items[i]? = some items[i] := Array.getElem?_eq_getElem hlt
    obtain ⟨L, r, hv, hL, hr, hsz, hok⟩ := H.rows i _ hri
    show Seg _ A _ _ _ s₀ _ ((compTurn (gen2 elt iter1 iter2 x1 x2 p1 p2 scope pos) 0 (.ref I) .none cenv).onRaise (leaving cenv)) _ s
    rw [compTurn_out, Sem.onRaise_eq_wrap]
    refine seg_bind_wrap (wpAny_standAt ?_)
    have hl : s.heap.IsList S items := H.hS.at fun o e => G.keep _ o H.hSN.1 H.hSN.2.1 H.hSN.2.2 e
    refine seg_bind_wrap (wpAny_pyNext_list_item G.it hl hri fun h₁ hI₁ hs₁ => ?_)
    refine seg_bind_wrap (wpAny_of_eq (rfl : letOwnedTupleGo (.Name x1 p1) (.ref I) _ = pure ()) ?_)
    obtain ⟨m, hm⟩ := G.ns
    refine seg_bind_wrap (wpAny_assign_Name (wpAny_storeName_local H.k1 (hm.at' fun o e => hs₁.extBut _ o H.hCI e) (fun h₂ hn₂ hs₂ => ?_) H.hp))
    have k2 : ∀ b o, b ≠ I → b ≠ cenv.locals → s.heap.get? b = some o → h₂.get? b = some o := fun b o q1 q2 e => hs₂.extBut b o q2 (hs₁.extBut b o q1 e)
    have kp : KeepB hb N cenv.locals I h₂ := fun b o hb' c1 c2 e => k2 b o c2 c1 (G.keep b o hb' c1 c2 e)
    have hI₂ : h₂.IsListIter I S (i + 1) := hI₁.at fun o e => hs₂.extBut _ o H.hCI.symm e
    refine seg_bind_wrap (H.ev2 _ _ items[i] _ _ _ hn₂ (by simp) ?_)
    refine seg_bind_wrap (wpAny_standAt ?_)
    refine seg_bind_wrap (wpAny_of_eq (H.fold2 _) ?_)
    have hl₂ : h₂.IsList L r := hr.at fun o e => kp _ o hL.1 hL.2.1 hL.2.2 e
    rw [hv]
    refine seg_bind_wrap (wpAny_holding (wpAny_pyIter_list hl₂ ?_))
    have hI2lt : I < h₂.objs.size := by obtain ⟨_, e, _⟩ := hI₂; exact Heap.lt_size e
    have hN2 : N ≤ h₂.objs.size := by
      obtain ⟨a, o, q1, q2, q3, q4⟩ := H.top
      have := Heap.lt_size (kp a o (q1 ▸ Nat.lt_succ_self a) q2 q3 q4)
      rw [← q1]; exact this
    have hClt : cenv.locals < h₂.objs.size := hn₂.lt
    refine seg_call fun p => ?_
    have st : Inn hb N cenv.locals I S (i + 1) h₂.objs.size L 0 (h₂.push { cls := .type "list_iterator", data := .fields #[.ref L, .int 0 0] }) :=
      ⟨⟨fun b o hb' c1 c2 e => Heap.get?_push_of_some _ (kp b o hb' c1 c2 e), ⟨_, hn₂.push _⟩, hI₂.at fun o e => Heap.get?_push_of_some _ e⟩, ⟨_, Heap.get?_push_size _ rfl, rfl, rfl⟩, hN2, Nat.ne_of_gt hClt, Nat.ne_of_gt hI2lt⟩
    have hcnt : cntR sz (k + 1) i = r.size + cntR sz k (i + 1) := by rw [hsz]; rfl
    rw [hcnt]
    show Seg _ A _ _ _ s₀ _ ((compStart (gen2 elt iter1 iter2 x1 x2 p1 p2 scope pos) 1 (.ref h₂.objs.size) .none cenv).onRaise (fun x => do noteFrame x cenv; standAt theWindowsPlace)) _ _
    have loop := fun (tk : Nat) kk (hnext : ∀ s₀ s, SinceB s₀ s → GI hb N cenv.locals I S (i + 1) s.heap → Seg (model prog w) A (fun n s₀ r s₁ => r = .ok .next ∧ end2 hb N (KeepB hb N cenv.locals I) n s₀ s₁) (prot2 hb N (KeepB hb N cenv.locals I)) (cntR sz k (i + 1)) s₀ (.compLoop (gen2 elt iter1 iter2 x1 x2 p1 p2 scope pos) 0 (.ref I) .none cenv) (kk (.ok .next)) [] s) =>
      seg_in (iter1 := iter1) (p1 := p1) (p2 := p2) (scope := scope) (pos := pos) hh H (i := i + 1) (J := h₂.objs.size) hL hr hok (kk := kk) (p := p) hnext r.size 0 s₀ { s with heap := h₂.push { cls := .type "list_iterator", data := .fields #[.ref L, .int 0 0] }, toks := tk } (Nat.sub_zero _) (Nat.zero_le _) (hs.step (tk := tk)) st
    have fin : ∀ s₀ s, SinceB s₀ s → GI hb N cenv.locals I S (i + 1) s.heap → Seg (model prog w) A (fun n s₀ r s₁ => r = .ok .next ∧ end2 hb N (KeepB hb N cenv.locals I) n s₀ s₁) (prot2 hb N (KeepB hb N cenv.locals I)) (cntR sz k (i + 1)) s₀ (.compLoop (gen2 elt iter1 iter2 x1 x2 p1 p2 scope pos) 0 (.ref I) .none cenv) (.pure (.again (.compLoop (gen2 elt iter1 iter2 x1 x2 p1 p2 scope pos) 0 (.ref I) .none cenv))) [] s := fun s₀ s a b => seg_again rfl (ih (i + 1) s₀ s (by (first | lia | omega)) hlt a b)
    unfold compStart
    rw [Sem.onRaise_eq_wrap]
    show Seg _ A _ _ _ s₀ _ ((ask >>= _).wrap _ _ _ _) _ _
    refine seg_bind_wrap (wpAny_askSetting ?_)
    split
    · exact seg_again rfl (loop (s.toks + 1) _ fin)
    · refine seg_bind_wrap (wpAny_rule ?_)
      show Seg _ A _ _ _ s₀ _ ((standAt iter2.pos >>= _).wrap _ _ _ _) _ _
      refine seg_bind_wrap (wpAny_standAt ?_)
      exact seg_bind_wrap (wpAny_pyIter_listiter st.2.1 (seg_again rfl (loop (s.toks + 1) _ fin)))
end
end MP

end
section
/-! such a generator, made and handed to all -/
namespace MP
open PySem PyProof.Rows
section
variable {prog : Program} {w : World} {A : Around} {E : Value → Shared → Prop} {s : Shared} {hb : Heap} {N C I a g : Nat}
/-- n items are left -/
noncomputable def Left2 (prog : Program) (w : World) (A : Around) (hb : Heap) (N C I : Nat) (a g n : Nat) (s : Shared) : Prop :=
  KeepB hb N C I s.heap ∧ AllBare s.gens ∧ ∃ gs, s.gens[g]? = some gs ∧ ∀ s'' : Shared, s''.heap = s.heap → gs.Goes (model prog w) A.in1 (fun n s₀ r s₁ => r = .ok .next ∧ end2 hb N (KeepB hb N C I) n s₀ s₁) (prot2 hb N (KeepB hb N C I)) n (.send .none) s''
structure Base2 (hb : Heap) (N C I a g : Nat) : Prop where
  gen : hb.IsGen a g
  ha : a < N ∧ a ≠ C ∧ a ≠ I
  lim : hb.NoLimit
  hs : cStatics < N ∧ cStatics ≠ C ∧ cStatics ≠ I
theorem Base2.isGen (B : Base2 hb N C I a g) {h : Heap} (k : KeepB hb N C I h) : h.IsGen a g := by
  obtain ⟨o, nm, qn, ho, r⟩ := B.gen
  exact ⟨o, nm, qn, k a o B.ha.1 B.ha.2.1 B.ha.2.2 ho, r⟩
theorem Base2.noLim (B : Base2 hb N C I a g) {h : Heap} (k : KeepB hb N C I h) : h.NoLimit := by
  obtain ⟨mc, hns, hnn⟩ := B.lim
  exact ⟨mc, hns.at' fun o e => k cStatics o B.hs.1 B.hs.2.1 B.hs.2.2 e, hnn⟩
theorem next2 {n : Nat} {Q : Option Value → Shared → Prop} (hh : A.handled = none) (hroom : A.depth < recursionLimit) (B : Base2 hb N C I a g) (X : Left2 prog w A hb N C I a g (n + 1) s)
    (hQ : ∀ s', Left2 prog w A hb N C I a g n s' → s'.os = s.os → Q (some (.bool true)) s') : wpAny (model prog w) A (pyNext (.ref a)) Q E s := by
  obtain ⟨h3, hba, gs, h4, h5⟩ := X
  refine wpAny_pyNext_genexpQ hh (B.noLim h3) hroom (B.isGen h3) h4 (h5 _ rfl) (fun v s₁ gs' hb' hY => ?_) fun s₁ hP => ?_
  · obtain ⟨rfl, ⟨h', tk', rfl⟩, hk, hgo⟩ := hY
    have hs : ((({ s.setGen g .running with heap := h', toks := tk' } : Shared)).setGen g gs').gens[g]? = some gs' := setGen_self (gs := .running) (setGen_self h4)
    refine hQ _ ⟨hk, (GenOnlyQ.of ((GenOnly.setGen s g .running).trans (GenOnly.setGen _ g gs')) hs hb').bare hba, gs', hs, fun s'' e => hgo s'' e⟩ rfl
  · exact absurd hP.1 (Nat.succ_ne_zero _)
theorem done2 {Q : Option Value → Shared → Prop} (hh : A.handled = none) (hroom : A.depth < recursionLimit) (B : Base2 hb N C I a g) (X : Left2 prog w A hb N C I a g 0 s)
    (hQ : ∀ s', KeepB hb N C I s'.heap → AllBare s'.gens → s'.os = s.os → Q none s') : wpAny (model prog w) A (pyNext (.ref a)) Q E s := by
  obtain ⟨h3, hba, gs, h4, h5⟩ := X
  refine wpAny_pyNext_genexpQ hh (B.noLim h3) hroom (B.isGen h3) h4 (h5 _ rfl) (fun v s₁ gs' hb' hY => ?_) fun s₁ hP h' hk => ?_
  · obtain ⟨_, _, _, hgo⟩ := hY
    exact (hgo s₁ rfl).elim
  · obtain ⟨_, ⟨h'', tk', rfl⟩, hk'⟩ := hP
    have hs : ((({ s.setGen g .running with heap := h'', toks := tk' } : Shared)).setGen g .finished).gens[g]? = some .finished := setGen_self (gs := .running) (setGen_self h4)
    exact hQ _ (fun b o hb' c1 c2 e => hk b o (hk' b o hb' c1 c2 e)) ((GenOnlyQ.of ((GenOnly.setGen s g .running).trans (GenOnly.setGen _ g .finished)) hs rfl).bare hba) rfl
theorem all2_loop {R : Result → Shared → Prop} (hh : A.handled = none) (hroom : A.depth < recursionLimit) (B : Base2 hb N C I a g) : ∀ (n : Nat) (s : Shared), Left2 prog w A.in1 hb N C I a g n s →
    (∀ s', KeepB hb N C I s'.heap → AllBare s'.gens → s'.os = s.os → R (.ok (.ret (.bool true))) s') → codeAny (model prog w) A (.builtin "all.loop" ⟨[.ref a], []⟩) R s := by
  intro n
  induction n with
  | zero =>
    intro s X hR
    refine codeAny_builtin F.entry_all_loop ?_
    rw [Around.under_plainId F.plain_all_loop _]
    show wpAny _ A.in1 (pyNext (.ref a) >>= _) _ _ s
    refine wpAny_bind (done2 (A := A.in1) hh hroom B X fun s' h1 h2 h3 => ?_)
    exact wpAny_bind (wpAny_rule (wpAny_pure (hR s' h1 h2 h3)))
  | succ n ih =>
    intro s X hR
    refine codeAny_builtin F.entry_all_loop ?_
    rw [Around.under_plainId F.plain_all_loop _]
    show wpAny _ A.in1 (pyNext (.ref a) >>= _) _ _ s
    refine wpAny_bind (next2 (A := A.in1) hh hroom B X fun s' X' e => ?_)
    refine wpAny_bind (wpAny_holding (wpAny_truthy_bool ?_))
    refine wpAny_bind (wpAny_letGo ?_)
    simp only [if_true]
    exact wpAny_pure ⟨plainId_quiet F.plain_all_loop _, ih _ X' fun s'' h1 h2 h3 => hR s'' h1 h2 (h3.trans e)⟩
theorem all2_call {n : Nat} {Q : Value → Shared → Prop} (hh : A.handled = none) (hroom : A.depth < recursionLimit) (B : Base2 hb N C I a g) (X : Left2 prog w A.in1 hb N C I a g n s)
    (hQ : ∀ s', KeepB hb N C I s'.heap → AllBare s'.gens → s'.os = s.os → Q (.bool true) s') : wpAny (model prog w) A (call (.builtin "all") [.ref a]) Q E s := by
  refine call_function_tree F.kind_all F.plain_all F.entry_all (F.args_all1 _) ?_
  unfold Builtin.«all»
  refine wpAny_bind (m := oneArg "all" _) (wpAny_pure ?_)
  refine wpAny_bind (wpAny_pyIter_gen (B.isGen X.1) ?_)
  exact wpAny_pure ⟨plainId_quiet F.plain_all_loop _, all2_loop hh hroom B n _ X hQ⟩
end
section
variable {prog : Program} {w : World} {A : Around} {elt iter1 iter2 : Expr} {x1 x2 : Str} {p1 p2 : Pos} {scope : Scope} {pos : Pos}
variable {hb : Heap} {N I S : Addr} {items : Array Value} {cenv : PySem.Env} {sz : Nat → Nat} {OK : Value → Prop}
theorem seg_start2 (hh : A.handled = none) (H : GHyp prog w elt iter2 x1 x2 hb N I S items cenv sz OK) (s₀ s : Shared) (hs : SinceB s₀ s) (G : GI hb N cenv.locals I S 0 s.heap) :
    Seg (model prog w) A (fun n s₀ r s₁ => r = .ok .next ∧ end2 hb N (KeepB hb N cenv.locals I) n s₀ s₁) (prot2 hb N (KeepB hb N cenv.locals I)) (cntR sz items.size 0) s₀
      (.compStart (gen2 elt iter1 iter2 x1 x2 p1 p2 scope pos) 0 (.ref I) .none cenv)
      ((model prog w).den (.compStart (gen2 elt iter1 iter2 x1 x2 p1 p2 scope pos) 0 (.ref I) .none cenv)) [] s := by
  have loop := fun tk => seg_out (iter1 := iter1) (p1 := p1) (p2 := p2) (scope := scope) (pos := pos) hh H items.size 0 s₀ { s with toks := tk } (Nat.sub_zero _) (Nat.zero_le _) (hs.step (h := s.heap) (tk := tk)) G
  show Seg _ A _ _ _ s₀ _ ((compStart (gen2 elt iter1 iter2 x1 x2 p1 p2 scope pos) 0 (.ref I) .none cenv).onRaise (leaving cenv)) [] s
  unfold compStart
  rw [Sem.onRaise_eq_wrap]
  show Seg _ A _ _ _ s₀ _ ((ask >>= _).wrap _ _ _ _) [] s
  refine seg_bind_wrap (wpAny_askSetting ?_)
  split
  · exact seg_again rfl (loop _)
  · refine seg_bind_wrap (wpAny_rule ?_)
    show Seg _ A _ _ _ s₀ _ ((standAt iter1.pos >>= _).wrap _ _ _ _) _ _
    refine seg_bind_wrap (wpAny_standAt ?_)
    exact seg_bind_wrap (wpAny_pyIter_listiter G.it (seg_again rfl (loop _)))
end
end MP

end
section
/-! such a generator is made -/
namespace MP
open PySem PyProof.Rows
theorem eval_gen2 (elt iter1 iter2 : Expr) (x1 x2 : Str) (p1 p2 : Pos) (scope : Scope) (pos : Pos) (env : PySem.Env) (hco : scope.isCoroutine = false) :
    eval (gen2 elt iter1 iter2 x1 x2 p1 p2 scope pos) env = (do
      let x ← eval iter1 env
      standAt iter1.pos
      let x ← genFold iter1 env x
      let it ← holding [x] (pyIter x)
      enterFrame
      let cl ← closureFor scope env
      let code ← genexprCode env pos (env.qual ++ "<genexpr>") scope
      let bi ← builtinsFor env.globals env.builtins
      let cenv ← newFunctionEnv scope env.globals cl [(".0", it)] (env.qual ++ "<genexpr>.") none code none bi
      newGenerator (.compStart (gen2 elt iter1 iter2 x1 x2 p1 p2 scope pos) 0 it .none cenv) "<genexpr>" (env.qual ++ "<genexpr>")) := by
  unfold gen2
  rw [arm_eval_GeneratorExp]
  simp only [hco, Bool.false_eq_true, if_false]
  cases iter1 <;> rfl
section
variable {prog : Program} {w : World} {A : Around} {E : Value → Shared → Prop} {s : Shared}
theorem make2 {env : PySem.Env} {elt iter1 : Expr} {x1 x2 : Str} {p1 p2 ip : Pos} {scope : Scope} {cl : List (Str × Addr)} {pos : Pos} {Q : Value → Shared → Prop} {c P S bm : Addr} {ps items : Array Value} {mg : Str → Option Value} {ob : Obj} {OK : Value → Prop} {sz : Nat → Nat}
    (hcode : env.code = .ref c) (hok : s.heap.IsCode c P ps) (htab : s.heap.TableAt c P ps) (M : BMod s.heap env.globals mg bm ob)
    (hco : scope.isCoroutine = false) (hclos : closureFor scope env = pure cl) (hcell : ∀ y ∈ scope.names, y.2 ≠ .cell) (h0 : scope.names.lookup (".0" : Str) = some NameKind.local)
    (hx1 : scope.names.lookup x1 = some .local) (hx2 : scope.names.lookup x2 = some .local) (hd1 : (x1 == Str.ofString "__debug__") = false) (hkind : scope.kind = .function) (hroom : A.depth < recursionLimit) (hh : A.handled = none)
    (hit : ∀ Q' : Value → Shared → Prop, Q' (.ref S) s → wpAny (model prog w) A (eval iter1 env) Q' E s) (hS : s.heap.IsList S items) (hlim : s.heap.NoLimit) (G : AllBare s.gens)
    (rows : ∀ (i : Nat) v, items[i]? = some v → ∃ L r, v = .ref L ∧ s.heap.IsList L r ∧ r.size = sz i ∧ ∀ (j : Nat) y, r[j]? = some y → OK y)
    (helt : ∀ (code : Value) (C : Addr) (A' : Around) E' y (t : Shared) m₂, A'.handled = none → OK y → t.heap.Ns C m₂ → m₂ x2 = some y → (∀ b o, b ≠ P → s.heap.get? b = some o → t.heap.get? b = some o) →
      wpAny (model prog w) A' (eval elt (genEnv scope cl C code builtinsNs env)) (fun z s₃ => z = .bool true ∧ Keeps t s₃) E' t)
    (hQ : ∀ a g n C I s₅ ps', (∀ b o, b ≠ P → s.heap.get? b = some o → s₅.heap.get? b = some o) → s₅.heap.IsCode c P ps' → s₅.heap.TableAt c P ps' → (∃ more, ps' = ps ++ more) → s₅.os = s.os → s.heap.objs.size ≤ C → s.heap.objs.size ≤ I →
      Base2 s₅.heap s₅.heap.objs.size C I a g → Left2 prog w A.in1 s₅.heap s₅.heap.objs.size C I a g n s₅ → Q (.ref a) s₅)
    (hs : ∀ x, genFold iter1 env x = pure x) :
    wpAny (model prog w) A (eval (gen2 elt iter1 (.Name x1 ip) x1 x2 p1 p2 scope pos) env) Q E s := by
  have hSlt : S < s.heap.objs.size := by obtain ⟨_, e, _⟩ := hS; exact Heap.lt_size e
  have hPlt : P < s.heap.objs.size := Heap.lt_size htab.2
  have hLP : ∀ {L : Addr} {r : Array Value}, s.heap.IsList L r → L ≠ P := fun hL e => by
    obtain ⟨o, ho, hc, _⟩ := hL
    rw [e, htab.2] at ho; cases ho; exact absurd hc (by simp)
  have hcP : cStatics ≠ P := fun e => by
    obtain ⟨_, hns, _⟩ := hlim
    obtain ⟨o, es, ep, ho, hd, _⟩ := hns
    rw [e, htab.2] at ho; cases ho; cases hd
  have hclt : cStatics < s.heap.objs.size := let ⟨_, hn, _⟩ := hlim; hn.lt
  rw [eval_gen2 _ _ _ _ _ _ _ _ _ _ hco, hclos]
  refine wpAny_bind (hit _ ?_)
  refine wpAny_bind (wpAny_standAt ?_)
  refine wpAny_bind (wpAny_of_eq (hs _) ?_)
  refine wpAny_bind (wpAny_holding (wpAny_pyIter_list hS ?_))
  refine wpAny_bind (wpAny_enterFrame (hlim.push _) hroom ?_)
  refine wpAny_bind (wpAny_pure ?_)
  have hok₂ := hok.push { cls := .type "list_iterator", data := .fields #[.ref S, .int 0 0] }
  have htab₂ : (s.heap.push { cls := .type "list_iterator", data := .fields #[.ref S, .int 0 0] }).TableAt c P ps := htab.keeps fun _ _ e => Heap.get?_push_of_some _ e
  refine wpAny_bind (gen_code hcode hok₂ htab₂ fun code h₃ tk ps' hx₃ hge hc₃ ht₃ hm => ?_)
  have k₃ : ∀ b o, b ≠ P → s.heap.get? b = some o → h₃.get? b = some o := fun b o hb e => hx₃ b o hb (Heap.get?_push_of_some _ e)
  have hsz : s.heap.objs.size + 1 ≤ h₃.objs.size := by have := hge; rw [Heap.size_push] at this; exact this
  have bmP : bm ≠ P := fun e => by have := M.obj; rw [e, htab.2] at this; cases this; have := M.cls; cases this
  have gP : env.globals ≠ P := fun e => by
    obtain ⟨o, es, ep, ho, hd, _⟩ := M.ns
    rw [e, htab.2] at ho; cases ho; cases hd
  refine wpAny_bind (wpAny_builtinsFor (M.ns.at' fun o e => k₃ _ o gP e) M.name M.ne (k₃ _ _ bmP M.obj) M.cls M.dict M.data ?_)
  have hI₃ : h₃.get? s.heap.objs.size = some { cls := .type "list_iterator", data := .fields #[.ref S, .int 0 0] } := hx₃ _ _ (Nat.ne_of_gt hPlt) (Heap.get?_push_size _ rfl)
  have hbinds : ∀ y ∈ ([((".0" : Str), Value.ref s.heap.objs.size)] : List (Str × Value)), scope.names.lookup y.1 = some NameKind.local := by
    intro y hy
    rcases List.mem_cons.mp hy with rfl | hy
    · exact h0
    · cases hy
  refine wpAny_bind (wpAny_newFunctionEnv hcell hbinds (fun h' hn' hs' => ?_) hkind)
  simp only [newGenerator, newFields]
  have hsz' : h'.objs.size = h₃.objs.size + 1 := by rw [hs'.1, Heap.size_push]
  have keep' : ∀ b o, h₃.get? b = some o → h'.get? b = some o := fun b o e => hs'.extBut b o (Nat.ne_of_lt (Heap.lt_size e)) (Heap.get?_push_of_some _ e)
  have hIC : h₃.objs.size ≠ s.heap.objs.size := Nat.ne_of_gt hsz
  have hIa : h'.objs.size ≠ s.heap.objs.size := Nat.ne_of_gt (by rw [hsz']; exact Nat.lt_succ_of_lt hsz)
  have hCa : h'.objs.size ≠ h₃.objs.size := by rw [hsz']; exact Nat.succ_ne_self _
  have fin : ∀ (go : Obj) (tk5 : Nat), go.isFreed = false → (∀ hp : Heap, hp.get? h'.objs.size = some go → hp.IsGen h'.objs.size s.gens.size) →
      Q (.ref h'.objs.size) { s with heap := h'.push go, toks := tk5, gens := s.gens.push (.fresh (.compStart (gen2 elt iter1 (.Name x1 ip) x1 x2 p1 p2 scope pos) 0 (.ref s.heap.objs.size) .none (genEnv scope cl h₃.objs.size code builtinsNs env))) } := by
    intro go tk5 hfr hgg
    have k5 : ∀ b o, b ≠ P → s.heap.get? b = some o → (h'.push go).get? b = some o := fun b o hb e => Heap.get?_push_of_some _ (keep' _ _ (k₃ b o hb e))
    have k5' : ∀ b o, h₃.get? b = some o → (h'.push go).get? b = some o := fun b o e => Heap.get?_push_of_some _ (keep' _ _ e)
    have hga : (h'.push go).get? h'.objs.size = some go := Heap.get?_push_size _ hfr
    have hN : (h'.push go).objs.size = h'.objs.size + 1 := Heap.size_push ..
    have ltN : ∀ b, b < s.heap.objs.size → b < (h'.push go).objs.size ∧ b ≠ h₃.objs.size ∧ b ≠ s.heap.objs.size := fun b hb => ⟨by rw [hN, hsz']; exact Nat.lt_succ_of_lt (Nat.lt_succ_of_lt (Nat.lt_trans hb hsz)), Nat.ne_of_lt (Nat.lt_trans hb hsz), Nat.ne_of_lt hb⟩
    have lim5 : (h'.push go).NoLimit := by
      obtain ⟨mc, hns, hnn⟩ := hlim
      exact ⟨mc, hns.at' fun o e => k5 _ o hcP e, hnn⟩
    have HG : GHyp prog w elt (.Name x1 ip) x1 x2 (h'.push go) (h'.push go).objs.size s.heap.objs.size S items (genEnv scope cl h₃.objs.size code builtinsNs env) sz OK :=
      { top := ⟨h'.objs.size, go, hN.symm, hCa, hIa, hga⟩
        hCI := hIC
        hS := hS.at fun o e => k5 _ o (hLP hS) e
        hSN := ltN S hSlt
        rows := fun i v e => by
          obtain ⟨L, r, rfl, h2, h3, h4⟩ := rows i v e
          have hl : L < s.heap.objs.size := by obtain ⟨_, e, _⟩ := h2; exact Heap.lt_size e
          exact ⟨L, r, rfl, ltN L hl, h2.at fun o e => k5 _ o (hLP h2) e, h3, h4⟩
        k1 := hx1
        k2 := hx2
        hp := by simp [genEnv, hkind]
        hco := hco
        ev2 := fun A' E' v t m Q hm hv hq => wpAny_Name (wpAny_loadName_local hkind hx1 hm hv hq) hd1
        fold2 := fun _ => rfl
        elt := fun A' E' y t m hA hy hn hm hkp => helt code _ A' E' y t m hA hy hn hm fun b o hb e => hkp b o (ltN b (Heap.lt_size e)).1 (ltN b (Heap.lt_size e)).2.1 (ltN b (Heap.lt_size e)).2.2 (k5 b o hb e) }
    have GI5 : GI (h'.push go) (h'.push go).objs.size h₃.objs.size s.heap.objs.size S 0 (h'.push go) := ⟨fun _ _ _ _ _ e => e, ⟨_, hn'.push _⟩, ⟨_, k5' _ _ hI₃, rfl, rfl⟩⟩
    refine hQ h'.objs.size s.gens.size (cntR sz items.size 0) h₃.objs.size s.heap.objs.size { s with heap := h'.push go, toks := tk5, gens := s.gens.push (.fresh (.compStart (gen2 elt iter1 (.Name x1 ip) x1 x2 p1 p2 scope pos) 0 (.ref s.heap.objs.size) .none (genEnv scope cl h₃.objs.size code builtinsNs env))) } ps' k5 (hc₃.keeps k5') (ht₃.keeps k5') hm rfl (Nat.le_of_succ_le hsz) (Nat.le_refl _) ⟨?_, ⟨by rw [hN]; exact Nat.lt_succ_self _, hCa, hIa⟩, lim5, ltN _ hclt⟩ ⟨fun _ _ _ _ _ e => e, G.push rfl, _, Array.getElem?_push_size .., fun s'' e => ⟨rfl, ?_⟩⟩
    · exact hgg _ hga
    · refine seg_start2 (A := A.in1.in1) hh HG s'' s'' ⟨_, _, rfl⟩ ?_
      rw [show s''.heap = h'.push go from e]; exact GI5
  exact wpAny_bind (wpAny_newGen (wpAny_bind (wpAny_mkText (wpAny_bind (wpAny_mkText (wpAny_newObj_type (fin _ _ rfl fun hp e => ⟨_, _, _, e, rfl, rfl, rfl⟩) (by size_fits)))))))
end
end MP

end
section
/-! Comprehensions whose turns leave old things alone; sums. -/
namespace MP
theorem compW_ext {turn : V → H → (Option V → H → Prop) → Prop} {kp : Option (Nat × List V)} {Q : List V → H → Prop} {h : H} {n : Nat} (x g : Nat → V) (hst : stays kp h)
    (step : ∀ i, i < n → ∀ h' (K : Option V → H → Prop), Ext h h' → (∀ h'', Ext h' h'' → K (some (g i)) h'') → turn (x i) h' K)
    (fin : ∀ h', Ext h h' → Q (arr n g) h') : compW turn kp (arr n x) [] h Q := by
  suffices H : ∀ (k i : Nat) (h' : H), i + k = n → Ext h h' → compW turn kp ((List.range k).map fun j => x (i + j)) (arr i g) h' Q by
    have := H n 0 h (by exact MP.Ar.zadd) (Ext.refl h)
    simpa [arr] using this
  intro k
  induction k with
  | zero =>
    intro i h' e hx
    have : i = n := by assumption
    subst this
    exact fin h' hx
  | succ k ih =>
    intro i h' e hx
    rw [List.range_succ_eq_map, List.map_cons]
    refine ⟨stays_ext hst hx, step i (by exact (MP.Ar.add_lt e)) h' _ hx fun h'' hx' => ?_⟩
    have := ih (i + 1) h'' (by exact (MP.Ar.add_sw e)) (hx.trans hx')
    rw [List.map_map]
    have e2 : ((fun j => x (i + j)) ∘ Nat.succ) = fun j => x (i + 1 + j) := by funext j; simp only [Function.comp, Nat.succ_eq_add_one]; congr 1; exact MP.Ar.add_sw'
    have e3 : arr i g ++ [g i] = arr (i + 1) g := by unfold arr; rw [List.range_succ, List.map_append]; rfl
    rw [e2]
    show compW turn kp _ (arr i g ++ [g i]) h'' Q
    rw [e3]; exact this

theorem compW_rows2 {turn : V → H → (Option V → H → Prop) → Prop} {kp : Option (Nat × List V)} {Q : List V → H → Prop} {h : H} {n m : Nat} (x : Nat → V) (g : Nat → Nat → V) (hst : stays kp h)
    (step : ∀ i, i < n → ∀ h' (K : Option V → H → Prop), Ext h h' → (∀ r h'', h' r = Option.none → Ext h' h'' → h'' r = some (.list (arr m (g i))) → K (some (.ref r)) h'') → turn (x i) h' K)
    (fin : ∀ (rows : Nat → Nat) h', Ext h h' → (∀ i, i < n → h (rows i) = Option.none ∧ h' (rows i) = some (.list (arr m (g i)))) → (∀ i j, i < n → j < n → rows i = rows j → i = j) → Q (arr n fun i => .ref (rows i)) h') :
    compW turn kp (arr n x) [] h Q := by
  suffices H : ∀ (k i : Nat) (rows : Nat → Nat) (h' : H), i + k = n → Ext h h' → (∀ j, j < i → h (rows j) = Option.none ∧ h' (rows j) = some (.list (arr m (g j)))) → (∀ a b, a < i → b < i → rows a = rows b → a = b) →
      compW turn kp ((List.range k).map fun j => x (i + j)) (arr i fun j => .ref (rows j)) h' Q by
    have := H n 0 (fun _ => 0) h (by exact MP.Ar.zadd) (Ext.refl h) (fun j hj => by exact absurd hj (Nat.not_lt_zero _)) (fun a b ha => by exact absurd ha (Nat.not_lt_zero _))
    simpa [arr] using this
  intro k
  induction k with
  | zero =>
    intro i rows h' e hx hr hi
    have : i = n := by assumption
    subst this
    exact fin rows h' hx hr hi
  | succ k ih =>
    intro i rows h' e hx hr hi
    rw [List.range_succ_eq_map, List.map_cons]
    refine ⟨stays_ext hst hx, step i (by exact (MP.Ar.add_lt e)) h' _ hx fun r h'' hrn hx' hrs => ?_⟩
    have hne : ∀ j, j < i → rows j ≠ r := fun j hj q => by rw [← q, (hr j hj).2] at hrn; cases hrn
    have := ih (i + 1) (fun j => if j = i then r else rows j) h'' (by exact (MP.Ar.add_sw e)) (hx.trans hx') (fun j hj => ?_) (fun a b ha hb q => ?_)
    · rw [List.map_map]
      have e2 : ((fun j => x (i + j)) ∘ Nat.succ) = fun j => x (i + 1 + j) := by funext j; simp only [Function.comp, Nat.succ_eq_add_one]; congr 1; exact MP.Ar.add_sw'
      have e3 : (arr i fun j => V.ref (rows j)) ++ [V.ref r] = arr (i + 1) fun j => V.ref (if j = i then r else rows j) := by
        unfold arr
        rw [List.range_succ, List.map_append]
        congr 1
        · apply List.map_congr_left
          intro j hj
          have : j ≠ i := by have := List.mem_range.mp hj; exact (Nat.ne_of_lt this)
          simp [this]
        · simp
      simp only [Nat.add_zero]
      rw [e2, e3]; exact this
    · by_cases q : j = i
      · subst q; simp; exact ⟨hx.none hrn, hrs⟩
      · simp only [q, if_false]
        obtain ⟨h1, h2⟩ := hr j (by exact (MP.Ar.lt_ne hj q))
        exact ⟨h1, hx' _ _ h2⟩
    · split at q <;> split at q
      · (first | lia | omega)
      · exact absurd q.symm (hne b (by exact (MP.Ar.lt_ne hb (by assumption))))
      · exact absurd q (hne a (by exact (MP.Ar.lt_ne ha (by assumption))))
      · exact hi a b (by exact (MP.Ar.lt_ne ha (by assumption))) (by exact (MP.Ar.lt_ne hb (by assumption))) q

/-- the sum of f 0 .. f (n-1) -/
noncomputable def rsum (n : Nat) (f : Nat → Int) : Int := ((List.range n).map f).sum
@[simp] theorem rsum_zero (f : Nat → Int) : rsum 0 f = 0 := rfl
theorem rsum_succ (n : Nat) (f : Nat → Int) : rsum (n + 1) f = rsum n f + f n := by
  unfold rsum; rw [List.range_succ, List.map_append, List.sum_append]; simp
theorem rsum_congr {n : Nat} {f g : Nat → Int} (h : ∀ i, i < n → f i = g i) : rsum n f = rsum n g := by
  induction n with
  | zero => rfl
  | succ n ih => rw [rsum_succ, rsum_succ, ih fun i hi => h i (by exact (Nat.lt_succ_of_lt hi)), h n (by exact (Nat.lt_succ_self _))]
theorem rsum_sub (n : Nat) (f g : Nat → Int) : rsum n (fun i => f i - g i) = rsum n f - rsum n g := by
  induction n with
  | zero => rfl
  | succ n ih => rw [rsum_succ, rsum_succ, rsum_succ, ih]; (first | lia | omega)
theorem rsum_nonneg {n : Nat} {f : Nat → Int} (h : ∀ i, i < n → 0 ≤ f i) : 0 ≤ rsum n f := by
  induction n with
  | zero => simp
  | succ n ih => rw [rsum_succ]; have := ih fun i hi => h i (by exact (Nat.lt_succ_of_lt hi)); have := h n (by exact (Nat.lt_succ_self _)); exact (MP.Ar.pt4 (by assumption) this)
theorem rsum_zeros {n : Nat} {f : Nat → Int} (h : ∀ i, i < n → f i = 0) : rsum n f = 0 := by
  induction n with
  | zero => rfl
  | succ n ih => rw [rsum_succ, ih fun i hi => h i (by exact (Nat.lt_succ_of_lt hi)), h n (by exact (Nat.lt_succ_self _))]; rfl
theorem rsum_one {n a : Nat} {f : Nat → Int} (ha : a < n) (h : ∀ i, i < n → i ≠ a → f i = 0) : rsum n f = f a := by
  induction n with
  | zero => exact absurd ha (Nat.not_lt_zero _)
  | succ n ih =>
    rw [rsum_succ]
    by_cases q : a = n
    · subst q; rw [rsum_zeros fun i hi => h i (by exact (Nat.lt_trans hi ha)) (by exact (Nat.ne_of_lt hi))]; exact MP.Ar.izadd
    · rw [ih (by exact (MP.Ar.lt_ne ha q)) fun i hi hne => h i (by exact (Nat.lt_succ_of_lt hi)) hne, h n (by exact (Nat.lt_succ_self _)) (by exact (Ne.symm q))]; exact MP.Ar.iaddz
end MP

end
section
namespace MP
noncomputable def cnt (c : Nat → Nat) : Nat → Nat → Nat → Int
  | 0, _, _ => 0
  | k + 1, u, v => cnt c k u v + if c k = u ∧ c (k + 1) = v then 1 else 0
noncomputable def aug (M : Nat → Nat → Int) (c : Nat → Nat) (m : Int) (k u v : Nat) : Int := M u v - m * cnt c k u v + m * cnt c k v u
theorem aug_zero (M : Nat → Nat → Int) (c : Nat → Nat) (m : Int) (u v : Nat) : aug M c m 0 u v = M u v := by simp [aug, cnt]
theorem aug_succ (M : Nat → Nat → Int) (c : Nat → Nat) (m : Int) (k : Nat) (u v : Nat) :
    put2 (put2 (aug M c m k) (c k) (c (k + 1)) (aug M c m k (c k) (c (k + 1)) - m)) (c (k + 1)) (c k) (put2 (aug M c m k) (c k) (c (k + 1)) (aug M c m k (c k) (c (k + 1)) - m) (c (k + 1)) (c k) + m) u v = aug M c m (k + 1) u v := by
  have e : aug M c m (k + 1) u v = aug M c m k u v - (if c k = u ∧ c (k + 1) = v then m else 0) + (if c k = v ∧ c (k + 1) = u then m else 0) := by
    unfold aug; simp only [cnt, Int.mul_add]
    split <;> split <;> simp <;> (first | lia | omega)
  rw [e]
  unfold put2
  by_cases q1 : u = c (k + 1) ∧ v = c k
  · obtain ⟨rfl, rfl⟩ := q1
    by_cases q2 : c k = c (k + 1)
    · simp [q2]
    · simp [q2, Ne.symm q2]
  · have q1' : ¬ (c k = v ∧ c (k + 1) = u) := fun ⟨a, b⟩ => q1 ⟨b.symm, a.symm⟩
    simp only [q1, q1', if_false]
    by_cases q2 : u = c k ∧ v = c (k + 1)
    · obtain ⟨rfl, rfl⟩ := q2
      simp
    · have q2' : ¬ (c k = u ∧ c (k + 1) = v) := fun ⟨a, b⟩ => q2 ⟨a.symm, b.symm⟩
      simp [q2, q2']

variable {n s t : Nat} {r : Nat → Nat → Prop} {prev : Nat → Option Nat} {q : List Nat}
theorem chain_pos (B : Bfs n r s prev q q.length 0) {k : Nat} {c : Nat → Nat} (C : Chain n r s prev q t k c) : ∀ j i, i < j → j ≤ k → ∃ a b : Nat, q[a]? = some (c i) ∧ q[b]? = some (c j) ∧ a < b := by
  have one : ∀ i, i < k → ∃ a b : Nat, q[a]? = some (c i) ∧ q[b]? = some (c (i + 1)) ∧ a < b := fun i hi => by
    obtain ⟨h1, h2, h3, h4, h5⟩ := C.st i hi
    obtain ⟨b, hb⟩ := List.mem_iff_getElem?.mp h5
    rcases Nat.eq_zero_or_pos b with z | z
    · subst z; rw [B.hd] at hb; cases hb; exact absurd rfl h3
    · obtain ⟨a, u, g1, g2, g3, _⟩ := B.par b _ z hb
      rw [h2] at g3; cases g3
      exact ⟨a, b, g1, hb, g2⟩
  intro j
  induction j with
  | zero => intro i hi; (first | lia | omega)
  | succ j ih =>
    intro i hi hj
    obtain ⟨a, b, h1, h2, h3⟩ := one j (by (first | lia | omega))
    rcases Nat.lt_or_ge i j with q' | q'
    · obtain ⟨a', b', g1, g2, g3⟩ := ih i q' (by (first | lia | omega))
      have := nodup_idx B.nod g2 h1
      exact ⟨a', b, g1, h2, by (first | lia | omega)⟩
    · have : i = j := by (first | lia | omega)
      subst this
      exact ⟨a, b, h1, h2, h3⟩
theorem chain_inj (B : Bfs n r s prev q q.length 0) {k : Nat} {c : Nat → Nat} (C : Chain n r s prev q t k c) {i j : Nat} (hi : i ≤ k) (hj : j ≤ k) (e : c i = c j) : i = j := by
  rcases Nat.lt_trichotomy i j with h | h | h
  · obtain ⟨a, b, h1, h2, h3⟩ := chain_pos B C j i h hj
    rw [e] at h1
    have := nodup_idx B.nod h1 h2; (first | lia | omega)
  · exact h
  · obtain ⟨a, b, h1, h2, h3⟩ := chain_pos B C i j h hi
    rw [e] at h2
    have := nodup_idx B.nod h1 h2; (first | lia | omega)
theorem chain_lt (B : Bfs n r s prev q q.length 0) {k : Nat} {c : Nat → Nat} (C : Chain n r s prev q t k c) {i : Nat} (hi : i ≤ k) : c i < n := by
  rcases Nat.eq_zero_or_pos i with z | z
  · subst z; rw [C.z]; exact B.lt _ (List.mem_of_getElem? B.hd)
  · have := (C.st (i - 1) (by (first | lia | omega))).1
    rw [show i - 1 + 1 = i by (first | lia | omega)] at this; exact this
theorem cnt_zero {c : Nat → Nat} {u v : Nat} : ∀ {k : Nat}, (∀ i, i < k → ¬ (c i = u ∧ c (i + 1) = v)) → cnt c k u v = 0
  | 0, _ => rfl
  | k + 1, h => by rw [cnt, cnt_zero fun i hi => h i (by (first | lia | omega)), if_neg (h k (by (first | lia | omega)))]; rfl
theorem cnt_one {c : Nat → Nat} {u v : Nat} : ∀ {k a : Nat}, a < k → (c a = u ∧ c (a + 1) = v) → (∀ i, i < k → i ≠ a → ¬ (c i = u ∧ c (i + 1) = v)) → cnt c k u v = 1
  | 0, a, ha, _, _ => by (first | lia | omega)
  | k + 1, a, ha, e, h => by
    rw [cnt]
    by_cases q : a = k
    · subst q
      rw [cnt_zero fun i hi => h i (by (first | lia | omega)) (by (first | lia | omega)), if_pos e]; rfl
    · rw [cnt_one (a := a) (by (first | lia | omega)) e fun i hi hne => h i (by (first | lia | omega)) hne, if_neg (h k (by (first | lia | omega)) (fun x => q x.symm))]; rfl
/-- the row of the source -/
theorem aug_row (B : Bfs n r s prev q q.length 0) {k : Nat} {c : Nat → Nat} (C : Chain n r s prev q t k c) (hk : 1 ≤ k) (M : Nat → Nat → Int) (m : Int) : rsum n (fun v => aug M c m k s v) = rsum n (fun v => M s v) - m := by
  have h1 : ∀ v, v < n → aug M c m k s v = M s v - (if v = c 1 then m else 0) := fun v _ => by
    have z1 : cnt c k v s = 0 := cnt_zero fun i hi e => (C.st i hi).2.2.1 e.2
    unfold aug
    rw [z1]
    by_cases q' : v = c 1
    · subst q'
      rw [cnt_one (a := 0) (by (first | lia | omega)) ⟨C.z, rfl⟩ fun i hi hne e => hne (chain_inj B C (by (first | lia | omega)) (by (first | lia | omega)) (e.1.trans C.z.symm)), if_pos rfl]; (first | lia | omega)
    · rw [cnt_zero fun i hi e => ?_, if_neg q']
      · simp
      · have : i = 0 := chain_inj B C (by (first | lia | omega)) (by (first | lia | omega)) (e.1.trans C.z.symm)
        subst this
        exact q' e.2.symm
  rw [rsum_congr h1, rsum_sub]
  congr 1
  rw [rsum_one (a := c 1) (chain_lt B C hk) fun i _ hne => if_neg hne, if_pos rfl]

theorem getIdx_arr1 {n i : Nat} (f : Nat → V) (h : i + 1 < n) : getIdx (arr n f) ((i : Int) + 1) = some (f (i + 1)) := by
  rw [show (i : Int) + 1 = ((i + 1 : Nat) : Int) by (first | lia | omega)]; exact getIdx_arr f h
theorem upTo_one (k : Nat) : (upTo 1 ((k : Int) + 1)).map V.int = arr k fun i => iv (i + 1) := by
  have := upTo_nat 1 (k + 1)
  unfold arr
  rw [show ((1 : Nat) : Int) = 1 from rfl, show ((k + 1 : Nat) : Int) = (k : Int) + 1 by (first | lia | omega)] at this
  rw [this, List.map_map, show k + 1 - 1 = k by (first | lia | omega)]
  apply List.map_congr_left
  intro i _
  simp only [Function.comp]
  congr 1; (first | lia | omega)

theorem max_flow_spec {G G1 G2 G3 : Par} {a : Nat} {es : List Edge} {h : H} {Q : V → H → Prop} (I : (Nat → Nat → Int) → Prop)
    (kcap : ∀ vs h Q, runFn G1 Core.capacity_table_fn vs h Q → G.Γ "capacity_table" vs h Q) (kaug : ∀ vs h Q, runFn G2 Core.augmenting_path_fn vs h Q → G.Γ "augmenting_path" vs h Q) (kpath : ∀ vs h Q, runFn G3 Core.path_to_fn vs h Q → G2.Γ "path_to" vs h Q)
    (hn : n ≤ 1000) (hs : s < n) (ht : t < n) (hst : s ≠ t) (he : Rd h (.ref a) (edgesD es)) (hok : okEdges n es)
    (i0 : ∀ M, (∀ u v, u < n → v < n → M u v = capM es u v) → I M) (ipos : ∀ M, I M → ∀ u v, u < n → v < n → 0 ≤ M u v)
    (istep : ∀ M M' prev q k c m, I M → Bfs n (fun u v => 0 < M u v) s prev q q.length 0 → Chain n (fun u v => 0 < M u v) s prev q t k c → 1 ≤ k → 0 < m → (∀ i, i < k → m ≤ M (c i) (c (i + 1))) → (∃ i, i < k ∧ m = M (c i) (c (i + 1))) → (∀ u v, u < n → v < n → M' u v = aug M c m k u v) → I M')
    (hQ : ∀ M prev q f rows h', I M → Bfs n (fun u v => 0 < M u v) s prev q q.length 0 → t ∉ q → Ext h h' → h f = Option.none → Tab h' f n rows (fun u v => max (capM es u v - M u v) 0) → Q (.ref f) h') :
    runFn G Core.max_flow_fn [iv n, .ref a, iv s, iv t] h Q := by
  refine runFn_of rfl ?_
  have hnl : inLim (n : Int) := by unfold inLim; (first | lia | omega)
  have hst' : ¬ ((s : Int) = (t : Int)) := by (first | lia | omega)
  simp [Core.max_flow_fn, Core.max_flow_body, hnl, hst']
  refine kcap _ _ _ (capacity_table_spec hn he hok fun ct cr hc xc _ _ TC => ?_)
  simp [TC.top]
  refine compW_rows (m := n) (fun i => .ref (cr i)) (fun i j => .int (capM es i j)) TC.top ?_ ?_
  · intro i hi h' K hx hK
    simp [hx _ _ (TC.row i hi)]
    exact fun r hr => hK r hr
  intro rr h1 x1 hr hi
  refine ⟨x1 _ _ TC.top, fun rt hrt => fun p0 hp0 => ?_⟩
  have x2 : Ext h1 (h1.set rt (.list (arr n fun i => .ref (rr i)))) := Ext.new _ hrt
  have x3 := x2.trans (Ext.new (.list []) hp0)
  have TR : Tab ((h1.set rt (.list (arr n fun i => .ref (rr i)))).set p0 (.list [])) rt n rr (capM es) := by
    refine ⟨(Ext.new _ hp0) _ _ (by simp), fun i hi' => x3 _ _ (hr i hi').2, hi, fun i hi' e => ?_⟩
    rw [← e, (hr i hi').2] at hrt; cases hrt
  simp [hst']
  refine kaug _ _ _ (augmenting_path_spec kpath hn hs ht TR fun prev q way B W pr h2 g1 g2 g3 => ?_)
  refine while_inv (fun m σ h' => ∃ M prev q way pr, m = (rsum n fun v => M s v).toNat ∧ I M ∧ Tab h' rt n rr M ∧ Ext hc h' ∧ Bfs n (fun u v => 0 < M u v) s prev q q.length 0 ∧ IsWay n (fun u v => 0 < M u v) s t prev q way ∧ (∀ i, i < n → rr i ≠ pr) ∧ h' pr = some (.list (way.map iv)) ∧
      σ "n" = some (iv n) ∧ σ "source" = some (iv s) ∧ σ "sink" = some (iv t) ∧ σ "capacity" = some (.ref ct) ∧ σ "room" = some (.ref rt) ∧ σ "path" = some (.ref pr)) ?_ (j := (rsum n fun v => capM es s v).toNat) ?_
  · rintro m σ h' K ⟨M, prev, q, way, pr, rfl, iM, T, xh, B, W, hne, ep, e1, e2, e3, e4, e5, e6⟩ hK
    simp [e6, ep]
    rcases W with ⟨w1, _⟩ | ⟨w1, w2, rfl⟩ | ⟨w1, k, c, C, hk, rfl⟩
    · exact absurd w1 hst
    · simp [e1, hnl]
      have TC' := TC.ext xh
      refine compW_rows (m := n) iv (fun u v => .int (max (capM es u v - M u v) 0)) trivial ?_ ?_
      · intro u hu h3 K3 x4 hK3
        have TC3 := TC'.ext x4
        have T3 := T.ext x4
        try simp [e1, hnl]
        refine compW_arr (fun v => .int (max (capM es u v - M u v) 0)) (fun v hv K4 hK4 => ?_) ⟨trivial, fun r hr => hK3 r hr⟩
        simp [e4, e5, TC3.top, TC3.row _ hu, T3.top, T3.row _ hu, getIdx_arr, hu, hv]
        exact hK4
      · intro rows h3 x4 hr3 hi3
        refine ⟨trivial, fun f hf => ?_⟩
        have hf0 : h f = Option.none := (xc.trans (xh.trans x4)).none hf
        refine hQ M prev q f rows _ iM B w2 ((xc.trans (xh.trans x4)).trans (Ext.new _ hf)) hf0 ⟨by simp, fun i hi' => ?_, hi3, fun i hi' e => ?_⟩
        · rw [H.set_other _ _ (ne_of_none (hr3 i hi').2 hf)]; exact (hr3 i hi').2
        · exact ne_of_none (hr3 i hi').2 hf e
    · have k1 : 1 ≤ k := by
        rcases Nat.eq_zero_or_pos k with z | z
        · subst z; exact absurd (C.z.symm.trans C.e) w1
        · exact z
      have ep' : h' pr = some (.list (arr (k + 1) fun i => iv (c i))) := by rw [ep, List.map_map]; rfl
      have l1 : inLim 1 := by unfold inLim; (first | lia | omega)
      have lk' : inLim ((k : Int) + 1) := by unfold inLim; (first | lia | omega)
      have pos' : (0 : Int) < (k : Int) + 1 := by (first | lia | omega)
      simp [pos', Core.max_flow_b1, e6, ep', l1, lk', upTo_one]
      refine compW_ext (fun i => iv (i + 1)) (fun i => .int (M (c i) (c (i + 1)))) trivial ?_ ?_
      · intro i hi' h3 K3 x4 hK3
        have T3 := T.ext x4
        have ep3 := x4 _ _ ep'
        have c0 := chain_lt B C (i := i) (by (first | lia | omega))
        have c1 := chain_lt B C (i := i + 1) (by (first | lia | omega))
        simp [e5, ep3, getIdx_arr, getIdx_arr1, show i < k + 1 by (first | lia | omega), show i + 1 < k + 1 by (first | lia | omega), hi', T3.top, T3.row _ c0, c0, c1]
        exact hK3 _ (Ext.refl _)
      · intro h3 x4
        refine ⟨trivial, fun z hz => ?_⟩
        have x5 := x4.trans (Ext.new (.list (arr k fun i => .int (M (c i) (c (i + 1))))) hz)
        simp
        have hne0 : ((List.range k).map fun i => M (c i) (c (i + 1))) ≠ [] := by
          intro e; rw [List.map_eq_nil_iff, List.range_eq_nil] at e; (first | lia | omega)
        refine ints1K_some _ _ hne0 ?_
        obtain ⟨i₀, hi₀, hm⟩ := List.mem_map.mp (minL_mem hne0)
        have hi₀ := List.mem_range.mp hi₀
        have hle : ∀ i, i < k → minL ((List.range k).map fun i => M (c i) (c (i + 1))) ≤ M (c i) (c (i + 1)) := fun i hi' => minL_le (List.mem_map.mpr ⟨i, List.mem_range.mpr hi', rfl⟩)
        generalize minL ((List.range k).map fun i => M (c i) (c (i + 1))) = m at hm hle
        have hm0 : 0 < m := by rw [← hm]; exact (C.st i₀ hi₀).2.2.2.1
        have hzp : pr ≠ z := ne_of_none (x4 _ _ ep') hz
        simp [hzp, x4 _ _ ep', lk', upTo_one]
        refine forW_arrG (fun i σ h' => Tab h' rt n rr (aug M c m i) ∧ Ext hc h' ∧ h' pr = some (.list (arr (k + 1) fun i => iv (c i))) ∧
          σ "n" = some (iv n) ∧ σ "source" = some (iv s) ∧ σ "sink" = some (iv t) ∧ σ "capacity" = some (.ref ct) ∧ σ "room" = some (.ref rt) ∧ σ "path" = some (.ref pr) ∧ σ "narrowest" = some (.int m)) ?_ ?_ ?_
        · exact ⟨(T.ext x5).congr fun u v _ _ => (aug_zero M c m u v).symm, xh.trans x5, x5 _ _ ep', by simp [e1], by simp [e2], by simp [e3], by simp [e4], by simp [e5], by simp [e6], by simp⟩
        · rintro i σ h5 K5 hi' ⟨T5, xh5, ep5, f1, f2, f3, f4, f5, f6, f7⟩ hK5
          have c0 := chain_lt B C (i := i) (by (first | lia | omega))
          have c1 := chain_lt B C (i := i + 1) (by (first | lia | omega))
          have T6 := T5.put (c (i + 1)) (aug M c m i (c i) (c (i + 1)) - m) c0
          have T7 := T6.put (c i) (put2 (aug M c m i) (c i) (c (i + 1)) (aug M c m i (c i) (c (i + 1)) - m) (c (i + 1)) (c i) + m) c1
          simp only [Core.max_flow_b2, execs_cons, exec_assign, exec_set, ev_sub, ev_var, ev_bin, ev_int, upd_apply, f5, f6, f7, optK_some, binop_sub, binop_add, subW_ref, ep5, seqsK_list, thenK_next, reduceCtorEq, String.reduceEq, if_true, if_false]
          rw [show ((i + 1 : Nat) : Int) - 1 = (i : Nat) by (first | lia | omega)]
          simp only [subW_ref, getIdx_arr, show i < k + 1 by (first | lia | omega), show i + 1 < k + 1 by (first | lia | omega), optK_some, T5.top, T5.row _ c0, seqsK_list, c0, c1, binop_sub, setSub_ref, listK_some, arr_length]
          refine ⟨by (first | lia | omega), by (first | lia | omega), ?_⟩
          rw [Int.toNat_natCast]
          simp only [subW_ref, T6.top, T6.row _ c1, getIdx_arr, c0, c1, optK_some, seqsK_list, binop_add, setSub_ref, listK_some, arr_length]
          refine ⟨by (first | lia | omega), by (first | lia | omega), ?_⟩
          rw [Int.toNat_natCast]
          simp only [execs_nil]
          refine hK5 _ _ ⟨T7.congr fun u v _ _ => aug_succ M c m i u v, (xh5.set _ (hr _ c0).1).set _ (hr _ c1).1, ?_, by simp [f1], by simp [f2], by simp [f3], by simp [f4], by simp [f5], by simp [f6], by simp [f7]⟩
          rw [H.set_other _ _ (hne _ c1).symm, H.set_other _ _ (hne _ c0).symm]; exact ep5
        · rintro σ h5 ⟨T5, xh5, ep5, f1, f2, f3, f4, f5, f6, f7⟩
          simp [f1, f2, f3, f5]
          have iM' : I (aug M c m k) := istep M _ prev q k c m iM B C k1 hm0 hle ⟨i₀, hi₀, hm.symm⟩ fun _ _ _ _ => rfl
          refine kaug _ _ _ (augmenting_path_spec kpath hn hs ht T5 fun prev' q' way' B' W' pr' h6 g1 g2 g3 => ?_)
          have hdec : rsum n (fun v => aug M c m k s v) = rsum n (fun v => M s v) - m := aug_row B C k1 M m
          have hp1 : 0 ≤ rsum n (fun v => aug M c m k s v) := rsum_nonneg fun v hv => ipos _ iM' s v hs hv
          refine hK (rsum n fun v => aug M c m k s v).toNat _ _ (by (first | lia | omega)) ⟨_, prev', q', way', pr', rfl, iM', T5.ext g2, xh5.trans g2, B', W', fun i hi' => ne_of_none (T5.row i hi') g1, g3, by simp [f1], by simp [f2], by simp [f3], by simp [f4], by simp [f5], by simp⟩
  · refine ⟨capM es, prev, q, way, pr, rfl, i0 _ fun _ _ _ _ => rfl, TR.ext g2, (x1.trans x3).trans g2, B, W, fun i hi' => ne_of_none (TR.row i hi') g1, g3, by simp, by simp, by simp, by simp, by simp, by simp⟩
end MP

end
section
namespace MP
/-- within reach of the source -/
inductive Rch (n : Nat) (r : Nat → Nat → Prop) (s : Nat) : Nat → Prop
  | nil : Rch n r s s
  | snoc {u v : Nat} : Rch n r s u → u < n → v < n → r u v → Rch n r s v

structure Sid (n : Nat) (r : Nat → Nat → Prop) (s : Nat) (S : Nat → Bool) (q : List Nat) (p j : Nat) : Prop where
  nod : q.Nodup
  lt : ∀ u ∈ q, u < n
  mem : ∀ v, v < n → (S v = true ↔ v ∈ q)
  src : s ∈ q
  rch : ∀ v ∈ q, Rch n r s v
  clo : ∀ (i u v : Nat), (i < p ∨ (i = p ∧ v < j)) → q[i]? = some u → v < n → r u v → v ∈ q

variable {n s : Nat} {r : Nat → Nat → Prop} {S : Nat → Bool} {q : List Nat} {p j : Nat}
theorem Sid.start (hs : s < n) : Sid n r s (fun v => decide (v = s)) [s] 0 0 where
  nod := by simp
  lt := by simp [hs]
  mem := fun v _ => by simp
  src := by simp
  rch := fun v hv => by simp at hv; subst hv; exact .nil
  clo := fun i u v h => by (first | lia | omega)
theorem Sid.skip (B : Sid n r s S q p j) {u : Nat} (hu : q[p]? = some u) (hno : ¬ (S j = false ∧ r u j)) (hj : j < n) : Sid n r s S q p (j + 1) where
  nod := B.nod
  lt := B.lt
  mem := B.mem
  src := B.src
  rch := B.rch
  clo := fun i u' v h e hv hr => by
    by_cases hc : i = p ∧ v = j
    · obtain ⟨rfl, rfl⟩ := hc
      rw [hu] at e; cases e
      refine (B.mem v hv).mp ?_
      cases q' : S v with
      | true => rfl
      | false => exact absurd ⟨q', hr⟩ hno
    · exact B.clo i u' v (by (first | lia | omega)) e hv hr
theorem Sid.add (B : Sid n r s S q p j) {u : Nat} (hu : q[p]? = some u) (hS : S j = false) (hr : r u j) (hj : j < n) : Sid n r s (fun v => if v = j then true else S v) (q ++ [j]) p (j + 1) := by
  have hjq : j ∉ q := fun hm => by rw [(B.mem j hj).mpr hm] at hS; cases hS
  have hun := B.lt u (List.mem_of_getElem? hu)
  refine ⟨?_, fun v hv => ?_, fun v hv => ?_, List.mem_append_left _ B.src, fun v hv => ?_, fun i x v h e hv hrv => ?_⟩
  · rw [List.nodup_append]
    exact ⟨B.nod, by simp, fun a ha b hb e => by simp at hb; subst hb; exact hjq (e ▸ ha)⟩
  · rcases List.mem_append.mp hv with h | h
    · exact B.lt v h
    · simp at h; (first | lia | omega)
  · by_cases q' : v = j
    · simp [q']
    · simp [q', B.mem v hv]
  · rcases List.mem_append.mp hv with h | h
    · exact B.rch v h
    · simp at h; subst h
      exact .snoc (B.rch u (List.mem_of_getElem? hu)) hun hj hr
  · rcases Nat.lt_or_ge i q.length with h' | h'
    · rw [List.getElem?_append_left h'] at e
      by_cases hc : i = p ∧ v = j
      · exact List.mem_append_right _ (by simp [hc.2])
      · exact List.mem_append_left _ (B.clo i x v (by (first | lia | omega)) e hv hrv)
    · have := (List.getElem?_eq_some_iff.mp hu).1
      (first | lia | omega)
theorem Sid.next (B : Sid n r s S q p n) : Sid n r s S q (p + 1) 0 where
  nod := B.nod
  lt := B.lt
  mem := B.mem
  src := B.src
  rch := B.rch
  clo := fun i u v h e hv hr => B.clo i u v (by (first | lia | omega)) e hv hr
theorem Sid.len (B : Sid n r s S q p j) : q.length ≤ n := nodup_len n q B.nod B.lt

/-- just the points within reach -/
noncomputable def SideOk (n : Nat) (r : Nat → Nat → Prop) (s : Nat) (S : Nat → Bool) : Prop := ∀ v, v < n → (S v = true ↔ Rch n r s v)
theorem Sid.fin (B : Sid n r s S q q.length 0) (hs : s < n) : SideOk n r s S := fun v hv => by
  refine ⟨fun h => B.rch v ((B.mem v hv).mp h), fun h => ?_⟩
  have : ∀ x, Rch n r s x → x ∈ q := fun x hx => by
    induction hx with
    | nil => exact B.src
    | snoc _ hu hv' hr ih =>
      obtain ⟨a, ha⟩ := List.mem_iff_getElem?.mp ih
      exact B.clo a _ _ (.inl (List.getElem?_eq_some_iff.mp ha).1) ha hv' hr
  exact (B.mem v hv).mpr (this v h)
/-- a set that holds the source, is closed, and lies within reach -/
theorem SideOk.eq (h : SideOk n r s S) (X : Nat → Bool) (h0 : X s = true) (hc : ∀ u v, u < n → v < n → X u = true → r u v → X v = true) (hr : ∀ v, v < n → X v = true → Rch n r s v) : ∀ v, v < n → S v = X v := fun v hv => by
  have : ∀ x, Rch n r s x → X x = true := fun x hx => by
    induction hx with
    | nil => exact h0
    | snoc _ hu hv' hr ih => exact hc _ _ hu hv' ih hr
  cases q1 : S v with
  | true => exact (this v ((h v hv).mp q1)).symm
  | false =>
    cases q2 : X v with
    | false => rfl
    | true => rw [(h v hv).mpr (hr v hv q2)] at q1; cases q1

theorem source_side_spec {G G1 : Par} {a f : Nat} {es : List Edge} {rows : Nat → Nat} {F : Nat → Nat → Int} {h : H} {Q : V → H → Prop}
    (kcap : ∀ vs h Q, runFn G1 Core.capacity_table_fn vs h Q → G.Γ "capacity_table" vs h Q)
    (hn : n ≤ 1000) (hs : s < n) (he : Rd h (.ref a) (edgesD es)) (hok : okEdges n es) (T : Tab h f n rows F)
    (hQ : ∀ S, SideOk n (fun u v => F u v < capM es u v ∨ 0 < F v u) s S → Ret h Q (arr n fun v => .bool (S v))) :
    runFn G Core.source_side_fn [iv n, .ref a, .ref f, iv s] h Q := by
  refine runFn_of rfl ?_
  have hnl : inLim (n : Int) := by unfold inLim; (first | lia | omega)
  simp [Core.source_side_fn, Core.source_side_body, hnl]
  refine kcap _ _ _ (capacity_table_spec hn he hok fun ct cr hc xc _ _ TC => ?_)
  try simp [hnl]
  refine compW_arr (fun _ => .bool false) (fun i hi K hK => by simpa using hK) ⟨trivial, fun sa hsa => ?_⟩
  simp [hs, alloc]
  intro qa hqa
  have hsq : sa ≠ qa := fun e => by subst e; simp at hqa
  have hqa0 : hc qa = Option.none := by simpa [Ne.symm hsq] using hqa
  refine while_inv (fun m σ h' => ∃ S q p, Sid n (fun u v => F u v < capM es u v ∨ 0 < F v u) s S q p 0 ∧ m = n - p ∧ p ≤ q.length ∧ σ "n" = some (iv n) ∧ σ "capacity" = some (.ref ct) ∧ σ "flow" = some (.ref f) ∧
      σ "side" = some (.ref sa) ∧ σ "queue" = some (.ref qa) ∧ σ "place" = some (iv p) ∧ Ext hc h' ∧ h' sa = some (.list (arr n fun v => .bool (S v))) ∧ h' qa = some (.list (q.map iv))) ?_ (j := n) ?_
  · rintro m σ h' K ⟨S, q, p, B, rfl, hp, e1, e2, e3, e5, e6, e7, hx, hh1, hh2⟩ hK
    simp [e7, e6, hh2]
    by_cases hlt : p < q.length
    · have hlt' : (p : Int) < (q.length : Int) := by (first | lia | omega)
      simp only [hlt, if_true]
      have hlen := B.len
      have hu : q[p]? = some q[p] := List.getElem?_eq_getElem hlt
      simp [Core.source_side_b1, e6, hh2, e7, getIdx_nat, hu, e1, hnl]
      refine forW_arr (fun v σ h' => ∃ S q', Sid n (fun u v => F u v < capM es u v ∨ 0 < F v u) s S q' p v ∧ q'[p]? = some q[p] ∧ σ "n" = some (iv n) ∧ σ "capacity" = some (.ref ct) ∧ σ "flow" = some (.ref f) ∧
        σ "side" = some (.ref sa) ∧ σ "queue" = some (.ref qa) ∧ σ "place" = some (iv (p + 1)) ∧ σ "u" = some (iv q[p]) ∧ Ext hc h' ∧ h' sa = some (.list (arr n fun v => .bool (S v))) ∧ h' qa = some (.list (q'.map iv))) ?_ ?_ ?_
      · exact ⟨S, q, B, hu, by simp [e1], by simp [e2], by simp [e3], by simp [e5], by simp [e6], by simp, by simp, hx, hh1, hh2⟩
      · rintro v σ h' K' hv ⟨S, q', B, hu', e1, e2, e3, e5, e6, e7, e8, hx, hh1, hh2⟩ hK'
        have hun : q[p] < n := B.lt _ (List.mem_of_getElem? hu')
        have TC' := TC.ext hx
        have T' := T.ext (xc.trans hx)
        simp [Core.source_side_b2, e2, e3, e8, T'.top, T'.row _ hun, T'.row _ hv, TC'.top, TC'.row _ hun, getIdx_arr, hun, hv, e5, hh1]
        have keepσ : ∀ S q' h', Sid n (fun u v => F u v < capM es u v ∨ 0 < F v u) s S q' p (v + 1) → q'[p]? = some q[p] → Ext hc h' → h' sa = some (.list (arr n fun v => .bool (S v))) → h' qa = some (.list (q'.map iv)) → K' .next (upd σ "v" (iv v)) h' :=
          fun S q' h' b1 b2 b3 b4 b5 => hK' _ _ ⟨S, q', b1, b2, by simp [e1], by simp [e2], by simp [e3], by simp [e5], by simp [e6], by simp [e7], by simp [e8], b3, b4, b5⟩
        have addit : S v = false → (F q[p] v < capM es q[p] v ∨ 0 < F v q[p]) → execs G Core.source_side_b3 (upd σ "v" (iv v)) h' K' := fun c1 c2 => by
          simp [Core.source_side_b3, e5, e6, hh1, hv, hh2, Ne.symm hsq]
          have hl2 := B.len
          refine ⟨by unfold lim; (first | lia | omega), keepσ (fun x => if x = v then true else S x) (q' ++ [v]) _ (B.add hu' c1 c2 hv) ?_ ((hx.set _ hsa).set _ hqa0) ?_ ?_⟩
          · rw [List.getElem?_append_left (List.getElem?_eq_some_iff.mp hu').1]; exact hu'
          · rw [H.set_other _ _ hsq, H.set_self, arr_set]
            congr 2
            refine arr_congr fun j _ => ?_
            split <;> rfl
          · simp
        cases c1 : S v with
        | true =>
          simp
          exact keepσ _ _ _ (B.skip hu' (fun q => by rw [q.1] at c1; cases c1) hv) hu' hx hh1 hh2
        | false =>
          simp
          by_cases c2 : F q[p] v < capM es q[p] v
          · simp only [c2, if_true]
            exact addit c1 (.inl c2)
          · simp only [c2, if_false]
            by_cases c3 : 0 < F v q[p]
            · simp only [c3, if_true]
              exact addit c1 (.inr c3)
            · simp only [c3, if_false]
              exact keepσ _ _ _ (B.skip hu' (fun q => by rcases q.2 with h | h <;> contradiction) hv) hu' hx hh1 hh2
      · rintro σ h' ⟨S, q', B, hu', e1, e2, e3, e5, e6, e7, e8, hx, hh1, hh2⟩
        have hp' : p < q'.length := (List.getElem?_eq_some_iff.mp hu').1
        simp
        exact hK (n - (p + 1)) _ _ (by have := B.len; (first | lia | omega)) ⟨S, q', p + 1, B.next, rfl, hp', e1, e2, e3, e5, e6, e7, hx, hh1, hh2⟩
    · simp only [hlt, if_false]
      have hpl : p = q.length := by (first | lia | omega)
      subst hpl
      simp [e5]
      exact hQ S (B.fin hs) sa h' (xc.none hsa) (xc.trans hx) hh1
  · refine ⟨fun v => decide (v = s), [s], 0, Sid.start hs, rfl, by simp, by simp, by simp, by simp, by simp, by simp, by simp, ?_, ?_, by simp⟩
    · exact ((Ext.new _ hsa).set _ hsa).set _ hqa0
    · rw [H.set_other _ _ hsq, H.set_self, arr_set]
      congr 2
      refine arr_congr fun j _ => ?_
      by_cases q : j = s <;> simp [q]

theorem flow_value_spec {G : Par} {f x : Nat} {rows : Nat → Nat} {F : Nat → Nat → Int} {h : H} {Q : V → H → Prop} (hx : x < n) (T : Tab h f n rows F)
    (hQ : ∀ h', Ext h h' → Q (.int (rsum n (fun j => F x j) - rsum n (fun i => F i x))) h') : runFn G Core.flow_value_fn [.ref f, iv x] h Q := by
  refine runFn_of rfl ?_
  simp [Core.flow_value_fn, Core.flow_value_body, T.top, getIdx_arr, hx, T.row _ hx]
  refine compW_ext (fun i => .ref (rows i)) (fun i => .int (F i x)) T.top ?_ ?_
  · intro i hi h' K hx' hK
    simp [hx' _ _ (T.row i hi), getIdx_arr, hx]
    exact hK _ (Ext.refl _)
  · intro h' hx'
    refine ⟨hx' _ _ T.top, fun z hz => ?_⟩
    simp
    exact hQ _ (hx'.trans (Ext.new _ hz))
end MP

end
section
/-! 1-03: the defs as terms; law in three parts -/
namespace MP.L103
open MP Core
noncomputable def law_cell_body : PSs :=
  (.cons (.ite (.cmp .lt (.var "i") (.bfn .len (.cons (.var "script") .nil)))
  (.cons (.ret (.sub (.var "script") (.var "i")))
  .nil) .nil)
  (.cons (.ret (.var "i"))
  .nil))
noncomputable def law_cell_fn : Fn := ⟨["script", "i"], law_cell_body⟩
noncomputable def law_chain_body : PSs :=
  (.cons (.assign (.tg (.name "k")) (.bin .add (.int 1) (.bin .mod (.call "_law_cell" (.cons (.var "script") (.cons (.int 1) .nil))) (.bin .sub (.var "n") (.int 1)))))
  (.cons (.assign (.tg (.name "turn")) (.bin .mod (.call "_law_cell" (.cons (.var "script") (.cons (.int 2) .nil))) (.bin .mul (.int 2) (.var "n"))))
  (.cons (.ite (.cmp .lt (.var "turn") (.var "n"))
  (.cons (.ret (.comp (.bin .mod (.bin .add (.var "turn") (.var "i")) (.var "n")) (.name "i") (.up (.bin .add (.var "k") (.int 1))) .nil))
  .nil) .nil)
  (.cons (.ret (.comp (.bin .mod (.bin .sub (.var "turn") (.var "i")) (.var "n")) (.name "i") (.up (.bin .add (.var "k") (.int 1))) .nil))
  .nil))))
noncomputable def law_chain_fn : Fn := ⟨["script", "n"], law_chain_body⟩
noncomputable def law_steps_b1 : PSs :=
  (.cons (.assign (.tg (.name "i")) (.bin .mod (.call "_law_cell" (.cons (.var "script") (.cons (.bin .add (.int 9) (.bin .mul (.int 3) (.var "t"))) .nil))) (.bin .add (.var "k") (.int 1))))
  (.cons (.assign (.tg (.name "j")) (.bin .mod (.call "_law_cell" (.cons (.var "script") (.cons (.bin .add (.int 10) (.bin .mul (.int 3) (.var "t"))) .nil))) (.bin .add (.var "k") (.int 1))))
  (.cons (.expr (.meth (.var "steps") .append (.cons (.tup (.cons (.var "i") (.cons (.bfn .min (.cons (.var "j") (.cons (.bin .add (.var "i") (.int 1)) .nil))) (.cons (.bin .mod (.call "_law_cell" (.cons (.var "script") (.cons (.bin .add (.int 11) (.bin .mul (.int 3) (.var "t"))) .nil))) (.int 8)) .nil)))) .nil)))
  .nil)))
noncomputable def law_steps_body : PSs :=
  (.cons (.assign (.tg (.name "steps")) (.comp (.tup (.cons (.var "i") (.cons (.bin .add (.var "i") (.int 1)) (.cons (.bin .mod (.call "_law_cell" (.cons (.var "script") (.cons (.bin .add (.int 3) (.var "i")) .nil))) (.int 8)) .nil)))) (.name "i") (.up (.var "k")) .nil))
  (.cons (.fr (.name "t") (.up (.bin .mod (.call "_law_cell" (.cons (.var "script") (.cons (.int 8) .nil))) (.int 7))) law_steps_b1)
  (.cons (.ret (.var "steps"))
  .nil)))
noncomputable def law_steps_fn : Fn := ⟨["script", "k"], law_steps_body⟩
noncomputable def law_widths_body : PSs :=
  (.cons (.ret (.comp (.bfn .sum (.cons (.comp (.sub (.var "s") (.int 2)) (.name "s") (.seq (.var "steps")) (.cons (.band (.cons (.cmp .eq (.sub (.var "s") (.int 0)) (.var "i")) (.cons (.cmp .eq (.sub (.var "s") (.int 1)) (.bin .add (.var "i") (.int 1))) .nil))) .nil)) .nil)) (.name "i") (.up (.var "k")) .nil))
  .nil)
noncomputable def law_widths_fn : Fn := ⟨["steps", "k"], law_widths_body⟩
noncomputable def law_table_body : PSs :=
  (.cons (.assign (.tg (.name "pairs")) (.comp (.tup (.cons (.sub (.var "chain") (.var "i")) (.cons (.sub (.var "chain") (.bin .add (.var "i") (.int 1))) .nil))) (.name "i") (.up (.bin .sub (.bfn .len (.cons (.var "chain") .nil)) (.int 1))) .nil))
  (.cons (.ret (.comp (.comp (.ite (.cmp .isin (.tup (.cons (.var "u") (.cons (.var "v") .nil))) (.var "pairs")) (.var "m") (.int 0)) (.name "v") (.up (.var "n")) .nil) (.name "u") (.up (.var "n")) .nil))
  .nil))
noncomputable def law_table_fn : Fn := ⟨["n", "chain", "m"], law_table_body⟩
noncomputable def law_p1_body : PSs :=
  (.cons (.assign (.tg (.name "n")) (.bin .add (.int 2) (.bin .mod (.call "_law_cell" (.cons (.var "script") (.cons (.int 0) .nil))) (.int 5))))
  (.cons (.assign (.tg (.name "chain")) (.call "_law_chain" (.cons (.var "script") (.cons (.var "n") .nil))))
  (.cons (.assign (.tg (.name "k")) (.bin .sub (.bfn .len (.cons (.var "chain") .nil)) (.int 1)))
  (.cons (.assign (.tg (.name "steps")) (.call "_law_steps" (.cons (.var "script") (.cons (.var "k") .nil))))
  (.cons (.assign (.tg (.name "edges")) (.comp (.tup (.cons (.sub (.var "chain") (.sub (.var "s") (.int 0))) (.cons (.sub (.var "chain") (.sub (.var "s") (.int 1))) (.cons (.sub (.var "s") (.int 2)) .nil)))) (.name "s") (.seq (.var "steps")) .nil))
  (.cons (.assign (.tg (.name "kept")) (.bfn .list (.cons (.var "edges") .nil)))
  (.cons (.assign (.tg (.name "widths")) (.call "_law_widths" (.cons (.var "steps") (.cons (.var "k") .nil))))
  (.cons (.assign (.tg (.name "m")) (.bfn .min (.cons (.var "widths") .nil)))
  (.cons (.assign (.tg (.name "border")) (.meth (.var "widths") .index (.cons (.var "m") .nil)))
  (.cons (.assign (.tg (.name "want")) (.call "_law_table" (.cons (.var "n") (.cons (.var "chain") (.cons (.var "m") .nil)))))
  (.cons (.assign (.tg (.name "flow")) (.call "max_flow" (.cons (.var "n") (.cons (.var "edges") (.cons (.sub (.var "chain") (.int 0)) (.cons (.sub (.var "chain") (.var "k")) .nil))))))
  (.cons (.ite (.cmp .ne (.var "flow") (.var "want"))
  (.cons (.ret (.bool false))
  .nil) .nil)
  .nil))))))))))))
noncomputable def law_p2_body : PSs :=
  (.cons (.assign (.tg (.name "gain")) (.comp (.int 0) (.name "v") (.up (.var "n")) .nil))
  (.cons (.assign (.sub (.var "gain") (.sub (.var "chain") (.int 0))) (.var "m"))
  (.cons (.assign (.sub (.var "gain") (.sub (.var "chain") (.var "k"))) (.neg (.var "m")))
  (.cons (.ite (.cmp .ne (.comp (.call "flow_value" (.cons (.var "flow") (.cons (.var "v") .nil))) (.name "v") (.up (.var "n")) .nil) (.var "gain"))
  (.cons (.ret (.bool false))
  .nil) .nil)
  (.cons (.assign (.tg (.name "side")) (.call "source_side" (.cons (.var "n") (.cons (.var "edges") (.cons (.var "flow") (.cons (.sub (.var "chain") (.int 0)) .nil))))))
  (.cons (.ite (.cmp .ne (.var "side") (.comp (.cmp .isin (.var "v") (.take (.var "chain") (.bin .add (.var "border") (.int 1)))) (.name "v") (.up (.var "n")) .nil))
  (.cons (.ret (.bool false))
  .nil) .nil)
  .nil))))))
noncomputable def law_p3_b1 : PSs :=
  (.cons (.ite (.cmp .ne (.call "source_side" (.cons (.var "n") (.cons (.var "edges") (.cons (.var "flow") (.cons (.sub (.var "chain") (.var "k")) .nil))))) (.comp (.cmp .isin (.var "v") (.var "chain")) (.name "v") (.up (.var "n")) .nil))
  (.cons (.ret (.bool false))
  .nil) .nil)
  .nil)
noncomputable def law_p3_body : PSs :=
  (.cons (.ite (.cmp .gt (.var "m") (.int 0))
  law_p3_b1 .nil)
  (.cons (.ite (.cmp .ne (.var "flow") (.var "want"))
  (.cons (.ret (.bool false))
  .nil) .nil)
  (.cons (.ite (.cmp .ne (.var "edges") (.var "kept"))
  (.cons (.ret (.bool false))
  .nil) .nil)
  (.cons (.ret (.bool true))
  .nil))))
noncomputable def fns : List (String × Fn) := [("_law_table", law_table_fn), ("_law_widths", law_widths_fn), ("_law_steps", law_steps_fn), ("_law_chain", law_chain_fn), ("_law_cell", law_cell_fn), ("source_side", source_side_fn), ("flow_value", flow_value_fn), ("max_flow", max_flow_fn), ("augmenting_path", augmenting_path_fn), ("capacity_table", capacity_table_fn), ("path_to", path_to_fn)]
end MP.L103
namespace MP
/-- what law asks, in three parts -/
noncomputable def lawW (G : Par) (h : H) (Q : V → H → Prop) : Prop :=
  execs G L103.law_p1_body (bindP ["script"] [.scr]) h fun fl σ h => match fl with
    | .ret v => Q v h
    | .next => ∃ (f : Nat) (xs : List V), σ "flow" = some (.ref f) ∧ h f = some (.list xs) ∧ (∀ v ∈ xs, ∃ (r : Nat) (is : List Int), v = .ref r ∧ h r = some (.list (is.map V.int))) ∧
      execs G L103.law_p2_body σ h fun fl σ h => match fl with
        | .ret v => Q v h
        | .next => ∃ (f : Nat) (bs : List Bool), σ "side" = some (.ref f) ∧ h f = some (.list (bs.map V.bool)) ∧
          execs G L103.law_p3_body σ h fun fl _ h => match fl with
            | .ret v => Q v h
            | .next => Q .none h
end MP

end
section
namespace MP.L103
open MP
/-- a chain, and edges that go at most one step forward on it -/
structure Lay (n k : Nat) (c : Nat → Nat) (C : Nat → Nat → Int) (m : Int) (b : Nat) : Prop where
  lt : ∀ i, i ≤ k → c i < n
  inj : ∀ i j, i ≤ k → j ≤ k → c i = c j → i = j
  nn : ∀ u v, 0 ≤ C u v
  on : ∀ u v, 0 < C u v → ∃ i j, i ≤ k ∧ j ≤ k ∧ j ≤ i + 1 ∧ u = c i ∧ v = c j
  hb : b < k
  mb : C (c b) (c (b + 1)) = m
  le : ∀ i, i < k → m ≤ C (c i) (c (i + 1))
  bf : ∀ i, i < b → m < C (c i) (c (i + 1))
variable {n k b : Nat} {c : Nat → Nat} {C : Nat → Nat → Int} {m : Int}
theorem Lay.m0 (L : Lay n k c C m b) : 0 ≤ m := L.mb ▸ L.nn _ _
theorem Lay.k1 (L : Lay n k c C m b) : 1 ≤ k := Nat.lt_of_le_of_lt (Nat.zero_le _) L.hb
theorem Lay.cnt1 (L : Lay n k c C m b) {i : Nat} (hi : i < k) : cnt c k (c i) (c (i + 1)) = 1 :=
  cnt_one hi ⟨rfl, rfl⟩ fun j hj hne e => hne (L.inj j i (Nat.le_of_lt hj) (Nat.le_of_lt hi) e.1)
theorem Lay.cnt0 (L : Lay n k c C m b) {i j : Nat} (hi : i ≤ k) (hj : j ≤ k) (hne : j ≠ i + 1) : cnt c k (c i) (c j) = 0 :=
  cnt_zero fun a ha e => by
    have h1 := L.inj a i (Nat.le_of_lt ha) hi e.1
    have h2 := L.inj (a + 1) j ha hj e.2
    exact hne (by rw [← h2, h1])
theorem cnt_cases (c : Nat → Nat) (k u v : Nat) (hinj : ∀ i j, i ≤ k → j ≤ k → c i = c j → i = j) : (∃ i, i < k ∧ u = c i ∧ v = c (i + 1) ∧ cnt c k u v = 1) ∨ ((∀ i, i < k → ¬ (c i = u ∧ c (i + 1) = v)) ∧ cnt c k u v = 0) := by
  by_cases q : ∃ i, i < k ∧ c i = u ∧ c (i + 1) = v
  · obtain ⟨i, hi, e1, e2⟩ := q
    exact .inl ⟨i, hi, e1.symm, e2.symm, cnt_one hi ⟨e1, e2⟩ fun j hj hne e => hne (hinj j i (Nat.le_of_lt hj) (Nat.le_of_lt hi) (e.1.trans e1.symm))⟩
  · have h : ∀ i, i < k → ¬ (c i = u ∧ c (i + 1) = v) := fun i hi e => q ⟨i, hi, e⟩
    exact .inr ⟨h, cnt_zero h⟩
/-- the flow -/
noncomputable def Fl (c : Nat → Nat) (m : Int) (k u v : Nat) : Int := m * cnt c k u v
theorem Lay.fl_on (L : Lay n k c C m b) {i : Nat} (hi : i < k) : Fl c m k (c i) (c (i + 1)) = m := by unfold Fl; rw [L.cnt1 hi, Int.mul_one]
theorem Lay.fl_pos (L : Lay n k c C m b) {u v : Nat} (h : 0 < Fl c m k u v) : ∃ i, i < k ∧ u = c i ∧ v = c (i + 1) := by
  rcases cnt_cases c k u v L.inj with ⟨i, h1, h2, h3, _⟩ | ⟨_, h2⟩
  · exact ⟨i, h1, h2, h3⟩
  · unfold Fl at h; rw [h2, Int.mul_zero] at h; exact absurd h (Int.lt_irrefl _)
theorem Lay.fl_nn (L : Lay n k c C m b) (u v : Nat) : 0 ≤ Fl c m k u v := by
  rcases cnt_cases c k u v L.inj with ⟨i, _, _, _, h⟩ | ⟨_, h⟩ <;> (unfold Fl; rw [h]; simp [L.m0])
theorem Lay.aug_pos (L : Lay n k c C m b) (u v : Nat) : 0 ≤ aug C c m k u v := by
  have h0 := L.m0
  have h1 := L.nn u v
  unfold aug
  rcases cnt_cases c k u v L.inj with ⟨i, hi, rfl, rfl, h⟩ | ⟨_, h⟩
  · rw [h, L.cnt0 hi (Nat.le_of_lt hi) (by (first | lia | omega))]
    have := L.le i hi
    (first | lia | omega)
  · rcases cnt_cases c k v u L.inj with ⟨i, hi, rfl, rfl, h'⟩ | ⟨_, h'⟩ <;> (rw [h, h']; (first | lia | omega))
theorem Lay.flow (L : Lay n k c C m b) (u v : Nat) : max (C u v - aug C c m k u v) 0 = Fl c m k u v := by
  have h0 := L.m0
  unfold aug Fl
  rcases cnt_cases c k u v L.inj with ⟨i, hi, rfl, rfl, h⟩ | ⟨_, h⟩
  · rw [h, L.cnt0 hi (Nat.le_of_lt hi) (by (first | lia | omega))]; (first | lia | omega)
  · rcases cnt_cases c k v u L.inj with ⟨i, hi, rfl, rfl, h'⟩ | ⟨_, h'⟩ <;> (rw [h, h']; (first | lia | omega))
/-- the search's invariant: nothing is done, or all -/
noncomputable def Inv (n k : Nat) (c : Nat → Nat) (C : Nat → Nat → Int) (m : Int) (M : Nat → Nat → Int) : Prop := (∀ u v, u < n → v < n → M u v = C u v) ∨ (∀ u v, u < n → v < n → M u v = aug C c m k u v)
theorem Lay.pos (L : Lay n k c C m b) {M : Nat → Nat → Int} (I : Inv n k c C m M) (u v : Nat) (hu : u < n) (hv : v < n) : 0 ≤ M u v := by
  rcases I with h | h
  · rw [h u v hu hv]; exact L.nn u v
  · rw [h u v hu hv]; exact L.aug_pos u v
/-- behind the border nothing is left -/
theorem Lay.shut (L : Lay n k c C m b) {i v : Nat} (hi : i ≤ b) (h : 0 < aug C c m k (c i) v) : ∃ j, j ≤ b ∧ v = c j := by
  have hik : i < k := Nat.lt_of_le_of_lt hi L.hb
  by_cases q : 0 < C (c i) v
  · obtain ⟨i', j, h1, h2, h3, h4, h5⟩ := L.on _ _ q
    have e := L.inj i i' (Nat.le_of_lt hik) h1 h4
    subst e
    by_cases q2 : j ≤ b
    · exact ⟨j, q2, h5⟩
    · have e1 : i = b := by (first | lia | omega)
      have e2 : j = b + 1 := by (first | lia | omega)
      subst e1; subst e2; subst h5
      unfold aug at h
      rw [L.cnt1 L.hb, L.cnt0 L.hb (Nat.le_of_lt L.hb) (by (first | lia | omega)), L.mb] at h
      (first | lia | omega)
  · have z : C (c i) v = 0 := by have := L.nn (c i) v; (first | lia | omega)
    unfold aug at h
    rcases cnt_cases c k v (c i) L.inj with ⟨j, hj, e1, e2, h'⟩ | ⟨_, h'⟩
    · have := L.inj i (j + 1) (Nat.le_of_lt hik) hj e2
      exact ⟨j, by (first | lia | omega), e1⟩
    · have h0 := L.m0
      rcases cnt_cases c k (c i) v L.inj with ⟨_, _, _, _, h''⟩ | ⟨_, h''⟩ <;> (rw [h', h'', z] at h; (first | lia | omega))
theorem Lay.step (L : Lay n k c C m b) {M M' : Nat → Nat → Int} {prev : Nat → Option Nat} {q : List Nat} {k' : Nat} {c' : Nat → Nat} {m' : Int} (I : Inv n k c C m M) (B : Bfs n (fun u v => 0 < M u v) (c 0) prev q q.length 0) (H : Chain n (fun u v => 0 < M u v) (c 0) prev q (c k) k' c')
    (hle : ∀ i, i < k' → m' ≤ M (c' i) (c' (i + 1))) (hm : ∃ i, i < k' ∧ m' = M (c' i) (c' (i + 1))) (he : ∀ u v, u < n → v < n → M' u v = aug M c' m' k' u v) : Inv n k c C m M' := by
  have cl : ∀ i, i ≤ k' → c' i < n := fun i hi => chain_lt B H hi
  rcases I with I | I
  · have same : ∀ i, i ≤ k' → i ≤ k ∧ ∀ j, j ≤ i → c' j = c j := by
      intro i
      induction i with
      | zero => exact fun _ => ⟨Nat.zero_le _, fun j hj => by rw [Nat.le_zero.mp hj]; exact H.z⟩
      | succ i ih =>
        intro hi
        obtain ⟨h1, h2⟩ := ih (Nat.le_of_succ_le hi)
        have hr := (H.st i hi).2.2.2.1
        rw [I _ _ (cl i (Nat.le_of_succ_le hi)) (cl (i + 1) hi)] at hr
        obtain ⟨a, j, g1, g2, g3, g4, g5⟩ := L.on _ _ hr
        have ea : a = i := L.inj a i g1 h1 (by rw [← g4]; exact h2 i (Nat.le_refl _))
        subst ea
        have hj : j = a + 1 := by
          rcases Nat.lt_or_ge a j with q' | q'
          · (first | lia | omega)
          · have := chain_inj B H (i := a + 1) (j := j) hi (by (first | lia | omega)) (by rw [g5, h2 j q'])
            (first | lia | omega)
        subst hj
        exact ⟨g2, fun j hj => by
          rcases Nat.lt_or_ge a j with q' | q'
          · have : j = a + 1 := by (first | lia | omega)
            rw [this]; exact g5
          · exact h2 j q'⟩
    obtain ⟨s1, s2⟩ := same k' (Nat.le_refl _)
    have ek : k' = k := L.inj k' k s1 (Nat.le_refl _) (by rw [← s2 k' (Nat.le_refl _)]; exact H.e)
    subst ek
    have em : m' = m := by
      obtain ⟨i, hi, e⟩ := hm
      have h1 := hle b L.hb
      rw [s2 b (Nat.le_of_lt L.hb), s2 (b + 1) L.hb, I _ _ (L.lt b (Nat.le_of_lt L.hb)) (L.lt (b + 1) L.hb), L.mb] at h1
      rw [s2 i (Nat.le_of_lt hi), s2 (i + 1) hi, I _ _ (L.lt i (Nat.le_of_lt hi)) (L.lt (i + 1) hi)] at e
      have := L.le i hi
      (first | lia | omega)
    subst em
    refine .inr fun u v hu hv => ?_
    rw [he u v hu hv]
    have ec : ∀ x y j, j ≤ k' → cnt c' j x y = cnt c j x y := fun x y j => by
      induction j with
      | zero => exact fun _ => rfl
      | succ j ih =>
        intro hj
        rw [cnt, cnt, ih (Nat.le_of_succ_le hj), s2 j (Nat.le_of_succ_le hj), s2 (j + 1) hj]
    unfold aug
    rw [I u v hu hv, ec u v k' (Nat.le_refl _), ec v u k' (Nat.le_refl _)]
  · have low : ∀ i, i ≤ k' → ∃ j, j ≤ b ∧ c' i = c j := by
      intro i
      induction i with
      | zero => exact fun _ => ⟨0, Nat.zero_le _, H.z⟩
      | succ i ih =>
        intro hi
        obtain ⟨j, h1, h2⟩ := ih (Nat.le_of_succ_le hi)
        have hr := (H.st i hi).2.2.2.1
        rw [I _ _ (cl i (Nat.le_of_succ_le hi)) (cl (i + 1) hi), h2] at hr
        exact L.shut h1 hr
    obtain ⟨j, h1, h2⟩ := low k' (Nat.le_refl _)
    rw [H.e] at h2
    have := L.inj k j (Nat.le_refl _) (Nat.le_of_lt (Nat.lt_of_le_of_lt h1 L.hb)) h2
    exact absurd L.hb (by (first | lia | omega))
theorem Lay.done (L : Lay n k c C m b) {M : Nat → Nat → Int} {prev : Nat → Option Nat} {q : List Nat} (I : Inv n k c C m M) (B : Bfs n (fun u v => 0 < M u v) (c 0) prev q q.length 0) (ht : c k ∉ q) (u v : Nat) (hu : u < n) (hv : v < n) : max (C u v - M u v) 0 = Fl c m k u v := by
  rcases I with I | I
  · by_cases z : m = 0
    · rw [I u v hu hv]; unfold Fl; rw [z]; simp
    · have hm : 0 < m := by have := L.m0; (first | lia | omega)
      have all : ∀ i, i ≤ k → c i ∈ q := by
        intro i
        induction i with
        | zero => exact fun _ => List.mem_of_getElem? B.hd
        | succ i ih =>
          intro hi
          obtain ⟨a, ha⟩ := List.mem_iff_getElem?.mp (ih (Nat.le_of_succ_le hi))
          refine B.clo a _ _ (.inl (List.getElem?_eq_some_iff.mp ha).1) ha (L.lt _ hi) ?_
          show 0 < M _ _
          rw [I _ _ (L.lt i (Nat.le_of_succ_le hi)) (L.lt _ hi)]
          exact Int.lt_of_lt_of_le hm (L.le i hi)
      exact absurd (all k (Nat.le_refl _)) ht
  · rw [I u v hu hv]; exact L.flow u v
end MP.L103

end
section
namespace MP.L103
open MP
variable {n k b : Nat} {c : Nat → Nat} {C : Nat → Nat → Int} {m : Int}
theorem Lay.row_on (L : Lay n k c C m b) {i : Nat} (hi : i < k) : rsum n (fun j => Fl c m k (c i) j) = m := by
  rw [rsum_one (a := c (i + 1)) (L.lt _ hi) fun j _ hne => ?_, L.fl_on hi]
  unfold Fl
  rcases cnt_cases c k (c i) j L.inj with ⟨i', h1, h2, h3, _⟩ | ⟨_, h⟩
  · have := L.inj i i' (Nat.le_of_lt hi) (Nat.le_of_lt h1) h2
    subst this; exact absurd h3 hne
  · rw [h, Int.mul_zero]
theorem Lay.row_off (L : Lay n k c C m b) {x : Nat} (h : ∀ i, i < k → x ≠ c i) : rsum n (fun j => Fl c m k x j) = 0 :=
  rsum_zeros fun j _ => by
    unfold Fl
    rcases cnt_cases c k x j L.inj with ⟨i, h1, h2, _⟩ | ⟨_, h'⟩
    · exact absurd h2 (h i h1)
    · rw [h', Int.mul_zero]
theorem Lay.col_on (L : Lay n k c C m b) {i : Nat} (hi : i < k) : rsum n (fun j => Fl c m k j (c (i + 1))) = m := by
  rw [rsum_one (a := c i) (L.lt _ (Nat.le_of_lt hi)) fun j _ hne => ?_, L.fl_on hi]
  unfold Fl
  rcases cnt_cases c k j (c (i + 1)) L.inj with ⟨i', h1, h2, h3, _⟩ | ⟨_, h⟩
  · have := L.inj (i + 1) (i' + 1) hi h1 h3
    have : i = i' := Nat.succ.inj this
    subst this; exact absurd h2 hne
  · rw [h, Int.mul_zero]
theorem Lay.col_off (L : Lay n k c C m b) {x : Nat} (h : ∀ i, i < k → x ≠ c (i + 1)) : rsum n (fun j => Fl c m k j x) = 0 :=
  rsum_zeros fun j _ => by
    unfold Fl
    rcases cnt_cases c k j x L.inj with ⟨i, h1, _, h2, _⟩ | ⟨_, h'⟩
    · exact absurd h2 (h i h1)
    · rw [h', Int.mul_zero]
theorem Lay.value (L : Lay n k c C m b) (x : Nat) : rsum n (fun j => Fl c m k x j) - rsum n (fun i => Fl c m k i x) = if x = c k then -m else if x = c 0 then m else 0 := by
  have hk := L.k1
  by_cases q1 : x = c k
  · rw [if_pos q1, q1, L.row_off fun i hi e => absurd (L.inj k i (Nat.le_refl _) (Nat.le_of_lt hi) e) (by (first | lia | omega))]
    have := L.col_on (i := k - 1) (by (first | lia | omega))
    rw [Nat.sub_add_cancel hk] at this
    rw [this]; (first | lia | omega)
  · rw [if_neg q1]
    by_cases q2 : x = c 0
    · rw [if_pos q2, q2, L.row_on hk, L.col_off fun i hi e => absurd (L.inj 0 (i + 1) (Nat.zero_le _) hi e) (by (first | lia | omega))]; (first | lia | omega)
    · rw [if_neg q2]
      by_cases q3 : ∃ i, i < k ∧ x = c i
      · obtain ⟨i, hi, rfl⟩ := q3
        cases i with
        | zero => exact absurd rfl q2
        | succ i => rw [L.row_on hi, L.col_on (Nat.lt_of_succ_lt hi)]; (first | lia | omega)
      · rw [L.row_off fun i hi e => q3 ⟨i, hi, e⟩, L.col_off fun i hi e => ?_]
        · rfl
        · rcases Nat.lt_or_ge (i + 1) k with q | q
          · exact q3 ⟨i + 1, q, e⟩
          · have : i + 1 = k := by (first | lia | omega)
            rw [this] at e; exact q1 e
theorem mem_pts {c : Nat → Nat} {k v : Nat} : v ∈ (List.range (k + 1)).map c ↔ ∃ i, i ≤ k ∧ v = c i := by
  rw [List.mem_map]
  constructor
  · rintro ⟨i, h1, rfl⟩; exact ⟨i, Nat.le_of_lt_succ (List.mem_range.mp h1), rfl⟩
  · rintro ⟨i, h1, rfl⟩; exact ⟨i, List.mem_range.mpr (Nat.lt_succ_of_le h1), rfl⟩
theorem Lay.side0 (L : Lay n k c C m b) {S : Nat → Bool} (hS : SideOk n (fun u v => Fl c m k u v < C u v ∨ 0 < Fl c m k v u) (c 0) S) (v : Nat) (hv : v < n) : S v = decide (v ∈ (List.range (b + 1)).map c) := by
  have hbk := L.hb
  refine hS.eq (fun v => decide (v ∈ (List.range (b + 1)).map c)) (decide_eq_true (mem_pts.mpr ⟨0, Nat.zero_le _, rfl⟩)) (fun u v hu hv hx hr => ?_) (fun v hv hx => ?_) v hv
  · obtain ⟨i, hi, rfl⟩ := mem_pts.mp (of_decide_eq_true hx)
    refine decide_eq_true (mem_pts.mpr ?_)
    rcases hr with hr | hr
    · have h0 := L.fl_nn (c i) v
      obtain ⟨i', j, h1, h2, h3, h4, h5⟩ := L.on (c i) v (by (first | lia | omega))
      have e := L.inj i i' (by (first | lia | omega)) h1 h4
      subst e
      by_cases q2 : j ≤ b
      · exact ⟨j, q2, h5⟩
      · have e1 : i = b := by (first | lia | omega)
        have e2 : j = b + 1 := by (first | lia | omega)
        subst e1; subst e2; subst h5
        rw [L.fl_on L.hb, L.mb] at hr
        exact absurd hr (Int.lt_irrefl _)
    · obtain ⟨j, h1, h2, h3⟩ := L.fl_pos hr
      have := L.inj i (j + 1) (by (first | lia | omega)) h1 h3
      exact ⟨j, by (first | lia | omega), h2⟩
  · obtain ⟨i, hi, rfl⟩ := mem_pts.mp (of_decide_eq_true hx)
    clear hx hv
    induction i with
    | zero => exact .nil
    | succ i ih =>
      have h2 : i < k := by (first | lia | omega)
      refine .snoc (ih (Nat.le_of_succ_le hi)) (L.lt i (by (first | lia | omega))) (L.lt (i + 1) h2) (.inl ?_)
      rw [L.fl_on h2]; exact L.bf i hi
theorem Lay.sideK (L : Lay n k c C m b) (hm : 0 < m) {S : Nat → Bool} (hS : SideOk n (fun u v => Fl c m k u v < C u v ∨ 0 < Fl c m k v u) (c k) S) (v : Nat) (hv : v < n) : S v = decide (v ∈ (List.range (k + 1)).map c) := by
  refine hS.eq (fun v => decide (v ∈ (List.range (k + 1)).map c)) (decide_eq_true (mem_pts.mpr ⟨k, Nat.le_refl _, rfl⟩)) (fun u v hu hv hx hr => ?_) (fun v hv hx => ?_) v hv
  · refine decide_eq_true (mem_pts.mpr ?_)
    rcases hr with hr | hr
    · have h0 := L.fl_nn u v
      obtain ⟨i', j, h1, h2, h3, h4, h5⟩ := L.on u v (by (first | lia | omega))
      exact ⟨j, h2, h5⟩
    · obtain ⟨j, h1, h2, h3⟩ := L.fl_pos hr
      exact ⟨j, Nat.le_of_lt h1, h2⟩
  · obtain ⟨i, hi, rfl⟩ := mem_pts.mp (of_decide_eq_true hx)
    have back : ∀ d, d ≤ k → Rch n (fun u v => Fl c m k u v < C u v ∨ 0 < Fl c m k v u) (c k) (c (k - d)) := by
      intro d
      induction d with
      | zero => exact fun _ => .nil
      | succ d ih =>
        intro hd
        have h2 : k - (d + 1) < k := by (first | lia | omega)
        refine .snoc (ih (Nat.le_of_succ_le hd)) (L.lt _ (by (first | lia | omega))) (L.lt _ (by (first | lia | omega))) (.inr ?_)
        have := L.fl_on h2
        rw [show k - (d + 1) + 1 = k - d by (first | lia | omega)] at this
        rw [this]; exact hm
    have := back (k - i) (by (first | lia | omega))
    rw [show k - (k - i) = i by (first | lia | omega)] at this
    exact this
/-- steps on the chain's places, and the edges that they stand for -/
noncomputable def edgesOf (c : Nat → Nat) (st : List Edge) : List Edge := st.map fun e => (c e.1, c e.2.1, e.2.2)
structure Steps (k : Nat) (st : List Edge) : Prop where
  ok : ∀ e ∈ st, e.1 ≤ k ∧ e.2.1 ≤ k ∧ e.2.1 ≤ e.1 + 1 ∧ 0 ≤ e.2.2
theorem sum_nn : ∀ {l : List Int}, (∀ x ∈ l, 0 ≤ x) → 0 ≤ l.sum
  | [], _ => by simp
  | a :: r, h => by
    have := h a List.mem_cons_self
    have := sum_nn fun x hx => h x (List.mem_cons_of_mem a hx)
    simp; (first | lia | omega)
theorem cap_edges {st : List Edge} (hS : Steps k st) (hinj : ∀ i j, i ≤ k → j ≤ k → c i = c j → i = j) {i j : Nat} (hi : i ≤ k) (hj : j ≤ k) : capM (edgesOf c st) (c i) (c j) = capM st i j := by
  unfold capM edgesOf
  rw [List.filter_map, List.map_map]
  have : st.filter ((fun e : Edge => decide (e.1 = c i) && decide (e.2.1 = c j)) ∘ fun e => (c e.1, c e.2.1, e.2.2)) = st.filter fun e => decide (e.1 = i) && decide (e.2.1 = j) := by
    refine List.filter_congr fun e he => ?_
    obtain ⟨h1, h2, _⟩ := hS.ok e he
    have q1 : decide (c e.1 = c i) = decide (e.1 = i) := decide_eq_decide.mpr ⟨hinj _ _ h1 hi, fun e => by rw [e]⟩
    have q2 : decide (c e.2.1 = c j) = decide (e.2.1 = j) := decide_eq_decide.mpr ⟨hinj _ _ h2 hj, fun e => by rw [e]⟩
    simp only [Function.comp, q1, q2]
  rw [this]; rfl
theorem lay_of {st : List Edge} (hS : Steps k st) (lt : ∀ i, i ≤ k → c i < n) (inj : ∀ i j, i ≤ k → j ≤ k → c i = c j → i = j) (hb : b < k) (mb : capM st b (b + 1) = m) (le : ∀ i, i < k → m ≤ capM st i (i + 1)) (bf : ∀ i, i < b → m ≠ capM st i (i + 1)) : Lay n k c (capM (edgesOf c st)) m b where
  lt := lt
  inj := inj
  nn := fun u v => by
    unfold capM
    refine sum_nn fun x hx => ?_
    obtain ⟨e, he, rfl⟩ := List.mem_map.mp hx
    obtain ⟨e', he', rfl⟩ := List.mem_map.mp (List.mem_filter.mp he).1
    exact (hS.ok e' he').2.2.2
  on := fun u v h => by
    cases q : (edgesOf c st).filter fun e => decide (e.1 = u) && decide (e.2.1 = v) with
    | nil => unfold capM at h; rw [q] at h; exact absurd h (Int.lt_irrefl _)
    | cons e r =>
      have hm : e ∈ (edgesOf c st).filter fun e => decide (e.1 = u) && decide (e.2.1 = v) := by rw [q]; exact List.mem_cons_self
      obtain ⟨h1, h2⟩ := List.mem_filter.mp hm
      obtain ⟨e', he', rfl⟩ := List.mem_map.mp h1
      simp at h2
      obtain ⟨g1, g2, g3, _⟩ := hS.ok e' he'
      exact ⟨e'.1, e'.2.1, g1, g2, g3, h2.1.symm, h2.2.symm⟩
  hb := hb
  mb := by rw [cap_edges hS inj (Nat.le_of_lt hb) (j := b + 1) hb]; exact mb
  le := fun i hi => by rw [cap_edges hS inj (Nat.le_of_lt hi) (j := i + 1) hi]; exact le i hi
  bf := fun i hi => by
    have hi' : i < k := Nat.lt_trans hi hb
    rw [cap_edges hS inj (Nat.le_of_lt hi') (j := i + 1) hi']
    have := le i hi'
    have := bf i hi
    (first | lia | omega)
end MP.L103

end
section
namespace MP.L103
open MP
open PySem (PyData)
theorem mod_nat (x : Int) {n : Nat} (hn : 1 ≤ n) : ∃ k : Nat, x % (n : Int) = (k : Nat) ∧ k < n :=
  ⟨(x % (n : Int)).toNat, by have := Int.emod_nonneg x (show (n : Int) ≠ 0 by (first | lia | omega)); (first | lia | omega), by have := Int.emod_lt_of_pos x (show (0 : Int) < n by (first | lia | omega)); (first | lia | omega)⟩
noncomputable def cell (ns : List Int) (i : Nat) : Int := if i < ns.length then ns[i]?.getD 0 else i
theorem cell_spec {G : Par} {i : Nat} {h : H} {Q : V → H → Prop} (hQ : Q (.int (cell G.ns i)) h) : runFn G law_cell_fn [.scr, iv i] h Q := by
  refine runFn_of rfl ?_
  simp [law_cell_fn, law_cell_body]
  unfold cell at hQ
  by_cases q : i < G.ns.length
  · simp only [q, if_true] at hQ ⊢
    rw [getIdx_nat, List.getElem?_map, List.getElem?_eq_getElem q]
    rw [List.getElem?_eq_getElem q] at hQ
    simpa using hQ
  · simp only [q, if_false] at hQ ⊢
    exact hQ
/-- a comprehension whose every turn makes a new object -/
theorem compW_objs {turn : V → H → (Option V → H → Prop) → Prop} {kp : Option (Nat × List V)} {Q : List V → H → Prop} {h : H} (o : Nat → O) (hst : stays kp h) {xs : List V}
    (step : ∀ (i : Nat) v, xs[i]? = some v → ∀ h' (K : Option V → H → Prop), Ext h h' → (∀ r, h' r = Option.none → K (some (.ref r)) (h'.set r (o i))) → turn v h' K)
    (fin : ∀ ys h', Ext h h' → ys.length = xs.length → (∀ i, i < xs.length → ∃ r, ys[i]? = some (.ref r) ∧ h' r = some (o i)) → Q ys h') :
    compW turn kp xs [] h Q := by
  suffices H : ∀ (r d ys : List V) (h' : H), xs = d ++ r → Ext h h' → ys.length = d.length → (∀ i, i < d.length → ∃ r, ys[i]? = some (.ref r) ∧ h' r = some (o i)) → compW turn kp r ys h' Q from H xs [] [] h rfl (Ext.refl h) rfl (fun i hi => absurd hi (Nat.not_lt_zero _))
  intro r
  induction r with
  | nil =>
    intro d ys h' e hx hl hr
    rw [List.append_nil] at e; subst e
    exact fin ys h' hx hl hr
  | cons v r ih =>
    intro d ys h' e hx hl hr
    refine ⟨stays_ext hst hx, step d.length v (by rw [e]; simp) h' _ hx fun b hb => ?_⟩
    refine ih (d ++ [v]) (ys ++ [.ref b]) _ (by rw [e]; simp) (hx.trans (Ext.new _ hb)) (by simp [hl]) fun i hi => ?_
    rcases Nat.lt_or_ge i d.length with q | q
    · obtain ⟨r', h1, h2⟩ := hr i q
      exact ⟨r', by rw [List.getElem?_append_left (by rw [hl]; exact q)]; exact h1, Ext.new _ hb _ _ h2⟩
    · have : i = d.length := by simp at hi; (first | lia | omega)
      subst this
      exact ⟨b, by rw [← hl]; simp, by simp⟩
theorem up1 (k : Nat) : (k : Int) + 1 = ((k + 1 : Nat) : Int) := by (first | lia | omega)
theorem chain_spec {G G1 : Par} {n : Nat} {h : H} {Q : V → H → Prop} (kcell : ∀ vs h Q, runFn G1 law_cell_fn vs h Q → G.Γ "_law_cell" vs h Q) (n2 : 2 ≤ n) (n6 : n ≤ 6)
    (hQ : ∀ (k : Nat) (c : Nat → Nat), 1 ≤ k → k < n → (∀ i, i ≤ k → c i < n) → (∀ i j, i ≤ k → j ≤ k → c i = c j → i = j) → Ret h Q (arr (k + 1) fun i => iv (c i))) : runFn G law_chain_fn [.scr, iv n] h Q := by
  refine runFn_of rfl ?_
  simp [law_chain_fn, law_chain_body]
  refine kcell _ _ _ (cell_spec (i := 1) ?_)
  obtain ⟨k0, hk0, hk1⟩ := mod_nat (cell G1.ns 1) (show 1 ≤ n - 1 by (first | lia | omega))
  have e1 : ((n - 1 : Nat) : Int) = (n : Int) - 1 := by (first | lia | omega)
  rw [e1] at hk0
  obtain ⟨k, hk, hk2, hk3⟩ : ∃ k : Nat, 1 + (k0 : Int) = (k : Nat) ∧ 1 ≤ k ∧ k < n := ⟨1 + k0, by (first | lia | omega), by (first | lia | omega), by (first | lia | omega)⟩
  have n1 : (0 : Int) < (n : Int) - 1 := by (first | lia | omega)
  have l2 : inLim 2 := by unfold inLim; (first | lia | omega)
  have ln : inLim (n : Int) := by unfold inLim; (first | lia | omega)
  have n1' : (1 : Int) < (n : Int) := by (first | lia | omega)
  have n1'' : 1 < n := by (first | lia | omega)
  simp [n1, n1', n1'', hk0, hk]
  refine kcell _ _ _ (cell_spec (i := 2) ?_)
  obtain ⟨t, ht, ht2⟩ := mod_nat (cell G1.ns 2) (show 1 ≤ 2 * n by (first | lia | omega))
  have e2 : ((2 * n : Nat) : Int) = 2 * (n : Int) := by (first | lia | omega)
  rw [e2] at ht
  have n0 : (0 : Int) < (n : Int) := by (first | lia | omega)
  have n0' : 0 < n := by (first | lia | omega)
  have n0'' : (0 : Int) < 2 * (n : Int) := by (first | lia | omega)
  have kl : inLim ((k : Int) + 1) := by unfold inLim; (first | lia | omega)
  simp [l2, ln, ht, n0, n0', n0'']
  have go : ∀ x : Nat → Int, (∀ i, i ≤ k → ∀ j, j ≤ k → x i % (n : Int) = x j % (n : Int) → i = j) → Ret h Q (arr (k + 1) fun i => .int (x i % (n : Int))) := by
    intro x hx
    have hc : ∀ i, (((x i % (n : Int)).toNat : Nat) : Int) = x i % (n : Int) := fun i => by have := Int.emod_nonneg (x i) (show (n : Int) ≠ 0 by (first | lia | omega)); (first | lia | omega)
    have := hQ k (fun i => (x i % (n : Int)).toNat) hk2 hk3 (fun i _ => by have := hc i; have := Int.emod_lt_of_pos (x i) n0; (first | lia | omega)) (fun i j hi hj e => hx i hi j hj (by rw [← hc i, ← hc j, e]))
    have e : (fun i => iv ((x i % (n : Int)).toNat)) = fun i => V.int (x i % (n : Int)) := by funext i; show V.int _ = _; rw [hc]
    rw [e] at this
    exact this
  have inj : ∀ (a b : Int) (i j : Nat), i ≤ k → j ≤ k → a % (n : Int) = b % (n : Int) → (a - b = (i : Int) - j ∨ a - b = (j : Int) - i) → i = j := by
    intro a b i j hi hj e hab
    have h1 : (a - b) % (n : Int) = 0 := by rw [Int.sub_emod, e, Int.sub_self, Int.zero_emod]
    obtain ⟨q, hq⟩ := Int.dvd_of_emod_eq_zero h1
    rcases Int.lt_trichotomy q 0 with z | z | z
    · have : (n : Int) * q ≤ (n : Int) * (-1) := Int.mul_le_mul_of_nonneg_left (by (first | lia | omega)) (by (first | lia | omega))
      (first | lia | omega)
    · subst z; (first | lia | omega)
    · have : (n : Int) * 1 ≤ (n : Int) * q := Int.mul_le_mul_of_nonneg_left (by (first | lia | omega)) (by (first | lia | omega))
      (first | lia | omega)
  rw [up1] at kl ⊢
  split
  · refine ⟨kl, ?_⟩
    rw [upTo_arr]
    refine compW_arr (fun i => .int (((t : Int) + (i : Nat)) % (n : Int))) (fun i hi K hK => ?_) ⟨trivial, fun r hr => ?_⟩
    · simp [n0, n0']; exact hK
    · exact go (fun i => (t : Int) + (i : Nat)) (fun i hi j hj e => inj _ _ i j hi hj e (by (first | lia | omega))) r _ hr (Ext.new _ hr) (by simp)
  · refine ⟨kl, ?_⟩
    rw [upTo_arr]
    refine compW_arr (fun i => .int (((t : Int) - (i : Nat)) % (n : Int))) (fun i hi K hK => ?_) ⟨trivial, fun r hr => ?_⟩
    · simp [n0, n0']; exact hK
    · exact go (fun i => (t : Int) - (i : Nat)) (fun i hi j hj e => inj _ _ i j hi hj e (by (first | lia | omega))) r _ hr (Ext.new _ hr) (by simp)
/-- what _law_steps makes -/
theorem steps_spec {G G1 : Par} {k : Nat} {h : H} {Q : V → H → Prop} (kcell : ∀ vs h Q, runFn G1 law_cell_fn vs h Q → G.Γ "_law_cell" vs h Q) (k6 : k ≤ 6)
    (hQ : ∀ (ea : Nat) (xs : List V) (st : List Edge) h', Ext h h' → h' ea = some (.list xs) → EA h' xs st → Steps k st → Q (.ref ea) h') : runFn G law_steps_fn [.scr, iv k] h Q := by
  refine runFn_of rfl ?_
  have kl : inLim (k : Int) := by unfold inLim; (first | lia | omega)
  simp [law_steps_fn, law_steps_body, kl]
  refine compW_objs (kp := Option.none) (fun i => .tup [iv i, iv (i + 1), .int (cell G1.ns (3 + i) % 8)]) trivial (fun i v hi h' K hx hK => ?_) fun ys h1 x1 hl hr => ?_
  · have hik : i < k := by have := (List.getElem?_eq_some_iff.mp hi).1; simpa using this
    rw [arr_get _ hik] at hi; cases hi
    simp
    rw [show (3 + (i : Int)) = ((3 + i : Nat) : Int) by (first | lia | omega)]
    refine kcell _ _ _ (cell_spec ?_)
    simp [alloc]
    exact hK
  refine ⟨trivial, fun ea hea => ?_⟩
  have A1 : EA h1 ys ((List.range k).map fun i => (i, i + 1, cell G1.ns (3 + i) % 8)) := by
    refine ⟨by rw [hl]; simp, fun i e he => ?_⟩
    have hik : i < k := by have := (List.getElem?_eq_some_iff.mp he).1; simpa using this
    obtain ⟨r, h2, h3⟩ := hr i (by simpa using hik)
    simp [hik] at he; subst he
    exact ⟨r, h2, h3⟩
  have S1 : Steps k ((List.range k).map fun i => (i, i + 1, cell G1.ns (3 + i) % 8)) := ⟨fun e he => by
    obtain ⟨i, hi, rfl⟩ := List.mem_map.mp he
    have hi := List.mem_range.mp hi
    exact ⟨Nat.le_of_lt hi, hi, Nat.le_refl _, Int.emod_nonneg _ (by (first | lia | omega))⟩⟩
  simp
  refine kcell _ _ _ (cell_spec (i := 8) ?_)
  obtain ⟨m, hm, hmn⟩ := mod_nat (cell G1.ns 8) (show 1 ≤ 7 by (first | lia | omega))
  have hm' : cell G1.ns 8 % 7 = (m : Nat) := hm
  have ml : inLim (m : Int) := by unfold inLim; (first | lia | omega)
  simp [hm', ml]
  refine forW_arr (fun i σ h' => σ "script" = some .scr ∧ σ "k" = some (iv k) ∧ σ "steps" = some (.ref ea) ∧ Ext h h' ∧ ∃ xs st, h' ea = some (.list xs) ∧ EA h' xs st ∧ Steps k st ∧ xs.length = k + i) ?_ ?_ ?_
  · refine ⟨by simp, by simp, by simp, x1.trans (Ext.new _ hea), ys, _, by simp, A1.mono (Ext.new _ hea), S1, ?_⟩
    rw [hl]; simp
  · rintro i σ h2 K hi ⟨e1, e2, e3, hx, xs, st, e4, A, S, el⟩ hK
    have l3 : inLim 3 := by unfold inLim; (first | lia | omega)
    have li : inLim (i : Int) := by unfold inLim; (first | lia | omega)
    have k0 : (0 : Int) < (k : Int) + 1 := by (first | lia | omega)
    obtain ⟨u, hu, hun⟩ := mod_nat (cell G1.ns (9 + 3 * i)) (show 1 ≤ k + 1 by (first | lia | omega))
    obtain ⟨v, hv, hvn⟩ := mod_nat (cell G1.ns (10 + 3 * i)) (show 1 ≤ k + 1 by (first | lia | omega))
    have hu' : cell G1.ns (9 + 3 * i) % ((k : Int) + 1) = (u : Nat) := hu
    have hv' : cell G1.ns (10 + 3 * i) % ((k : Int) + 1) = (v : Nat) := hv
    simp [law_steps_b1, e1, e2, e3, l3, li]
    rw [show (9 + 3 * (i : Int)) = ((9 + 3 * i : Nat) : Int) by (first | lia | omega)]
    refine kcell _ _ _ (cell_spec ?_)
    simp [k0, hu']
    rw [show (10 + 3 * (i : Int)) = ((10 + 3 * i : Nat) : Int) by (first | lia | omega)]
    refine kcell _ _ _ (cell_spec ?_)
    simp [k0, hv', e1, e2, e3, l3, li, e4]
    rw [show (11 + 3 * (i : Int)) = ((11 + 3 * i : Nat) : Int) by (first | lia | omega)]
    refine kcell _ _ _ (cell_spec ?_)
    have hmin : min (v : Int) ((u : Int) + 1) = ((min v (u + 1) : Nat) : Int) := by (first | lia | omega)
    simp [alloc, hmin]
    intro b hb
    have heb : ea ≠ b := ne_of_none e4 hb
    simp [heb, e4]
    have A2 : EA (h2.set b (.tup [iv u, iv (min v (u + 1)), .int (cell G1.ns (11 + 3 * i) % 8)])) (xs ++ [.ref b]) (st ++ [(u, min v (u + 1), cell G1.ns (11 + 3 * i) % 8)]) := (A.mono (Ext.new _ hb)).snoc (by simp)
    refine ⟨by rw [el]; unfold lim; (first | lia | omega), hK _ _ ⟨by simp [e1], by simp [e2], by simp [e3], (hx.trans (Ext.new _ hb)).set _ (x1.none hea), xs ++ [.ref b], st ++ [(u, min v (u + 1), cell G1.ns (11 + 3 * i) % 8)], by simp, A2.set (l := xs) (by simp [heb, e4]), ⟨fun e he => ?_⟩, by simp [el]; (first | lia | omega)⟩⟩
    rcases List.mem_append.mp he with q | q
    · exact S.ok e q
    · simp at q; subst q
      exact ⟨Nat.le_of_lt_succ hun, Nat.le_trans (Nat.min_le_left _ _) (Nat.le_of_lt_succ hvn), Nat.min_le_right _ _, Int.emod_nonneg _ (by (first | lia | omega))⟩
  · rintro σ h2 ⟨e1, e2, e3, hx, xs, st, e4, A, S, el⟩
    simp [e3]
    exact hQ ea xs st h2 hx e4 A S
/-- the widths of the stretches -/
theorem widths_spec {G : Par} {k a : Nat} {xs : List V} {st : List Edge} {h : H} {Q : V → H → Prop} (k6 : k ≤ 6) (ha : h a = some (.list xs)) (A : EA h xs st)
    (hQ : Ret h Q (arr k fun i => .int (capM st i (i + 1)))) : runFn G law_widths_fn [.ref a, iv k] h Q := by
  refine runFn_of rfl ?_
  have kl : inLim (k : Int) := by unfold inLim; (first | lia | omega)
  simp [law_widths_fn, law_widths_body, kl]
  refine compW_ext (kp := Option.none) iv (fun i => .int (capM st i (i + 1))) trivial ?_ ?_
  · intro i hi h' K hx hK
    have ha' := hx _ _ ha
    simp [ha']
    refine compW_edges (kp := some (a, xs)) (fun e => if decide (e.1 = i) && decide (e.2.1 = i + 1) then some (.int e.2.2) else Option.none) ha' (fun e b hb K2 hK2 => ?_) xs st [] (A.mono hx) ⟨ha', fun g hg => ?_⟩
    · simp [hb]
      by_cases c1 : e.1 = i
      · by_cases c2 : e.2.1 = i + 1
        · have c2' : (e.2.1 : Int) = (i : Int) + 1 := by (first | lia | omega)
          simpa [c1, c2, c2'] using hK2
        · have c2' : ¬ ((e.2.1 : Int) = (i : Int) + 1) := by (first | lia | omega)
          simpa [c1, c2, c2'] using hK2
      · have c1' : ¬ ((e.1 : Int) = (i : Int)) := by (first | lia | omega)
        simpa [c1, c1'] using hK2
    · rw [List.nil_append, filterMap_if]
      simp
      exact hK _ (Ext.new _ hg)
  · intro h' hx
    exact ⟨trivial, fun r hr => hQ r _ (hx.none hr) (hx.trans (Ext.new _ hr)) (by simp)⟩
theorem eqv_pair (a b u v : Nat) : PyData.eqv (.tuple [.int (a : Nat), .int (b : Nat)]) (.tuple [.int (u : Nat), .int (v : Nat)]) = (decide (a = u) && decide (b = v)) := by
  have e : PyData.eqv (.tuple [.int (a : Nat), .int (b : Nat)]) (.tuple [.int (u : Nat), .int (v : Nat)]) = (((a : Int) == (u : Int)) && (((b : Int) == (v : Int)) && true)) := rfl
  have z : ∀ x y : Nat, ((x : Int) == (y : Int)) = decide (x = y) := fun x y => by
    by_cases q : x = y
    · subst q; simp
    · have : ¬ ((x : Int) = (y : Int)) := by (first | lia | omega)
      simp [q, this]
  rw [e, z, z, Bool.and_true]
noncomputable def pairD (c : Nat → Nat) (i : Nat) : PyData := .tuple [.int (c i : Nat), .int (c (i + 1) : Nat)]
theorem table_spec {G : Par} {n k ca : Nat} {c : Nat → Nat} {m : Int} {h : H} {Q : V → H → Prop} (n6 : n ≤ 6) (k6 : k ≤ 6) (inj : ∀ i j, i ≤ k → j ≤ k → c i = c j → i = j) (hc : h ca = some (.list (arr (k + 1) fun i => iv (c i))))
    (hQ : ∀ (t : Nat) (rows : Nat → Nat) h', Ext h h' → Tab h' t n rows (Fl c m k) → Q (.ref t) h') : runFn G law_table_fn [iv n, .ref ca, .int m] h Q := by
  refine runFn_of rfl ?_
  have kl : inLim (k : Int) := by unfold inLim; (first | lia | omega)
  have nl : inLim (n : Int) := by unfold inLim; (first | lia | omega)
  have e1 : (k : Int) + 1 - 1 = (k : Int) := by (first | lia | omega)
  simp [law_table_fn, law_table_body, hc, e1, kl]
  refine compW_objs (kp := Option.none) (fun i => .tup [iv (c i), iv (c (i + 1))]) trivial (fun i v hi h' K hx hK => ?_) fun ps h1 x1 hl hr => ?_
  · have hik : i < k := by have := (List.getElem?_eq_some_iff.mp hi).1; simpa using this
    rw [arr_get _ hik] at hi; cases hi
    simp [hx _ _ hc, getIdx_arr, getIdx_arr1, show i < k + 1 by (first | lia | omega), show i + 1 < k + 1 by (first | lia | omega), hik, alloc]
    exact hK
  refine ⟨trivial, fun pa hpa => ?_⟩
  have x2 : Ext h1 (h1.set pa (.list ps)) := Ext.new _ hpa
  have rp : Rd (h1.set pa (.list ps)) (.ref pa) (.list ((List.range k).map (pairD c))) := by
    refine .list (show (h1.set pa (.list ps)) pa = some (.list ps) by simp) (RdAll.of_get (by rw [hl]; simp) fun i v d g1 g2 => ?_)
    have hik : i < k := by have := (List.getElem?_eq_some_iff.mp g2).1; simpa using this
    obtain ⟨r, g3, g4⟩ := hr i (by simpa using hik)
    rw [g3] at g1; cases g1
    simp [hik] at g2; subst g2
    exact .tup (x2 _ _ g4) (.cons (.int _) (.cons (.int _) .nil))
  generalize h1.set pa (.list ps) = h2 at x2 rp ⊢
  simp [nl]
  refine compW_rows2 (m := n) (kp := Option.none) iv (fun u v => .int (Fl c m k u v)) trivial ?_ ?_
  · intro u hu h' K hx hK
    try simp [nl]
    refine compW_ext (kp := Option.none) iv (fun v => .int (Fl c m k u v)) trivial ?_ ?_
    · intro v hv h'' K2 hx2 hK2
      simp [alloc]
      intro b hb
      have x3 := Ext.new (.tup [iv u, iv v]) hb
      refine ⟨.tuple [.int (u : Nat), .int (v : Nat)], _, .tup (by simp) (.cons (.int _) (.cons (.int _) .nil)), rp.mono (hx.trans (hx2.trans x3)), (by decide : 1 ≤ 8), ?_, ?_⟩
      · refine depthAll_le fun d hd => ?_
        obtain ⟨i, _, rfl⟩ := List.mem_map.mp hd
        exact (by decide : 1 ≤ 8)
      · have ea : (((List.range k).map (pairD c)).any fun y => PyData.eqv y (.tuple [.int (u : Nat), .int (v : Nat)])) = decide (∃ i, i < k ∧ c i = u ∧ c (i + 1) = v) := by
          rw [Bool.eq_iff_iff, List.any_eq_true, decide_eq_true_iff]
          constructor
          · rintro ⟨d, hd, he⟩
            obtain ⟨i, hi, rfl⟩ := List.mem_map.mp hd
            rw [show pairD c i = .tuple [.int (c i : Nat), .int (c (i + 1) : Nat)] from rfl, eqv_pair] at he
            simp at he
            exact ⟨i, List.mem_range.mp hi, he⟩
          · rintro ⟨i, hi, h3, h4⟩
            refine ⟨pairD c i, List.mem_map.mpr ⟨i, List.mem_range.mpr hi, rfl⟩, ?_⟩
            rw [show pairD c i = .tuple [.int (c i : Nat), .int (c (i + 1) : Nat)] from rfl, eqv_pair, h3, h4]; simp
        rw [ea]
        have hv : Fl c m k u v = if (∃ i, i < k ∧ c i = u ∧ c (i + 1) = v) then m else 0 := by
          unfold Fl
          rcases cnt_cases c k u v inj with ⟨i, g1, g2, g3, g4⟩ | ⟨g1, g2⟩
          · rw [g4, if_pos ⟨i, g1, g2.symm, g3.symm⟩, Int.mul_one]
          · rw [g2, if_neg (fun ⟨i, q1, q2⟩ => g1 i q1 q2), Int.mul_zero]
        have := hK2 _ x3
        rw [hv] at this
        by_cases q : ∃ i, i < k ∧ c i = u ∧ c (i + 1) = v
        · rw [if_pos q] at this
          simp [q]; exact this
        · rw [if_neg q] at this
          simp [q]; exact this
    · intro h'' hx2
      exact ⟨trivial, fun r hr => hK r _ (hx2.none hr) (hx2.trans (Ext.new _ hr)) (by simp)⟩
  · intro rows h3 x3 hr3 hi3
    refine ⟨trivial, fun t ht => ?_⟩
    refine hQ t rows _ (x1.trans (x2.trans (x3.trans (Ext.new _ ht)))) ⟨by simp, fun i hi => ?_, hi3, fun i hi e => ?_⟩
    · rw [H.set_other _ _ (ne_of_none (hr3 i hi).2 ht)]; exact (hr3 i hi).2
    · exact ne_of_none (hr3 i hi).2 ht e
end MP.L103

end
section
namespace MP.L103
open MP
open PySem (PyData)
theorem getIdx_arr0 {n : Nat} (f : Nat → V) (h : 0 < n) : getIdx (arr n f) 0 = some (f 0) := getIdx_arr (i := 0) f h
/-- what stands after the first part -/
structure Mid (σ : Env) (h : H) (n k : Nat) (c : Nat → Nat) (es : List Edge) (m : Int) (b ca ea ka wa fa : Nat) (xs : List V) (wr fr : Nat → Nat) : Prop where
  vn : σ "n" = some (iv n)
  vc : σ "chain" = some (.ref ca)
  vk : σ "k" = some (iv k)
  ve : σ "edges" = some (.ref ea)
  vt : σ "kept" = some (.ref ka)
  vm : σ "m" = some (.int m)
  vb : σ "border" = some (iv b)
  vw : σ "want" = some (.ref wa)
  vf : σ "flow" = some (.ref fa)
  hc : h ca = some (.list (arr (k + 1) fun i => iv (c i)))
  he : h ea = some (.list xs)
  hk : h ka = some (.list xs)
  A : EA h xs es
  W : Tab h wa n wr (Fl c m k)
  F : Tab h fa n fr (Fl c m k)
  L : Lay n k c (capM es) m b
  ok : okEdges n es
  n6 : n ≤ 6
theorem Steps.lt {k n : Nat} {c : Nat → Nat} {st : List Edge} (S : Steps k st) (lt : ∀ i, i ≤ k → c i < n) : okEdges n (edgesOf c st) := fun e he => by
  obtain ⟨e', he', rfl⟩ := List.mem_map.mp he
  obtain ⟨h1, h2, _⟩ := S.ok e' he'
  exact ⟨lt _ h1, lt _ h2⟩
theorem idx_facts {k : Nat} (w : Nat → Int) (k1 : 1 ≤ k) : ∃ m b, minL ((List.range k).map w) = m ∧ m ∈ (List.range k).map w ∧ ((List.range k).map w).idxOf m = b ∧ b < k ∧ w b = m ∧ (∀ i, i < k → m ≤ w i) ∧ ∀ i, i < b → m ≠ w i := by
  have hne : (List.range k).map w ≠ [] := by
    intro e; rw [List.map_eq_nil_iff, List.range_eq_nil] at e; (first | lia | omega)
  have hm := minL_mem hne
  have hlt := List.idxOf_lt_length_iff.mpr hm
  refine ⟨_, _, rfl, hm, rfl, by simpa using hlt, ?_, fun i hi => minL_le (List.mem_map.mpr ⟨i, List.mem_range.mpr hi, rfl⟩), fun i hi e => ?_⟩
  · have := List.getElem_idxOf hlt
    rw [List.getElem_map, List.getElem_range] at this; exact this
  · have := List.not_of_lt_findIdx (p := fun x => x == minL ((List.range k).map w)) (xs := (List.range k).map w) (i := i) hi
    simp [e] at this
theorem p1_ok {G G1 G2 G3 G4 G5 G6 G7 G8 G9 G10 G11 : Par} {h0 : H} {K : Flow → Env → H → Prop}
    (kcell : ∀ vs h Q, runFn G1 law_cell_fn vs h Q → G.Γ "_law_cell" vs h Q)
    (kchain : ∀ vs h Q, runFn G2 law_chain_fn vs h Q → G.Γ "_law_chain" vs h Q) (kcell2 : ∀ vs h Q, runFn G3 law_cell_fn vs h Q → G2.Γ "_law_cell" vs h Q)
    (ksteps : ∀ vs h Q, runFn G4 law_steps_fn vs h Q → G.Γ "_law_steps" vs h Q) (kcell3 : ∀ vs h Q, runFn G5 law_cell_fn vs h Q → G4.Γ "_law_cell" vs h Q)
    (kwidths : ∀ vs h Q, runFn G6 law_widths_fn vs h Q → G.Γ "_law_widths" vs h Q)
    (ktable : ∀ vs h Q, runFn G7 law_table_fn vs h Q → G.Γ "_law_table" vs h Q)
    (kmax : ∀ vs h Q, runFn G8 Core.max_flow_fn vs h Q → G.Γ "max_flow" vs h Q) (kct : ∀ vs h Q, runFn G9 Core.capacity_table_fn vs h Q → G8.Γ "capacity_table" vs h Q)
    (kaug : ∀ vs h Q, runFn G10 Core.augmenting_path_fn vs h Q → G8.Γ "augmenting_path" vs h Q) (kpath : ∀ vs h Q, runFn G11 Core.path_to_fn vs h Q → G10.Γ "path_to" vs h Q)
    (hK : ∀ σ h n k c es m b ca ea ka wa fa xs wr fr, Mid σ h n k c es m b ca ea ka wa fa xs wr fr → K .next σ h) :
    execs G law_p1_body (bindP ["script"] [.scr]) h0 K := by
  simp [law_p1_body]
  refine kcell _ _ _ (cell_spec (i := 0) ?_)
  obtain ⟨n, hn, n2, n6⟩ : ∃ n : Nat, 2 + cell G1.ns 0 % 5 = (n : Nat) ∧ 2 ≤ n ∧ n ≤ 6 := ⟨(2 + cell G1.ns 0 % 5).toNat, by (first | lia | omega), by (first | lia | omega), by (first | lia | omega)⟩
  simp [hn]
  refine kchain _ _ _ (chain_spec kcell2 n2 n6 fun k c k1 kn lt inj ca h1 hca x1 ec => ?_)
  have ek : (k : Int) + 1 - 1 = (k : Int) := by (first | lia | omega)
  simp [ec, ek]
  refine ksteps _ _ _ (steps_spec kcell3 (by (first | lia | omega)) fun sa ss st h2 x2 hsa A0 S => ?_)
  have ec2 := x2 _ _ ec
  simp [hsa]
  refine compW_objs (kp := some (sa, ss)) (fun i => .tup [iv (c (st[i]?.getD (0, 0, 0)).1), iv (c (st[i]?.getD (0, 0, 0)).2.1), .int (st[i]?.getD (0, 0, 0)).2.2]) hsa (fun i v hi h' K' hx hK' => ?_) fun xs h3 x3 hl hr => ?_
  · have hil : i < st.length := by have := (List.getElem?_eq_some_iff.mp hi).1; rw [A0.1] at this; exact this
    obtain ⟨b, g1, g2⟩ := A0.2 i _ (List.getElem?_eq_getElem hil)
    rw [g1] at hi; cases hi
    have g2 := hx _ _ g2
    obtain ⟨o1, o2, _⟩ := S.ok _ (List.getElem_mem hil)
    rw [List.getElem?_eq_getElem hil] at hK'
    simp only [Option.getD_some] at hK'
    generalize st[i] = e at *
    have o1' : e.1 < k + 1 := Nat.lt_succ_of_le o1
    have o2' : e.2.1 < k + 1 := Nat.lt_succ_of_le o2
    simp [hx _ _ ec2, g2, getIdx_arr, o1', o2', alloc]
    exact hK'
  refine ⟨x3 _ _ hsa, fun ea hea => ?_⟩
  have A1 : EA h3 xs (edgesOf c st) := by
    refine ⟨by rw [hl, A0.1]; simp [edgesOf], fun i e he => ?_⟩
    have hil : i < st.length := by have := (List.getElem?_eq_some_iff.mp he).1; simpa [edgesOf] using this
    obtain ⟨r, g1, g2⟩ := hr i (by rw [A0.1]; exact hil)
    refine ⟨r, g1, ?_⟩
    simp [edgesOf, List.getElem?_eq_getElem hil] at he g2
    subst he
    exact g2
  have x4 := Ext.new (.list xs) hea
  have ee : (h3.set ea (.list xs)) ea = some (.list xs) := by simp
  generalize h3.set ea (.list xs) = h4 at x4 ee ⊢
  simp [ee, alloc]
  intro ka hka
  have x5 := Ext.new (.list xs) hka
  have ekk : (h4.set ka (.list xs)) ka = some (.list xs) := by simp
  generalize h4.set ka (.list xs) = h5 at x5 ekk ⊢
  have y5 : Ext h2 h5 := x3.trans (x4.trans x5)
  refine kwidths _ _ _ (widths_spec (k := k) (by (first | lia | omega)) (y5 _ _ hsa) (A0.mono y5) fun wd h6 _ x6 ew => ?_)
  simp [ew]
  obtain ⟨m, b, hm, hmem, hb, bk, wb, wle, wbf⟩ := idx_facts (fun i => capM st i (i + 1)) k1
  refine ints1K_some _ _ (List.ne_nil_of_mem hmem) ?_
  rw [hm]
  simp [ew, hb]
  refine ⟨List.mem_map.mp hmem |>.imp fun i hi => ⟨List.mem_range.mp hi.1, hi.2⟩, ?_⟩
  have L : Lay n k c (capM (edgesOf c st)) m b := lay_of S lt inj bk wb wle wbf
  have y6 : Ext h1 h6 := x2.trans (y5.trans x6)
  refine ktable _ _ _ (table_spec n6 (by (first | lia | omega)) inj (y6 _ _ ec) fun wa wr h7 x7 TW => ?_)
  have ec7 := x7 _ _ (y6 _ _ ec)
  have k0 : 0 < k + 1 := Nat.succ_pos k
  have kk : k < k + 1 := Nat.lt_succ_self k
  simp [ec7, getIdx_arr0, getIdx_arr, k0, kk]
  have y7 : Ext h4 h7 := x5.trans (x6.trans x7)
  have A7 : EA h7 xs (edgesOf c st) := A1.mono (x4.trans y7)
  refine kmax _ _ _ (max_flow_spec (Inv n k c (capM (edgesOf c st)) m) kct kaug kpath (by (first | lia | omega)) (lt 0 (Nat.zero_le _)) (lt k (Nat.le_refl _)) (fun e => by have := inj 0 k (Nat.zero_le _) (Nat.le_refl _) e; (first | lia | omega)) (A7.rd (y7 _ _ ee)) (S.lt lt)
    (fun M hM => .inl hM) (fun M I => L.pos I) (fun M M' prev q k' c' m' I B C k1' hm' hle hex he => L.step I B C hle hex he) fun M prev q fa fr h8 I B htq x8 _ TF => ?_)
  have TF' := TF.congr (L.done I B htq)
  refine eqW_same TF'.rd (TW.ext x8).rd (depth_tab _ _) ?_
  simp
  exact hK _ _ n k c (edgesOf c st) m b ca ea ka wa fa xs wr fr ⟨by simp, by simp, by simp, by simp, by simp, by simp, by simp, by simp, by simp, x8 _ _ ec7, (y7.trans x8) _ _ ee, ((x6.trans x7).trans x8) _ _ ekk, A7.mono x8, TW.ext x8, TF', L, S.lt lt, n6⟩
end MP.L103

end
section
namespace MP.L103
open MP
open PySem (PyData)
theorem rd_bools {h : H} {a n : Nat} {S : Nat → Bool} (e : h a = some (.list (arr n fun v => .bool (S v)))) : Rd h (.ref a) (.list ((List.range n).map fun v => .bool (S v))) := by
  refine .list e (RdAll.of_get (by simp) fun i v d h1 h2 => ?_)
  by_cases hi : i < n
  · rw [arr_get _ hi] at h1
    simp [hi] at h2
    cases h1; rw [← h2]; exact .bool _
  · rw [List.getElem?_eq_none (by simp; exact Nat.le_of_not_lt hi)] at h1; cases h1
theorem depth_bools (n : Nat) (S : Nat → Bool) : (PyData.list ((List.range n).map fun v => .bool (S v))).depth ≤ 8 := by
  have := depthAll_le (k := 0) (ds := (List.range n).map fun v => PyData.bool (S v)) (fun d hd => by obtain ⟨i, _, rfl⟩ := List.mem_map.mp hd; exact Nat.le_refl _)
  exact Nat.le_trans (Nat.succ_le_succ this) (by decide)
theorem depth_ivals (n : Nat) (f : Nat → Int) : PyData.depthAll ((List.range n).map fun v => .int (f v)) ≤ 8 :=
  Nat.le_trans (depthAll_le (k := 0) fun d hd => by obtain ⟨i, _, rfl⟩ := List.mem_map.mp hd; exact Nat.le_refl _) (by decide)
/-- a point in a list of points -/
theorem in_pts {h : H} {a j v : Nat} {c : Nat → Nat} {Q : Bool → Prop} (e : h a = some (.list (arr j fun i => iv (c i)))) (hQ : Q (decide (v ∈ (List.range j).map c))) : inW (iv v) (.ref a) h Q := by
  refine ⟨.int (v : Nat), (List.range j).map fun i => .int (c i : Nat), .int _, .list e rd_ints, Nat.zero_le _, depth_ivals _ _, ?_⟩
  have ea : (((List.range j).map fun i => PyData.int (c i : Nat)).any fun y => PyData.eqv y (.int (v : Nat))) = decide (v ∈ (List.range j).map c) := by
    rw [Bool.eq_iff_iff, List.any_eq_true, decide_eq_true_iff, List.mem_map]
    constructor
    · rintro ⟨d, hd, he⟩
      obtain ⟨i, hi, rfl⟩ := List.mem_map.mp hd
      rw [eqv_i] at he
      exact ⟨i, hi, Int.ofNat.inj (eq_of_beq he)⟩
    · rintro ⟨i, hi, rfl⟩
      exact ⟨_, List.mem_map.mpr ⟨i, hi, rfl⟩, by rw [eqv_i]; exact beq_self_eq_true _⟩
  rw [ea]; exact hQ
theorem arr_take {n j : Nat} (f : Nat → V) (hj : j ≤ n) : (arr n f).take j = arr j f := by
  unfold arr
  rw [← List.map_take, List.take_range, Nat.min_eq_left hj]
variable {σ : Env} {h : H} {n k : Nat} {c : Nat → Nat} {es : List Edge} {m : Int} {b ca ea ka wa fa : Nat} {xs : List V} {wr fr : Nat → Nat}
theorem Mid.ext {h' : H} (M : Mid σ h n k c es m b ca ea ka wa fa xs wr fr) (x : Ext h h') : Mid σ h' n k c es m b ca ea ka wa fa xs wr fr :=
  ⟨M.vn, M.vc, M.vk, M.ve, M.vt, M.vm, M.vb, M.vw, M.vf, x _ _ M.hc, x _ _ M.he, x _ _ M.hk, M.A.mono x, M.W.ext x, M.F.ext x, M.L, M.ok, M.n6⟩
theorem Mid.put {x : String} {v : V} (M : Mid σ h n k c es m b ca ea ka wa fa xs wr fr) (hx : x ∉ ["n", "chain", "k", "edges", "kept", "m", "border", "want", "flow"]) : Mid (upd σ x v) h n k c es m b ca ea ka wa fa xs wr fr := by
  have z : ∀ y ∈ ["n", "chain", "k", "edges", "kept", "m", "border", "want", "flow"], upd σ x v y = σ y := fun y hy => upd_other _ _ fun e => hx (e ▸ hy)
  exact ⟨(z _ (by simp)).trans M.vn, (z _ (by simp)).trans M.vc, (z _ (by simp)).trans M.vk, (z _ (by simp)).trans M.ve, (z _ (by simp)).trans M.vt, (z _ (by simp)).trans M.vm, (z _ (by simp)).trans M.vb, (z _ (by simp)).trans M.vw, (z _ (by simp)).trans M.vf,
    M.hc, M.he, M.hk, M.A, M.W, M.F, M.L, M.ok, M.n6⟩
/-- the gain at each point -/
theorem p2_ok {G G1 G2 G3 : Par} {K : Flow → Env → H → Prop} (M : Mid σ h n k c es m b ca ea ka wa fa xs wr fr)
    (kfv : ∀ vs h Q, runFn G1 Core.flow_value_fn vs h Q → G.Γ "flow_value" vs h Q)
    (kss : ∀ vs h Q, runFn G2 Core.source_side_fn vs h Q → G.Γ "source_side" vs h Q) (kct : ∀ vs h Q, runFn G3 Core.capacity_table_fn vs h Q → G2.Γ "capacity_table" vs h Q)
    (hK : ∀ σ h sa (S : Nat → Bool), Mid σ h n k c es m b ca ea ka wa fa xs wr fr → σ "side" = some (.ref sa) → h sa = some (.list (arr n fun v => .bool (S v))) → K .next σ h) :
    execs G law_p2_body σ h K := by
  have L := M.L
  have n6 := M.n6
  have nl : inLim (n : Int) := by unfold inLim; (first | lia | omega)
  have k0 : 0 < k + 1 := Nat.succ_pos k
  have kk : k < k + 1 := Nat.lt_succ_self k
  have c0 := L.lt 0 (Nat.zero_le _)
  have ck := L.lt k (Nat.le_refl _)
  simp [law_p2_body, M.vn, nl]
  refine compW_arr (fun _ => .int 0) (fun i hi K' hK' => by simpa using hK') ⟨trivial, fun ga hga => ?_⟩
  have gc : ca ≠ ga := ne_of_none M.hc hga
  simp [M.vm, M.vc, gc, M.hc, M.vk, getIdx_arr0, getIdx_arr, k0, kk, c0, ck, set_set]
  rw [arr_set, arr_set]
  have x1 := Ext.new (.list (arr n fun j => if j = c k then .int (-m) else if j = c 0 then .int m else .int 0)) hga
  have eg : (h.set ga (.list (arr n fun j => if j = c k then .int (-m) else if j = c 0 then .int m else .int 0))) ga = some (.list (arr n fun j => .int (if j = c k then -m else if j = c 0 then m else 0))) := by
    rw [H.set_self]; congr 2
    refine arr_congr fun j _ => ?_
    split
    · rfl
    · split <;> rfl
  generalize h.set ga (.list (arr n fun j => if j = c k then .int (-m) else if j = c 0 then .int m else .int 0)) = h1 at x1 eg ⊢
  have M1 := M.ext x1
  refine compW_ext (kp := Option.none) iv (fun v => .int (if v = c k then -m else if v = c 0 then m else 0)) trivial ?_ ?_
  · intro v hv h' K' hx hK'
    simp [M1.vf]
    refine kfv _ _ _ (flow_value_spec hv (M1.F.ext hx) fun h'' hx' => ?_)
    rw [L.value v]
    exact hK' _ hx'
  intro h2 x2
  refine ⟨trivial, fun va hva => ?_⟩
  have x3 := Ext.new (.list (arr n fun v => .int (if v = c k then -m else if v = c 0 then m else 0))) hva
  have ev : (h2.set va (.list (arr n fun v => .int (if v = c k then -m else if v = c 0 then m else 0)))) va = some (.list (arr n fun v => .int (if v = c k then -m else if v = c 0 then m else 0))) := by rw [H.set_self]
  generalize h2.set va (.list (arr n fun v => .int (if v = c k then -m else if v = c 0 then m else 0))) = h3 at x3 ev ⊢
  have M3 := M1.ext (x2.trans x3)
  refine eqW_same (.list ev rd_ints) (.list ((x2.trans x3) _ _ eg) rd_ints) (Nat.le_trans (Nat.succ_le_succ (depthAll_le (k := 0) fun d hd => by obtain ⟨i, _, rfl⟩ := List.mem_map.mp hd; exact Nat.le_refl _)) (by decide)) ?_
  simp [M3.vn, M3.ve, M3.vf, M3.vc, M3.hc, getIdx_arr0, k0]
  refine kss _ _ _ (source_side_spec kct (by (first | lia | omega)) c0 (M3.A.rd M3.he) M3.ok M3.F fun S hS sa h4 _ x4 es4 => ?_)
  have hSv := L.side0 hS
  have M4 := M3.ext x4
  refine compW_ext (kp := Option.none) iv (fun v => .bool (decide (v ∈ (List.range (b + 1)).map c))) trivial ?_ ?_
  · intro v hv h' K' hx hK'
    have hb1 : b + 1 ≤ k + 1 := Nat.succ_le_succ (Nat.le_of_lt L.hb)
    have e1 : ((b : Int) + 1).toNat = b + 1 := by (first | lia | omega)
    have e2 : (0 : Int) ≤ (b : Int) + 1 := by (first | lia | omega)
    simp only [M4.vb, optK_some, binop_add, hx _ _ M4.hc, listK_some, natI_i, e1, arr_take _ hb1, alloc]
    refine ⟨e2, fun ta hta => ?_⟩
    exact in_pts (H.set_self _ _ _) (hK' _ (Ext.new _ hta))
  intro h5 x5
  refine ⟨trivial, fun ia hia => ?_⟩
  have x6 := Ext.new (.list (arr n fun v => .bool (decide (v ∈ (List.range (b + 1)).map c)))) hia
  have ei : (h5.set ia (.list (arr n fun v => .bool (decide (v ∈ (List.range (b + 1)).map c))))) ia = some (.list (arr n fun v => .bool (S v))) := by
    rw [H.set_self]; congr 2; exact arr_congr fun v hv => by rw [hSv v hv]
  generalize h5.set ia (.list (arr n fun v => .bool (decide (v ∈ (List.range (b + 1)).map c)))) = h6 at x6 ei ⊢
  have es6 := (x5.trans x6) _ _ es4
  refine eqW_same (rd_bools es6) (rd_bools ei) (depth_bools _ _) ?_
  simp
  exact hK _ _ sa S (((M4.ext (x5.trans x6)).put (by simp)).put (by simp)) (by simp) es6
theorem p3_ok {G G2 G3 : Par} {K : Flow → Env → H → Prop} (M : Mid σ h n k c es m b ca ea ka wa fa xs wr fr)
    (kss : ∀ vs h Q, runFn G2 Core.source_side_fn vs h Q → G.Γ "source_side" vs h Q) (kct : ∀ vs h Q, runFn G3 Core.capacity_table_fn vs h Q → G2.Γ "capacity_table" vs h Q)
    (hK : ∀ σ h, K (.ret (.bool true)) σ h) : execs G law_p3_body σ h K := by
  have L := M.L
  have n6 := M.n6
  have nl : inLim (n : Int) := by unfold inLim; (first | lia | omega)
  have kk : k < k + 1 := Nat.lt_succ_self k
  have ck := L.lt k (Nat.le_refl _)
  have rest : ∀ h', Ext h h' → execs G (.cons (.ite (.cmp .ne (.var "flow") (.var "want")) (.cons (.ret (.bool false)) .nil) .nil) (.cons (.ite (.cmp .ne (.var "edges") (.var "kept")) (.cons (.ret (.bool false)) .nil) .nil) (.cons (.ret (.bool true)) .nil))) σ h' K := by
    intro h' x
    have M' := M.ext x
    simp [M.vf, M.vw]
    refine eqW_same M'.F.rd M'.W.rd (depth_tab _ _) ?_
    simp [M.ve, M.vt]
    refine eqW_same (M'.A.rd M'.he) (M'.A.rd M'.hk) (depth_edges _) ?_
    simp
    exact hK _ _
  simp only [law_p3_body, execs_cons (s := .ite (.cmp .gt (.var "m") (.int 0)) law_p3_b1 .nil), exec_ite, cond_cmp, ev_var, ev_int, M.vm, optK_some, cmpop_gt, truth_bool]
  by_cases q : 0 < m
  · simp [q, law_p3_b1, M.vn, M.ve, M.vf, M.vc, M.vk, M.hc, getIdx_arr, kk]
    refine kss _ _ _ (source_side_spec kct (by (first | lia | omega)) ck (M.A.rd M.he) M.ok M.F fun S hS sa h4 _ x4 es4 => ?_)
    have hSv := L.sideK q hS
    have M4 := M.ext x4
    try simp [nl]
    refine compW_ext (kp := Option.none) iv (fun v => .bool (decide (v ∈ (List.range (k + 1)).map c))) trivial ?_ ?_
    · intro v hv h' K' hx hK'
      exact in_pts (hx _ _ M4.hc) (hK' _ (Ext.refl _))
    intro h5 x5
    refine ⟨trivial, fun ia hia => ?_⟩
    have x6 := Ext.new (.list (arr n fun v => .bool (decide (v ∈ (List.range (k + 1)).map c)))) hia
    have ei : (h5.set ia (.list (arr n fun v => .bool (decide (v ∈ (List.range (k + 1)).map c))))) ia = some (.list (arr n fun v => .bool (S v))) := by
      rw [H.set_self]; congr 2; exact arr_congr fun v hv => by rw [hSv v hv]
    generalize h5.set ia (.list (arr n fun v => .bool (decide (v ∈ (List.range (k + 1)).map c)))) = h6 at x6 ei ⊢
    refine eqW_same (rd_bools ((x5.trans x6) _ _ es4)) (rd_bools ei) (depth_bools _ _) ?_
    have := rest _ (x4.trans (x5.trans x6))
    simpa [M.vf, M.ve] using this
  · simp only [q, decide_false, Bool.false_eq_true, if_false, execs_nil, thenK_next]
    exact rest _ (Ext.refl _)
end MP.L103

end
section
namespace MP.L103
open MP
theorem law_run {G G1 G2 G3 G4 G5 G6 G7 G8 G9 G10 G11 G12 G13 G14 : Par} {h0 : H}
    (kcell : ∀ vs h Q, runFn G1 law_cell_fn vs h Q → G.Γ "_law_cell" vs h Q)
    (kchain : ∀ vs h Q, runFn G2 law_chain_fn vs h Q → G.Γ "_law_chain" vs h Q) (kcell2 : ∀ vs h Q, runFn G3 law_cell_fn vs h Q → G2.Γ "_law_cell" vs h Q)
    (ksteps : ∀ vs h Q, runFn G4 law_steps_fn vs h Q → G.Γ "_law_steps" vs h Q) (kcell3 : ∀ vs h Q, runFn G5 law_cell_fn vs h Q → G4.Γ "_law_cell" vs h Q)
    (kwidths : ∀ vs h Q, runFn G6 law_widths_fn vs h Q → G.Γ "_law_widths" vs h Q)
    (ktable : ∀ vs h Q, runFn G7 law_table_fn vs h Q → G.Γ "_law_table" vs h Q)
    (kmax : ∀ vs h Q, runFn G8 Core.max_flow_fn vs h Q → G.Γ "max_flow" vs h Q) (kct : ∀ vs h Q, runFn G9 Core.capacity_table_fn vs h Q → G8.Γ "capacity_table" vs h Q)
    (kaug : ∀ vs h Q, runFn G10 Core.augmenting_path_fn vs h Q → G8.Γ "augmenting_path" vs h Q) (kpath : ∀ vs h Q, runFn G11 Core.path_to_fn vs h Q → G10.Γ "path_to" vs h Q)
    (kfv : ∀ vs h Q, runFn G12 Core.flow_value_fn vs h Q → G.Γ "flow_value" vs h Q)
    (kss : ∀ vs h Q, runFn G13 Core.source_side_fn vs h Q → G.Γ "source_side" vs h Q) (kct2 : ∀ vs h Q, runFn G14 Core.capacity_table_fn vs h Q → G13.Γ "capacity_table" vs h Q) :
    lawW G h0 fun v _ => v = .bool true := by
  refine p1_ok kcell kchain kcell2 ksteps kcell3 kwidths ktable kmax kct kaug kpath fun σ h n k c es m b ca ea ka wa fa xs wr fr M => ?_
  refine ⟨fa, _, M.vf, M.F.top, fun v hv => ?_, p2_ok M kfv kss kct2 fun σ' h' sa S M' vs hs => ?_⟩
  · obtain ⟨i, hi, rfl⟩ := List.mem_map.mp hv
    refine ⟨fr i, (List.range n).map fun j => Fl c m k i j, rfl, ?_⟩
    rw [M.F.row i (List.mem_range.mp hi), List.map_map]; rfl
  · refine ⟨sa, (List.range n).map S, vs, ?_, p3_ok M' kss kct2 fun σ h => rfl⟩
    rw [hs, List.map_map]; rfl
theorem law_ok (ns : List Int) (gc : String → Option V) : lawW ⟨ns, gc, table ns gc fns⟩ (fun _ => Option.none) fun v _ => v = .bool true :=
  law_run (call_of rfl) (call_of rfl) (call_of rfl) (call_of rfl) (call_of rfl) (call_of rfl) (call_of rfl) (call_of rfl) (call_of rfl) (call_of rfl) (call_of rfl) (call_of rfl) (call_of rfl) (call_of rfl)
end MP.L103

end
section
/-! law by hand: two statements with a generator -/
namespace MP
open PySem PyProof.Rows

noncomputable def nameB (sc : Scope) (x : String) (e : Expr) : Bool := e.ctorIdx == 23 && (match e with
  | .Name id _ => globOk sc x id
  | _ => false)
theorem nameB_inv {sc : Scope} {x : String} {e : Expr} (h : nameB sc x e = true) : ∃ id p, e = .Name id p ∧ globOk sc x id = true := by
  obtain ⟨h1, u1⟩ := and_tt h
  obtain ⟨id, p, rfl⟩ := e_Name h1
  exact ⟨_, _, rfl, u1⟩
noncomputable def isName (x : String) (e : Expr) : Bool := e.ctorIdx == 23 && (match e with
  | .Name id _ => id == Str.ofString x
  | _ => false)
theorem isName_inv {x : String} {e : Expr} (h : isName x e = true) : ∃ p, e = .Name (Str.ofString x) p := by
  obtain ⟨h1, u1⟩ := and_tt h
  obtain ⟨id, p, rfl⟩ := e_Name h1
  exact ⟨p, by rw [eq_of_beq u1]⟩
/-- f(y), with one argument -/
noncomputable def callB1 (sc : Scope) (f : String) (chk : Expr → Bool) (e : Expr) : Bool := e.ctorIdx == 16 && (match e with
  | .Call g l ks _ => ks.isEmpty && (nameB sc f g && oneB l fun y => notStar y && chk y)
  | _ => false)
theorem callB1_inv {sc : Scope} {f : String} {chk : Expr → Bool} {e : Expr} (h : callB1 sc f chk e = true) : ∃ id np y p, e = .Call (.Name id np) [y] [] p ∧ globOk sc f id = true ∧ notStar y = true ∧ chk y = true := by
  obtain ⟨h1, u1⟩ := and_tt h
  obtain ⟨g, l, ks, p, rfl⟩ := e_Call h1
  obtain ⟨h2, u2⟩ := and_tt u1
  obtain ⟨h3, u3⟩ := and_tt u2
  obtain rfl := empty_nil h2
  obtain ⟨id, np, rfl, hg⟩ := nameB_inv h3
  obtain ⟨y, rfl, h4⟩ := one_of u3
  obtain ⟨h5, h6⟩ := and_tt h4
  exact ⟨_, _, _, _, rfl, hg, h5, h6⟩
theorem e_GeneratorExp {x : Expr} (h : (x.ctorIdx == 11) = true) : ∃ el gs gsc p, x = .GeneratorExp el gs gsc p := Expr.GeneratorExp.elim x (eq_of_beq h) fun el gs gsc p => ⟨el, gs, gsc, p, rfl⟩
noncomputable def bodyB (fd : FuncData) (f : List Stmt → Bool) : Bool := match fd.body with
  | .stmts b => f b
  | _ => false
theorem bodyB_inv {fd : FuncData} {f : List Stmt → Bool} (h : bodyB fd f = true) : ∃ b, fd.body = .stmts b ∧ f b = true := by
  unfold bodyB at h
  split at h
  · rename_i b q; exact ⟨b, q, h⟩
  · cases h
/-- a def at its place -/
structure DefAt (K : KK) (f : String) (chk : FuncData → Bool) (fd : FuncData) : Prop where
  at' : ∃ a o, K.mg (Str.ofString f) = some (.ref a) ∧ K.base.get? a = some o ∧ o.data = .func fd ∧ K.base.CodeRec fd.code fd.qualname ∧ chk fd = true
/-- the code's table may grow -/
structure TabK (K : KK) (cd : Value) (c P : PySem.Addr) : Prop where
  code : cd = .ref c
  tab : K.tab = some P
  hole : K.base.get? P = none
  obj : ∃ o vs file tf flags tg inF text tt, K.base.get? c = some o ∧ o.cls = .type "code" ∧ o.data = .fields vs ∧ vs[11]? = some (.ref P) ∧ vs.getD 18 .none = .str file tf ∧
    vs.getD 7 .none = .int flags tg ∧ vs.getD 9 .none = .bool inF ∧ vs.getD 10 .none = .int text tt
/-- the builtin that it calls -/
structure BuK (K : KK) : Prop where
  all : K.mg (Str.ofString "all") = none ∧ K.mb (Str.ofString "all") = some (.builtin "all")
  mod : ∃ bm ob, K.mg "__builtins__" = some (.ref bm) ∧ bm ≠ builtinsNs ∧ K.base.get? bm = some ob ∧ ob.cls = .type "module" ∧ ob.dict = some builtinsNs ∧ ob.data = .plain

section
variable {K : KK} {P : Prt} {own : Str → Bool} {env : PySem.Env} {σ : Env} {h : H} {s s' : Shared}
theorem TabK.isCode {cd : Value} {c t : PySem.Addr} (T : TabK K cd c t) (R : Rel K P h s) : ∃ ps, s.heap.IsCode c t ps ∧ s.heap.TableAt c t ps := by
  obtain ⟨o, h1, h2⟩ := R.sub.2 t T.tab
  obtain ⟨o', h3, h4⟩ := R.keep _ _ h1
  obtain ⟨ps, rfl, tr⟩ := h4.tabOk h2
  obtain ⟨oc, vs, file, tf, flags, tg, inF, text, tt, g1, g2, g3, g4, g5, g6, g7, g8⟩ := T.obj
  have g1' := R.base _ _ g1
  refine ⟨ps, ⟨oc, vs, file, tf, flags, tg, inF, text, tt, _, g1', g3, ?_, g5, g6, g7, g8, h3, rfl, tr, fun q => ?_⟩, ⟨oc, vs, g1', g2, g3, g4⟩, h3⟩
  · rw [Array.getD_eq_getD_getElem?, g4]; rfl
  · rw [q, h3] at g1'; cases g1'; cases g2
theorem Rel.tabGrow (R : Rel K P h s) {t : PySem.Addr} {ps more : Array Value} (ht : K.tab = some t) (hole : K.base.get? t = none) (k : ∀ b o, b ≠ t → s.heap.get? b = some o → s'.heap.get? b = some o) (g0 : s.heap.get? t = some (tabOb ps)) (g1 : s'.heap.get? t = some (tabOb (ps ++ more))) (tr : TriplesOk (ps ++ more).toList) (hos : s'.os = s.os) (hg : AllBare s'.gens) : Rel K P h s' := by
  refine ⟨R.sub, fun b o e => k b o (fun q => by rw [q, hole] at e; cases e) (R.base b o e), fun b o e => ?_, fun e he => ?_, R.frm, fun a o e => ?_, hos.trans R.os, hg⟩
  · obtain ⟨o', h1, h2⟩ := R.keep b o e
    by_cases q : b = t
    · subst q
      rw [g0] at h1; cases h1
      exact ⟨_, g1, h2.trans (.inr (.inr ⟨ht, ps, more, rfl, rfl, fun _ => tr⟩))⟩
    · exact ⟨o', k b o' q h1, h2⟩
  · exact (R.frs e he).but k fun m hn => ns_not g0 (by intros; simp) hn
  · obtain ⟨ob, h1, h2, h3⟩ := R.objs a o e
    refine ⟨ob, k a ob (fun q => ?_) h1, h2, h3⟩
    rw [q, g0] at h1; cases h1
    rcases h2.data with ⟨_, _, hq⟩ | ⟨_, _, hq⟩ <;> cases hq
theorem St.tabGrow (X : St K P own env σ h s) {t : PySem.Addr} {ps more : Array Value} (ht : K.tab = some t) (hole : K.base.get? t = none) (k : ∀ b o, b ≠ t → s.heap.get? b = some o → s'.heap.get? b = some o) (g0 : s.heap.get? t = some (tabOb ps)) (g1 : s'.heap.get? t = some (tabOb (ps ++ more))) (tr : TriplesOk (ps ++ more).toList) (hos : s'.os = s.os) (hg : AllBare s'.gens) : St K P own env σ h s' := by
  refine ⟨X.rel.tabGrow ht hole k g0 g1 tr hos hg, ⟨X.fr.kind, X.fr.glb, X.fr.bui, ?_, X.fr.locP, X.fr.locM, fun n hn => ?_, X.fr.apart⟩⟩
  · obtain ⟨m, hm, hv⟩ := X.fr.loc
    refine ⟨m, hm.at' fun o e => k _ o (fun q => ?_) e, hv⟩
    obtain ⟨o1, es, ep, h1, h2, _⟩ := hm
    rw [q, g0] at h1; cases h1; cases h2
  · obtain ⟨c, ov, h1, ⟨o, h4, h5⟩, h3⟩ := X.fr.cells n hn
    refine ⟨c, ov, h1, ⟨o, k _ _ (fun q => ?_) h4, h5⟩, h3⟩
    rw [q, g0] at h4; cases h4; cases h5
end

/-- a generator's scope: no name of an outer frame -/
noncomputable def scB (sc : Scope) (xs : List String) : Bool := (sc.names.all fun p => p.2 != .free && p.2 != .cell) && (sc.names.lookup (Str.ofString ".0") == some .local && ((xs.all fun x => sc.names.lookup (Str.ofString x) == some .local) && (sc.kind == .function && !sc.isCoroutine)))
structure ScOk (sc : Scope) (xs : List String) : Prop where
  nf : ∀ p ∈ sc.names, p.2 ≠ .free
  nc : ∀ p ∈ sc.names, p.2 ≠ .cell
  zero : sc.names.lookup (".0" : Str) = some .local
  loc : ∀ x ∈ xs, sc.names.lookup (Str.ofString x) = some .local
  kind : sc.kind = .function
  co : sc.isCoroutine = false
theorem scB_inv {sc : Scope} {xs : List String} (h : scB sc xs = true) : ScOk sc xs := by
  simp only [scB, Bool.and_eq_true, List.all_eq_true, bne_iff_ne, beq_iff_eq, Bool.not_eq_true'] at h
  obtain ⟨h1, h2, h3, h4, h5⟩ := h
  exact ⟨fun p hp => (h1 p hp).1, fun p hp => (h1 p hp).2, h2, h3, h4, h5⟩
theorem ScOk.clos {sc : Scope} {xs : List String} (S : ScOk sc xs) (env : PySem.Env) : closureFor sc env = pure (clOf (fun n => env.cells.lookup n) sc.names []) := closureFor_eq fun n hm => absurd rfl (S.nf _ hm)
noncomputable abbrev typeIs (x T : String) : PE := .cmp .is (.bfn .type (.cons (.var x) .nil)) (.ty T)
section
variable {prog : Program} {w : World} {A : Around} {E : Value → Shared → Prop} {s t : Shared} {env : PySem.Env}
theorem one_noStar {y : Expr} {pos : Pos} (hy : notStar y = true) : (backTo pos (starEach [y] env)).any (·.1) = false := by rw [starEach_cons hy]; rfl
theorem args_one {y : Expr} {pos : Pos} {f : Value} {Q : Args → Shared → Prop} (hy : notStar y = true) (h : wpAny (model prog w) A (eval y env) (fun v s' => Q ⟨[v], []⟩ s') E s) : wpAny (model prog w) A (evalArgs f true (backTo pos (starEach [y] env)) []) Q E s := by
  have e : wpAny (model prog w) A (spliced (backTo pos (starEach [y] env))) (fun vs s' => Q ⟨vs, []⟩ s') E s := wpAny_items_cons (wpAny_mono h (fun v s₁ h₁ => wpAny_items_nil h₁) fun _ _ e => e) (starEach_cons hy)
  rw [starEach_cons hy] at e ⊢
  exact Calls.evalArgs_plain e
theorem load_bu {mg mb : Str → Option Value} {x : String} {id : Str} {p : Pos} {r : Value} {Q : Value → Shared → Prop} (hk : env.scope.kind = .function) (hc : globOk env.scope x id = true) (hg : t.heap.Ns env.globals mg) (hb : t.heap.Ns env.builtins mb) (e : mg (Str.ofString x) = none) (e' : mb (Str.ofString x) = some r) (hQ : Q r t) :
    wpAny (model prog w) A (eval (.Name id p) env) Q E t := by
  simp only [globOk, Bool.and_eq_true, beq_iff_eq, Bool.not_eq_true'] at hc
  obtain ⟨⟨rfl, hk'⟩, hd⟩ := hc
  exact Calls.Name_function_global hk hk' (Calls.loadGlobal_builtin (mg := mg) (mb := mb) hg e hb e' hQ) hd
/-- type(x) is T -/
theorem elt_type {fns : List String} {mg mb m : Str → Option Value} {x T : String} {el : Expr} {v : Value} (hk : env.scope.kind = .function) (hl : env.scope.names.lookup (Str.ofString x) = some .local) (hc : chkE fns env.scope (typeIs x T) el = true)
    (hg : t.heap.Ns env.globals mg) (hb : t.heap.Ns env.builtins mb) (e1 : mg (Str.ofString "type") = none ∧ mb (Str.ofString "type") = some (.type "type")) (e2 : mg (Str.ofString T) = none ∧ mb (Str.ofString T) = some (.type T))
    (hn : t.heap.Ns env.locals m) (hm : m (Str.ofString x) = some v) (hv : t.TypeIs v T) (hT : (Value.type T == Value.type "builtin_function_or_method") = false) :
    wpAny (model prog w) A (eval el env) (fun z s₃ => z = .bool true ∧ Keeps t s₃) E t := by
  obtain ⟨_, _, _, _, rfl, hc'⟩ := i_cmp hc
  simp only [Bool.and_eq_true, beq_iff_eq, Bool.not_eq_true'] at hc'
  obtain ⟨⟨⟨rfl, hmk⟩, h1⟩, h2⟩ := hc'
  obtain ⟨_, _, l, _, rfl, g1⟩ := i_bfn h1
  simp only [Bool.and_eq_true] at g1
  obtain ⟨g1, h3⟩ := g1
  obtain ⟨y, ys, rfl, h4⟩ := i_cons h3
  simp only [Bool.and_eq_true] at h4
  obtain ⟨⟨hns, h6⟩, h5⟩ := h4
  cases i_nil h5
  obtain ⟨id, ip, rfl, hva⟩ := i_var h6
  obtain ⟨_, _, rfl, g2⟩ := i_ty h2
  simp only [Bool.and_eq_true] at g2
  simp only [varOk, Bool.and_eq_true, beq_iff_eq, bne_iff_ne, Bool.not_eq_true', ne_eq] at hva
  obtain ⟨⟨⟨⟨rfl, hx⟩, hkk⟩, hd⟩, hcd⟩ := hva
  refine wpAny_Compare1 (wpAny_Call_NameR (load_bu hk g1 hg hb e1.1 e1.2 (PySem.callWith_type (T := "type") (one_noStar hns) (args_one hns ?_)))) hmk
  refine wpAny_Name (wpAny_loadName_local hk hl hn hm ?_) hd
  refine call_type_of hv hT ?_
  refine load_bu hk g2.2 hg hb e2.1 e2.2 ?_
  refine is_tyG ⟨by simp, _, _, rfl, fun _ _ e => e⟩
end
end MP

end
section
/-! law by hand: the two statements -/
namespace MP
open PySem PyProof.Rows

noncomputable def gclB (sc : Scope) (x : String) (chk : Expr → Bool) (g : Comprehension) : Bool := g.ifs.isEmpty && (g.is_async == 0 && (isName x g.target && chk g.iter))
theorem gclB_inv {sc : Scope} {x : String} {chk : Expr → Bool} {g : Comprehension} (h : gclB sc x chk g = true) : ∃ p it, g = ⟨.Name (Str.ofString x) p, it, [], 0⟩ ∧ chk it = true := by
  obtain ⟨h1, u1⟩ := and_tt h
  obtain ⟨h2, u2⟩ := and_tt u1
  obtain ⟨h3, h4⟩ := and_tt u2
  obtain ⟨p, q1⟩ := isName_inv h3
  obtain ⟨tg, it, ifs, as⟩ := g
  have q2 : ifs = [] := empty_nil h1
  have q3 : as = 0 := eq_of_beq h2
  dsimp only at q1 h4
  subst q1 q2 q3
  exact ⟨p, it, rfl, h4⟩
noncomputable def gen1B (fns : List String) (sc : Scope) (y x T : String) (e : Expr) : Bool := e.ctorIdx == 11 && (match e with
  | .GeneratorExp el gs gsc _ => oneB gs (gclB sc x (chkE fns sc (.var y))) && (scB gsc [x] && chkE fns gsc (typeIs x T) el)
  | _ => false)
theorem gen1B_inv {fns : List String} {sc : Scope} {y x T : String} {e : Expr} (h : gen1B fns sc y x T e = true) : ∃ el px id ip gsc p, e = .GeneratorExp el [⟨.Name (Str.ofString x) px, .Name id ip, [], 0⟩] gsc p ∧ varOk sc y id = true ∧ ScOk gsc [x] ∧ chkE fns gsc (typeIs x T) el = true := by
  obtain ⟨h1, u1⟩ := and_tt h
  obtain ⟨el, gs, gsc, p, rfl⟩ := e_GeneratorExp h1
  obtain ⟨h2, u2⟩ := and_tt u1
  obtain ⟨g, rfl, h3⟩ := one_of h2
  obtain ⟨px, it, rfl, h4⟩ := gclB_inv h3
  obtain ⟨id, ip, rfl, hv⟩ := i_var h4
  obtain ⟨h5, h6⟩ := and_tt u2
  exact ⟨_, _, _, _, _, _, rfl, hv, scB_inv h5, h6⟩
noncomputable def twoG (l : List Comprehension) (f g : Comprehension → Bool) : Bool := match l with
  | [a, b] => f a && g b
  | _ => false
theorem twoG_inv {l : List Comprehension} {f g : Comprehension → Bool} (h : twoG l f g = true) : ∃ a b, l = [a, b] ∧ f a = true ∧ g b = true := by
  match l, h with
  | [a, b], h => obtain ⟨h1, h2⟩ := and_tt h; exact ⟨_, _, rfl, h1, h2⟩
noncomputable def gen2B (fns : List String) (sc : Scope) (y x1 x2 T : String) (e : Expr) : Bool := e.ctorIdx == 11 && (match e with
  | .GeneratorExp el gs gsc _ => twoG gs (gclB sc x1 (chkE fns sc (.var y))) (gclB sc x2 (isName x1)) && (scB gsc [x1, x2] && chkE fns gsc (typeIs x2 T) el)
  | _ => false)
theorem gen2B_inv {fns : List String} {sc : Scope} {y x1 x2 T : String} {e : Expr} (h : gen2B fns sc y x1 x2 T e = true) : ∃ el p1 p2 id ip ip2 gsc p, e = gen2 el (.Name id ip) (.Name (Str.ofString x1) ip2) (Str.ofString x1) (Str.ofString x2) p1 p2 gsc p ∧ varOk sc y id = true ∧ ScOk gsc [x1, x2] ∧ chkE fns gsc (typeIs x2 T) el = true := by
  obtain ⟨h1, u1⟩ := and_tt h
  obtain ⟨el, gs, gsc, p, rfl⟩ := e_GeneratorExp h1
  obtain ⟨h2, u2⟩ := and_tt u1
  obtain ⟨g1, g2, rfl, h3, h3'⟩ := twoG_inv h2
  obtain ⟨p1, it, rfl, h4⟩ := gclB_inv h3
  obtain ⟨id, ip, rfl, hv⟩ := i_var h4
  obtain ⟨p2, it2, rfl, h4'⟩ := gclB_inv h3'
  obtain ⟨ip2, rfl⟩ := isName_inv h4'
  obtain ⟨h5, h6⟩ := and_tt u2
  exact ⟨_, _, _, _, _, _, _, _, rfl, hv, scB_inv h5, h6⟩
/-- if not all(..): .. -/
noncomputable def ifAllB (sc : Scope) (chk : Expr → Bool) (st : Stmt) : Bool := st.ctorIdx == 12 && (match st with
  | .If t _ b _ => b.isEmpty && (t.ctorIdx == 3 && (match t with
    | .UnaryOp o e _ => o == .Not && callB1 sc "all" chk e
    | _ => false))
  | _ => false)
theorem ifAllB_inv {sc : Scope} {chk : Expr → Bool} {st : Stmt} (h : ifAllB sc chk st = true) : ∃ e p a q, st = .If (.UnaryOp .Not e p) a [] q ∧ callB1 sc "all" chk e = true := by
  obtain ⟨h1, u1⟩ := and_tt h
  obtain ⟨t, a, b, q, rfl⟩ := e_sIf h1
  obtain ⟨h2, u2⟩ := and_tt u1
  obtain rfl := empty_nil h2
  obtain ⟨h3, u3⟩ := and_tt u2
  obtain ⟨o, e, p, rfl⟩ := e_UnaryOp h3
  obtain ⟨h4, h5⟩ := and_tt u3
  cases eq_of_beq h4
  exact ⟨_, _, _, _, rfl, h5⟩
section
variable {prog : Program} {w : World} {K : KK} {A : Around} {E : Value → Shared → Prop} {P : Prt} {env : PySem.Env} {σ : Env} {h : H} {s : Shared}
/-- a generator is made and handed to all: the statement falls through -/
theorem if_all {chk : Expr → Bool} {st : Stmt} {Q : PySem.Flow → Shared → Prop} (hK : KOk K) (hB : BuK K) (X : St K P allOwn env σ h s) (hc : ifAllB env.scope chk st = true)
    (hgen : ∀ y Q', chk y = true → notStar y = true → (∀ s', St K P allOwn env σ h s' → Q' (.bool true) s') → wpAny (model prog w) A (eval y env) (fun v s₁ => wpAny (model prog w) A (call (.builtin "all") [v]) Q' E s₁) E s)
    (hQ : ∀ s', St K P allOwn env σ h s' → Q .next s') : wpAny (model prog w) A (PySem.exec st env) Q E s := by
  obtain ⟨e, p, a, q, rfl, he⟩ := ifAllB_inv hc
  obtain ⟨id, np, y, p', rfl, hg, hns, hy⟩ := callB1_inv he
  refine wpAny_If (wpAny_isTrue_Not (wpAny_isTrue_value (wpAny_Call_NameR (loadBuiltin hK hg X hB.all.1 hB.all.2 (Calls.callWith_builtin (one_noStar hns) (args_one hns ?_))))))
  refine hgen y _ hy hns fun s' X' => ?_
  refine wpAny_truthy_bool ?_
  simp only [Bool.not_true, Bool.false_eq_true, if_false]
  exact wpAny_execs_nil (hQ s' X')
theorem all_gen {L : Addr} {m : Str → Option Value} {a : Addr} {n N : Nat} {F : Nat → Value → Prop} {Q : Value → Shared → Prop} (hL : s.heap.Ns L m) (G : AllBare s.gens) (X : Gen prog w A N a n F s) (hLK : L ≤ N) (hF : ∀ j v, F j v → v = .bool true)
    (hQ : ∀ s', AllBare s'.gens → s'.os = s.os → (∀ b o, b ≤ N → s.heap.get? b = some o → s'.heap.get? b = some o) → Q (.bool true) s') : wpAny (model prog w) A (call (.builtin "all") [.ref a]) Q E s :=
  all_rowsK (h₀ := {}) ⟨hL, fun b o e => by simp [Heap.get?] at e, Nat.zero_le _⟩ G X hLK (fun _ => true) (fun j v s Q E hv hQ => by rw [hF j v hv]; exact wpAny_truthy_bool hQ) fun s' _ h1 h2 h3 => by
    have e : (List.range n).all (fun _ => true) = true := by simp
    rw [e]; exact hQ s' h1 h2 h3
end
end MP

end
section
/-! law by hand: the two generators -/
namespace MP
open PySem PyProof.Rows
section
variable {prog : Program} {w : World} {K : KK} {A : Around} {E : Value → Shared → Prop} {P : Prt} {env : PySem.Env} {σ : Env} {h : H} {s : Shared}
theorem TabK.triples {c tb : Addr} {ps : Array Value} {hp : Heap} (c5 : hp.IsCode c tb ps) (t5 : hp.TableAt c tb ps) : TriplesOk ps.toList := by
  obtain ⟨o, vs, file, tf, flags, tg, inF, text, tt, op, q1, q2, q3, q4, q5, q6, q7, q8, q9, q10, _⟩ := c5
  rw [t5.2] at q8; cases q8; cases q9; exact q10
/-- the names that an element reads -/
theorem keep_ns {tb b : Addr} {ps : Array Value} {hp hp' : Heap} {m : Str → Option Value} (hn : hp.Ns b m) (ht : hp.get? tb = some (tabOb ps)) (k : ∀ b o, b ≠ tb → hp.get? b = some o → hp'.get? b = some o) : hp'.Ns b m := hn.at' fun o e => k _ o (fun q => by
  obtain ⟨o1, es, ep, h1, h2, _⟩ := hn
  rw [q, ht] at h1; cases h1; cases h2) e
theorem ty_ne {T : String} (hT : T ∈ tyNames) : (Value.type T == Value.type "builtin_function_or_method") = false := by
  simp only [tyNames, List.mem_cons, List.not_mem_nil, or_false] at hT
  rcases hT with rfl | rfl | rfl | rfl <;> decide
/-- all(type(x) is T for x in y) -/
theorem one_gen {y x T : String} {e : Expr} {cd : Value} {cc tb : Addr} {f : Nat} {xs : List V} {Q : Value → Shared → Prop} (hK : KOk K) (hB : BuK K) (TK : TabK K cd cc tb) (hcd : env.code = cd) (hR : Rm A 0)
    (X : St K P allOwn env σ h s) (he : gen1B K.fns env.scope y x T e = true) (ey : σ y = some (.ref f)) (hf : h f = some (.list xs)) (hT : T ∈ tyNames) (hxs : ∀ v ∈ xs, ∀ r, VR K v r → ∀ t : Shared, t.TypeIs r T)
    (hQ : ∀ s', St K P allOwn env σ h s' → Q (.bool true) s') : wpAny (model prog w) A (eval e env) (fun v s₁ => wpAny (model prog w) A (call (.builtin "all") [v]) Q E s₁) E s := by
  obtain ⟨el, px, id, ip, gsc, gp, rfl, hv, S, hel⟩ := gen1B_inv he
  obtain ⟨tps, hcode, htab⟩ := TK.isCode X.rel
  obtain ⟨acc, c0, hS, hvr, _⟩ := X.rel.list hf
  obtain ⟨bm, ob, b1, b2, b3, b4, b5, b6⟩ := hB.mod
  have M : BMod s.heap env.globals K.mg bm ob := ⟨by rw [X.fr.glb]; exact hK.nsG.keeps X.rel.base, b1, b2, X.rel.base _ _ b3, b4, b5, b6⟩
  have nsG : s.heap.Ns mainGlobals K.mg := hK.nsG.keeps X.rel.base
  have nsB : s.heap.Ns builtinsNs K.mb := hK.nsB.keeps X.rel.base
  have lim1 : s.heap.NoLimit := hK.noLim.keeps X.rel.base
  have lt : ∀ b o, s.heap.get? b = some o → b ≤ s.heap.objs.size - 1 := fun b o e => Nat.le_sub_one_of_lt (Heap.lt_size e)
  refine gen_list (F := fun _ z => z = .bool true) (by rw [hcd]; exact TK.code) hcode htab M hR.hd S.co (S.clos env) S.nc S.zero (S.loc x List.mem_cons_self) S.kind (by have := hR.dp; (first | lia | omega)) (fun Q' hq => loadVar hv X ey fun r hr => by cases hr; exact hq) (items := acc) ⟨_, hS, rfl, _, rfl⟩ lim1 X.rel.gens ?_ ?_ (fun _ => rfl)
  · intro code C A' E' i v t m₂ hA hD hU hi hns' hm hkp
    obtain ⟨u, hu, hvu⟩ : ∃ u ∈ xs, VR K u v := by
      have hlt : i < xs.length := by
        have := (Array.getElem?_eq_some_iff.mp hi).1
        rw [hvr.length]; simpa using this
      obtain ⟨r, g1, g2⟩ := hvr.get (List.getElem?_eq_getElem hlt)
      rw [Array.getElem?_toList, hi] at g1; cases g1
      exact ⟨_, List.getElem_mem hlt, g2⟩
    exact elt_type (fns := K.fns) (env := genEnv gsc _ C code builtinsNs env) S.kind (S.loc x List.mem_cons_self) hel (by show t.heap.Ns env.globals _; rw [X.fr.glb]; exact keep_ns nsG htab.2 hkp) (keep_ns nsB htab.2 hkp) (hK.bf .type) (hK.ty T hT) hns' hm (hxs u hu v hvu t) (ty_ne hT)
  · intro a s₅ ps' k5 c5 t5 hm l5 o5 g5 gen
    obtain ⟨more, rfl⟩ := hm
    obtain ⟨m, hm, _⟩ := X.fr.loc
    have tr := TabK.triples c5 t5
    have htl := lt _ _ htab.2
    refine all_gen (keep_ns hm htab.2 k5) g5 gen (Nat.le_sub_one_of_lt hm.lt) (fun _ _ e => e) fun s₆ g6 o6 k6 => ?_
    exact hQ s₆ (X.tabGrow TK.tab TK.hole (fun b o hb e => k6 b o (lt b o e) (k5 b o hb e)) htab.2 (k6 _ _ htl t5.2) tr (o6.trans o5) g6)
/-- all(type(x2) is T for x1 in y for x2 in x1) -/
theorem two_gen {y x1 x2 T : String} {e : Expr} {cd : Value} {cc tb : Addr} {f : Nat} {xs : List V} {Q : Value → Shared → Prop} (hK : KOk K) (hB : BuK K) (TK : TabK K cd cc tb) (hcd : env.code = cd) (hR : Rm A 0)
    (X : St K P allOwn env σ h s) (he : gen2B K.fns env.scope y x1 x2 T e = true) (hd1 : (Str.ofString x1 == Str.ofString "__debug__") = false) (ey : σ y = some (.ref f)) (hf : h f = some (.list xs)) (hT : T ∈ tyNames)
    (hxs : ∀ v ∈ xs, ∃ r ys, v = .ref r ∧ h r = some (.list ys) ∧ ∀ u ∈ ys, ∀ r, VR K u r → ∀ t : Shared, t.TypeIs r T)
    (hQ : ∀ s', St K P allOwn env σ h s' → Q (.bool true) s') : wpAny (model prog w) A (eval e env) (fun v s₁ => wpAny (model prog w) A (call (.builtin "all") [v]) Q E s₁) E s := by
  obtain ⟨el, p1, p2, id, ip, ip2, gsc, gp, rfl, hv, S, hel⟩ := gen2B_inv he
  obtain ⟨tps, hcode, htab⟩ := TK.isCode X.rel
  obtain ⟨acc, c0, hS, hvr, _⟩ := X.rel.list hf
  obtain ⟨bm, ob, b1, b2, b3, b4, b5, b6⟩ := hB.mod
  have M : BMod s.heap env.globals K.mg bm ob := ⟨by rw [X.fr.glb]; exact hK.nsG.keeps X.rel.base, b1, b2, X.rel.base _ _ b3, b4, b5, b6⟩
  have nsG : s.heap.Ns mainGlobals K.mg := hK.nsG.keeps X.rel.base
  have nsB : s.heap.Ns builtinsNs K.mb := hK.nsB.keeps X.rel.base
  have lim1 : s.heap.NoLimit := hK.noLim.keeps X.rel.base
  have rows : ∀ (i : Nat) v, acc[i]? = some v → ∃ L r, v = .ref L ∧ s.heap.IsList L r ∧ ∀ (j : Nat) z, r[j]? = some z → ∀ t : Shared, t.TypeIs z T := fun i v hi => by
    have hlt : i < xs.length := by
      have := (Array.getElem?_eq_some_iff.mp hi).1
      rw [hvr.length]; simpa using this
    obtain ⟨r, g1, g2⟩ := hvr.get (List.getElem?_eq_getElem hlt)
    rw [Array.getElem?_toList, hi] at g1; cases g1
    obtain ⟨r', ys, q1, q2, q3⟩ := hxs _ (List.getElem_mem hlt)
    rw [q1] at g2; cases g2
    obtain ⟨it2, n2, k1, k2, _⟩ := X.rel.list q2
    refine ⟨r', it2, rfl, ⟨_, k1, rfl, _, rfl⟩, fun j z hj => ?_⟩
    have hlt2 : j < ys.length := by
      have := (Array.getElem?_eq_some_iff.mp hj).1
      rw [k2.length]; simpa using this
    obtain ⟨r2, g3, g4⟩ := k2.get (List.getElem?_eq_getElem hlt2)
    rw [Array.getElem?_toList, hj] at g3; cases g3
    exact q3 _ (List.getElem_mem hlt2) z g4
  let sz : Nat → Nat := fun i => match acc[i]? with
    | some (.ref L) => (match s.heap.get? L with
      | some o => (match o.data with | .seq r _ => r.size | _ => 0)
      | none => 0)
    | _ => 0
  refine make2 (sz := sz) (OK := fun z => ∀ t : Shared, t.TypeIs z T) (by rw [hcd]; exact TK.code) hcode htab M S.co (S.clos env) S.nc S.zero (S.loc x1 List.mem_cons_self) (S.loc x2 (List.mem_cons_of_mem _ List.mem_cons_self)) hd1 S.kind (by have := hR.dp; (first | lia | omega)) hR.hd (fun Q' hq => loadVar hv X ey fun r hr => by cases hr; exact hq) (items := acc) ⟨_, hS, rfl, _, rfl⟩ lim1 X.rel.gens (fun i v hi => ?_) ?_ ?_ (fun _ => rfl)
  · obtain ⟨L, r, rfl, h2, h3⟩ := rows i v hi
    refine ⟨L, r, rfl, h2, ?_, h3⟩
    obtain ⟨o, g1, _, n, g2⟩ := h2
    show r.size = (match acc[i]? with
    | some (.ref L) => (match s.heap.get? L with
      | some o => (match o.data with | .seq r _ => r.size | _ => 0)
      | none => 0)
    | _ => 0)
    rw [hi]; dsimp only; rw [g1]; dsimp only; rw [g2]
  · intro code C A' E' z t m₂ hA hz hns' hm hkp
    exact elt_type (fns := K.fns) (env := genEnv gsc _ C code builtinsNs env) S.kind (S.loc x2 (List.mem_cons_of_mem _ List.mem_cons_self)) hel (by show t.heap.Ns env.globals _; rw [X.fr.glb]; exact keep_ns nsG htab.2 hkp) (keep_ns nsB htab.2 hkp) (hK.bf .type) (hK.ty T hT) hns' hm (hz t) (ty_ne hT)
  · intro a g n C I s₅ ps' k5 c5 t5 hm o5 hC hI B L
    obtain ⟨more, rfl⟩ := hm
    have tr := TabK.triples c5 t5
    refine all2_call hR.hd (by have := hR.dp; (first | lia | omega)) B L fun s₆ k6 g6 o6 => ?_
    have lt : ∀ b o, s.heap.get? b = some o → b ≠ C ∧ b ≠ I := fun b o e => ⟨Nat.ne_of_lt (Nat.lt_of_lt_of_le (Heap.lt_size e) hC), Nat.ne_of_lt (Nat.lt_of_lt_of_le (Heap.lt_size e) hI)⟩
    have kk : ∀ b o, b ≠ C ∧ b ≠ I → s₅.heap.get? b = some o → s₆.heap.get? b = some o := fun b o hb e => k6 b o (Heap.lt_size e) hb.1 hb.2 e
    exact hQ s₆ (X.tabGrow TK.tab TK.hole (fun b o hb e => kk b o (lt b o e) (k5 b o hb e)) htab.2 (kk _ _ (lt _ _ htab.2) t5.2) tr (o6.trans o5) g6)
end
end MP

end
section
/-! law by hand -/
namespace MP
open PySem PyProof.Rows

noncomputable def splitB (l : List Stmt) (n : Nat) (f : List Stmt → Stmt → List Stmt → Bool) : Bool := match l.drop n with
  | a :: r => f (l.take n) a r
  | [] => false
theorem splitB_inv {l : List Stmt} {n : Nat} {f : List Stmt → Stmt → List Stmt → Bool} (h : splitB l n f = true) : ∃ l1 a r, l = l1 ++ a :: r ∧ f l1 a r = true := by
  unfold splitB at h
  split at h
  · rename_i a r q
    exact ⟨_, _, _, by rw [← q, List.take_append_drop], h⟩
  · cases h
noncomputable def lawB (fns : List String) (fd : FuncData) : Bool := chkHead fd ["script"] && bodyB fd fun b => splitB b 12 fun l1 i1 r1 => chkSs fns fd.scope L103.law_p1_body l1 && (ifAllB fd.scope (gen2B fns fd.scope "flow" "line" "x" "int") i1 &&
  splitB r1 6 fun l2 i2 l3 => chkSs fns fd.scope L103.law_p2_body l2 && (ifAllB fd.scope (gen1B fns fd.scope "side" "b" "bool") i2 && chkSs fns fd.scope L103.law_p3_body l3))
section
variable {prog : Program} {w : World} {K : KK}
theorem execs_app (l rest : List Stmt) (env : PySem.Env) : PySem.execs (l ++ rest) env = PySem.execs l env >>= fun f => match f with | .next => PySem.execs rest env | f => pure f := by
  induction l with
  | nil =>
    show _ = (pure PySem.Flow.next : Sem PySem.Flow) >>= _
    rw [pure_bind]; rfl
  | cons s l ih =>
    rw [List.cons_append, PySem.execs_cons, PySem.execs_cons, bind_assoc]
    congr 1
    funext f
    cases f with
    | next => exact ih
    | _ => rw [pure_bind]
theorem wp_app {A : Around} {E : Value → Shared → Prop} {env : PySem.Env} {s : Shared} {l rest : List Stmt} {Q : PySem.Flow → Shared → Prop}
    (h : wpAny (model prog w) A (PySem.execs l env) (fun f s' => match f with | .next => wpAny (model prog w) A (PySem.execs rest env) Q E s' | f => Q f s') E s) : wpAny (model prog w) A (PySem.execs (l ++ rest) env) Q E s := by
  rw [execs_app]
  refine wpAny_bind (wpAny_mono h (fun f s' h' => ?_) fun _ _ e => e)
  cases f with
  | next => exact h'
  | _ => exact wpAny_pure h'
theorem law_hand {fs : List (String × Fn)} (hK : KOk K) (hB : BuK K) {fd : FuncData} {cc tb : PySem.Addr} (T : TabK K fd.code cc tb) (D : DefAt K "law" (lawB K.fns) fd) (hf : ∀ p ∈ fs, FnAt K p.1 p.2) {h : H} {Q : V → H → Prop} (hq : lawW ⟨K.ns, K.gc, table K.ns K.gc fs⟩ h Q) :
    ∃ a, K.mg (Str.ofString "law") = some (.ref a) ∧ ∀ (l : List PySem.Env) (A : Around) (P : Prt) (s : Shared) (rs : List Value) (E : Value → Shared → Prop), Rm A (fs.length + 1) → A.frames = some l → Rel (K.at l) P h s → VRs (K.at l) [.scr] rs →
      wpAny (model prog w) A (call (.ref a) rs) (fun r s' => ∃ v h', VR (K.at l) v r ∧ Rel (K.at l) P h' s' ∧ Q v h') E s := by
  obtain ⟨a, o, h1, h2, h3, h4, h5⟩ := D.at'
  refine ⟨a, h1, fun l A P s rs E hR hA R hvs => ?_⟩
  obtain ⟨h5, h6⟩ := and_tt h5
  obtain ⟨body, hb, h6⟩ := bodyB_inv h6
  obtain ⟨l1, i1, r1, rfl, h7⟩ := splitB_inv h6
  obtain ⟨g1, h8⟩ := and_tt h7
  obtain ⟨g2, h9⟩ := and_tt h8
  obtain ⟨l2, i2, l3, rfl, h10⟩ := splitB_inv h9
  obtain ⟨g3, h11⟩ := and_tt h10
  obtain ⟨g4, g5⟩ := and_tt h11
  refine fn_enter hK h2 h3 h4 h5 hb rfl (by have := hR.dp; (first | lia | omega)) R hvs fun env s0 e1 eF eC X => ?_
  have hA' : (A.deeper env).frames = some (env :: l) := Around.frames_deeper hA
  have rmk : Rm (A.deeper env) fs.length := ⟨hR.hd, by have := hR.dp; show A.depth + 1 + fs.length < _; (first | lia | omega), by have := hR.un; show A.units + 3 + 4 * fs.length + 100 < _; (first | lia | omega)⟩
  have rm0 : Rm (A.deeper env) 0 := ⟨hR.hd, by have := hR.dp; show A.depth + 1 + 0 < _; (first | lia | omega), by have := hR.un; show A.units + 3 + 4 * 0 + 100 < _; (first | lia | omega)⟩
  have cx : Cx prog w (K.at (env :: l)) ⟨K.ns, K.gc, table K.ns K.gc fs⟩ (A.deeper env) fs.length := ⟨hK.at _, rfl, rfl, rmk, hA', valid_table hK fs hf⟩
  have hB' : BuK (K.at (env :: l)) := ⟨hB.all, hB.mod⟩
  have T' : TabK (K.at (env :: l)) fd.code cc tb := ⟨T.code, T.tab, T.hole, T.obj⟩
  rw [← e1] at g1 g2 g3 g4 g5
  have fin : ∀ {r : Value} {v : V} {σ : Env} {h' : H} {s' : Shared}, VR (K.at (env :: l)) v r → St (K.at (env :: l)) P allOwn env σ h' s' → Q v h' → ∃ v h', VR (K.at l) v r ∧ Rel (K.at l) P h' s' ∧ Q v h' := fun hv X' hq => ⟨_, _, hv.at l, X'.rel.at l (fun e he => X'.rel.frs e (List.mem_cons_of_mem _ he)) (fun e he => X'.rel.frm e (List.mem_cons_of_mem _ he)), hq⟩
  refine wp_app (wpAny_mono (sndSs cx _ g1 X hq) (fun fl s₁ hx => ?_) fun _ _ e => e)
  obtain ⟨fl, σ₁, h₁, hfl, X₁, hq₁⟩ := hx
  cases hfl with
  | ret hv => exact fin hv X₁ hq₁
  | next =>
  obtain ⟨f, xs, ef, hf1, hxs, hq₁⟩ := hq₁
  refine wpAny_execs_cons (if_all (hK.at _) hB' X₁ g2 (fun y Q' hy _ hQ' => two_gen (hK.at _) hB' T' eC rm0 X₁ hy (by decide +kernel) ef hf1 (by simp [tyNames]) (fun v hv => ?_) hQ') fun s₂ X₂ => ?_)
  · obtain ⟨r, is, rfl, hr⟩ := hxs v hv
    refine ⟨r, _, rfl, hr, fun u hu r hr t => ?_⟩
    obtain ⟨i, _, rfl⟩ := List.mem_map.mp hu
    cases hr; rfl
  refine wp_app (wpAny_mono (sndSs cx _ g3 X₂ hq₁) (fun fl s₃ hx => ?_) fun _ _ e => e)
  obtain ⟨fl, σ₃, h₃, hfl, X₃, hq₃⟩ := hx
  cases hfl with
  | ret hv => exact fin hv X₃ hq₃
  | next =>
  obtain ⟨f', bs, ef', hf', hq₃⟩ := hq₃
  refine wpAny_execs_cons (if_all (hK.at _) hB' X₃ g4 (fun y Q' hy _ hQ' => one_gen (hK.at _) hB' T' eC rm0 X₃ hy ef' hf' (by simp [tyNames]) (fun u hu r hr t => ?_) hQ') fun s₄ X₄ => ?_)
  · obtain ⟨b, _, rfl⟩ := List.mem_map.mp hu
    cases hr; rfl
  refine wpAny_mono (sndSs cx _ g5 X₄ hq₃) (fun fl s₅ hx => ?_) fun _ _ e => e
  obtain ⟨fl, σ₅, h₅, hfl, X₅, hq₅⟩ := hx
  cases hfl with
  | ret hv => exact fin hv X₅ hq₅
  | next => exact fin .none X₅ hq₅
end
end MP

end
section
/-! the top, with a def by hand and a table of codes that may grow -/
namespace MP
open PySem PySem.W PyProof.Rows
/-- nothing at t -/
noncomputable def holed (h : PySem.Heap) (t : PySem.Addr) : PySem.Heap := h.update t fun o => { o with data := .freed }
theorem holed_ne {h : PySem.Heap} {t b : PySem.Addr} (hb : b ≠ t) : (holed h t).get? b = h.get? b := Heap.get?_update_ne _ _ _ _ hb
theorem holed_at {h : PySem.Heap} {t : PySem.Addr} : (holed h t).get? t = none := by
  cases q : (holed h t).get? t with
  | none => rfl
  | some o =>
    obtain ⟨h1, h2⟩ := Heap.get?_some_iff.mp q
    cases h
    simp only [holed, Heap.update, Array.getElem?_modify, if_true] at h1
    rename_i objs l
    cases q2 : objs[t]? with
    | none => rw [q2] at h1; cases h1
    | some o' => rw [q2] at h1; cases h1; cases h2
noncomputable def without (F : Frag) (t : PySem.Addr) : Frag := F.filter fun p => p.1 != t
theorem without_look {F : Frag} {t a : PySem.Addr} {o : Obj} (e : (without F t).lookup a = some o) : a ≠ t ∧ F.lookup a = some o := by
  unfold without at e
  induction F with
  | nil => cases e
  | cons p r ih =>
    rw [List.filter_cons] at e
    split at e
    · rename_i hp
      rw [List.lookup_cons] at e
      rw [List.lookup_cons]
      split at e
      · rename_i hq
        have : a = p.1 := by simpa using hq
        exact ⟨by rw [this]; simpa using hp, e⟩
      · exact ih e
    · rename_i hp
      obtain ⟨h1, h2⟩ := ih e
      refine ⟨h1, ?_⟩
      rw [List.lookup_cons, show (a == p.1) = false by
        have : p.1 = t := by simpa using hp
        rw [this]; simpa using h1]
      exact h2
theorem without_in {F : Frag} {h : PySem.Heap} {t : PySem.Addr} (KX : F.In h) : (without F t).In (holed h t) := fun a o e => by
  obtain ⟨h1, h2⟩ := without_look e
  rw [holed_ne h1]; exact KX _ _ h2
/-- the shape of a code, and its table -/
noncomputable def codeShape (oc : Obj) (k : PySem.Addr → Bool) : Bool :=
  (match oc.cls with | .type n => n == "code" | _ => false) && (match oc.data with
    | PySem.Data.fields (vs : Array Value) => (match (vs[11]? : Option Value) with
      | some (Value.ref P) => (match vs.getD 18 .none with | Value.str _ _ => true | _ => false) && (match vs.getD 7 .none with | Value.int _ _ => true | _ => false) && (match vs.getD 9 .none with | Value.bool _ => true | _ => false) && (match vs.getD 10 .none with | Value.int _ _ => true | _ => false) && k P
      | _ => false)
    | _ => false)
theorem codeShape_inv {oc : Obj} {k : PySem.Addr → Bool} (h : codeShape oc k = true) : ∃ vs P file tf flags tg inF text tt, oc.cls = .type "code" ∧ oc.data = .fields vs ∧ vs[11]? = some (.ref P) ∧ vs.getD 18 .none = .str file tf ∧ vs.getD 7 .none = .int flags tg ∧ vs.getD 9 .none = .bool inF ∧ vs.getD 10 .none = .int text tt ∧ k P = true := by
  unfold codeShape at h
  rw [Bool.and_eq_true] at h
  obtain ⟨h1, h2⟩ := h
  split at h1
  · rename_i n hn
    split at h2
    · rename_i vs hv
      split at h2
      · rename_i P hP
        simp only [Bool.and_eq_true] at h2
        obtain ⟨⟨⟨⟨a1, a2⟩, a3⟩, a4⟩, a5⟩ := h2
        split at a1
        · rename_i f tf e18
          split at a2
          · rename_i fl tg e7
            split at a3
            · rename_i b e9
              split at a4
              · rename_i tx tt e10
                exact ⟨vs, P, _, _, _, _, _, _, _, by rw [hn, beq_iff_eq.mp h1], hv, hP, e18, e7, e9, e10, a5⟩
              · cases a4
            · cases a3
          · cases a2
        · cases a1
      · cases h2
    · cases h2
  · cases h1
noncomputable def tab0B (o : Option Obj) : Bool := match o with
  | some ⟨.none, none, .fields vs, sl⟩ => vs.isEmpty && sl.isEmpty
  | _ => false
theorem tab0B_inv {o : Option Obj} (h : tab0B o = true) : o = some (tabOb #[]) := by
  unfold tab0B at h
  split at h
  · rename_i vs sl
    rw [Bool.and_eq_true] at h
    rw [Array.isEmpty_iff.mp h.1, Array.isEmpty_iff.mp h.2]
  · cases h
/-- the def by hand, its code and the code's table -/
noncomputable def handB (F : Frag) (f : String) (k : PySem.Addr → FuncData → Bool) : Bool :=
  match nsIn F mainGlobals (Str.ofString f) with
  | some (some (.ref a)) => (match F.lookup a with
    | some o => (match o.data with
      | .func fd => codeB F fd.code fd.qualname && (match fd.code with
        | .ref c => (match F.lookup c with
          | some oc => codeShape oc fun P => a != P && (c != P && (tab0B (F.lookup P) && k P fd))
          | none => false)
        | _ => false)
      | _ => false)
    | none => false)
  | _ => false
theorem handB_inv {F : Frag} {f : String} {k : PySem.Addr → FuncData → Bool} (h : handB F f k = true) : ∃ a o fd c oc P, nsIn F mainGlobals (Str.ofString f) = some (some (.ref a)) ∧ F.lookup a = some o ∧ o.data = .func fd ∧ codeB F fd.code fd.qualname = true ∧ fd.code = .ref c ∧ F.lookup c = some oc ∧ a ≠ P ∧ c ≠ P ∧ F.lookup P = some (tabOb #[]) ∧ k P fd = true ∧
    ∃ vs file tf flags tg inF text tt, oc.cls = .type "code" ∧ oc.data = .fields vs ∧ vs[11]? = some (.ref P) ∧ vs.getD 18 .none = .str file tf ∧ vs.getD 7 .none = .int flags tg ∧ vs.getD 9 .none = .bool inF ∧ vs.getD 10 .none = .int text tt := by
  unfold handB at h
  split at h
  · rename_i a hn
    split at h
    · rename_i o ho
      split at h
      · rename_i fd hd
        rw [Bool.and_eq_true] at h
        obtain ⟨h1, h2⟩ := h
        split at h2
        · rename_i c hc
          split at h2
          · rename_i oc hoc
            obtain ⟨vs, P, file, tf, flags, tg, inF, text, tt, a1, a2, a3, a4, a5, a6, a7, a8⟩ := codeShape_inv h2
            simp only [Bool.and_eq_true, bne_iff_ne] at a8
            obtain ⟨b1, b2, b3, b4⟩ := a8
            exact ⟨a, o, fd, c, oc, P, hn, ho, hd, h1, hc, hoc, b1, b2, tab0B_inv b3, b4, vs, file, tf, flags, tg, inF, text, tt, a1, a2, a3, a4, a5, a6, a7⟩
          · cases h2
        · cases h2
      · cases h
    · cases h
  · cases h
noncomputable def modB (F : Frag) : Bool := match nsIn F mainGlobals (Str.ofString "__builtins__") with
  | some (some (.ref bm)) => bm != builtinsNs && (match F.lookup bm with
    | some ⟨.type n, some d, .plain, _⟩ => n == "module" && d == builtinsNs
    | _ => false)
  | _ => false
theorem modB_inv {F : Frag} (h : modB F = true) : ∃ bm ob, nsIn F mainGlobals (Str.ofString "__builtins__") = some (some (.ref bm)) ∧ bm ≠ builtinsNs ∧ F.lookup bm = some ob ∧ ob.cls = .type "module" ∧ ob.dict = some builtinsNs ∧ ob.data = .plain := by
  unfold modB at h
  split at h
  · rename_i bm hn
    rw [Bool.and_eq_true, bne_iff_ne] at h
    obtain ⟨h1, h2⟩ := h
    split at h2
    · rename_i n d sl hl
      rw [Bool.and_eq_true, beq_iff_eq, beq_iff_eq] at h2
      exact ⟨bm, _, hn, h1, hl, by rw [h2.1], by rw [h2.2], rfl⟩
    · cases h2
  · cases h
noncomputable def buB (F : Frag) : Bool := nsIn F mainGlobals (Str.ofString "all") == some none && modB F
theorem all_boot : bootBuiltins (Str.ofString "all") = some (.builtin "all") ∧ Str.ofString "all" ≠ "__name__" := ⟨by kernel_rfl, by decide +kernel⟩
theorem builtins_str : Str.ofString "__builtins__" = "__builtins__" := by decide +kernel
/-- the whole look -/
noncomputable def chkT (fs : List (String × Fn)) (F : Frag) : Bool := handB F "law" fun P fd =>
  bfB (without F P) && (buB (without F P) && ((fs.all fun p => fnB (without F P) (fs.map (·.1)) p.1 p.2) && lawB (fs.map (·.1)) fd))
/-- all that the law's own call needs -/
structure Ready (K : KK) (fs : List (String × Fn)) (h : PySem.Heap) (scr : PySem.Addr) (os : OsState) (mg : Str → Option Value) (ns : List Int) : Prop where
  scr : K.scr = scr
  os : K.os = os
  mg : K.mg = mg
  ns : K.ns = ns
  ok : KOk K
  fns : ∀ p ∈ fs, FnAt K p.1 p.2
  bu : BuK K
  tab : ∃ fd c P, K.tab = some P ∧ K.base = holed h P ∧ h.TableAt c P #[] ∧ TabK K fd.code c P ∧ DefAt K "law" (lawB K.fns) fd
theorem kok_ofT {F : Frag} {h : PySem.Heap} {mg mb : Str → Option Value} {p : Program} {loose : List Str} {mean : ExcName → Option Value} {os : OsState} {ns : List Int} {scr : PySem.Addr} {items : List Value} {fs : List (String × Fn)}
    (T : Top p loose mean mg mb h) (KX : F.In h) (hc : chkT fs F = true) (hl : h.IsList scr items.toArray) (hi : IntsAre items ns) (hn : ns.length ≤ lim) :
    ∃ K : KK, Ready K fs h scr os mg ns := by
  obtain ⟨a, o, fd, c, oc, P, a1, a2, a3, a4, a5, a6, a7, a8, a9, a10, vs, file, tf, flags, tg, inF, text, tt, b1, b2, b3, b4, b5, b6, b7⟩ := handB_inv hc
  obtain ⟨c1, a11⟩ := and_tt a10
  obtain ⟨c2, a12⟩ := and_tt a11
  obtain ⟨c3, c4⟩ := and_tt a12
  have hP := KX _ _ a9
  have KX' : (without F P).In (holed h P) := without_in KX
  have kb : ∀ b o, b ≠ P → h.get? b = some o → (holed h P).get? b = some o := fun b o hb e => (holed_ne hb).trans e
  have nsne : ∀ {b m}, h.Ns b m → b ≠ P := fun hn q => by
    obtain ⟨o1, es, ep, h1, h2, _⟩ := hn
    rw [q, hP] at h1; cases h1; cases h2
  have nsk : ∀ {b m}, h.Ns b m → (holed h P).Ns b m := fun hn => hn.at' fun o e => kb _ o (nsne hn) e
  have hG := nsk T.g
  have hBn := nsk T.b
  have hlim : (holed h P).NoLimit := T.nolimit.extBut (fun b o hb e => kb b o hb e) (by
    obtain ⟨_, hns, _⟩ := T.nolimit
    exact nsne hns)
  have hl' : (holed h P).IsList scr items.toArray := hl.at fun o e => kb _ o (fun q => by
    obtain ⟨o1, h1, h2, _⟩ := hl
    rw [q, hP] at h1; cases h1; cases h2) e
  let K : KK := { scr := scr, os := os, base := holed h P, mg := mg, mb := mb, ns := ns, gc := fun _ => Option.none, fns := fs.map (·.1), fl := [], tab := some P }
  have hf' : ∀ p ∈ fs, FnAt K p.1 p.2 := fun p hp => fnB_at (K := K) KX' hG (List.all_eq_true.mp c3 p hp)
  have hma : mg (Str.ofString "law") = some (.ref a) := mg_of KX T.g a1
  have ha := kb _ _ a7 (KX _ _ a2)
  have hcc := kb _ _ a8 (KX _ _ a6)
  simp only [bfB, Bool.and_eq_true, List.all_eq_true, beq_iff_eq] at c1
  have hK : KOk K := by
    refine ⟨hlim, hG, hBn, fun f => ⟨mg_none_of KX' hG (c1.1.1 f (bf_all f)), (T.builtins _ (bf_boot f).2).trans (bf_boot f).1⟩, ⟨mg_none_of KX' hG c1.1.2, (T.builtins _ range_boot.2).trans range_boot.1⟩, fun t ht => ⟨mg_none_of KX' hG (c1.2 t ht), (T.builtins _ (ty_boot t ht).2).trans (ty_boot t ht).1⟩, ⟨_, hl', by simpa using vrs_ints hi⟩, hn, fun f hfn => ?_, fun x v e => by cases e⟩
    obtain ⟨p, hp, e⟩ := List.mem_map.mp (List.contains_iff_mem.mp hfn)
    obtain ⟨a', o', fd', h1, h2, h3, _⟩ := (hf' p hp).at'
    rw [e] at h1
    exact ⟨a', o', fd', h1, h2, h3⟩
  have hcr : (holed h P).CodeRec fd.code fd.qualname := by
    obtain ⟨c', o', vs', t', e1, e2, e3, e4⟩ := codeB_rec KX a4
    refine ⟨c', o', vs', t', e1, kb _ _ (fun q => ?_) e2, e3, e4⟩
    rw [a5] at e1; cases e1; exact a8 q
  simp only [buB, Bool.and_eq_true, beq_iff_eq] at c2
  obtain ⟨d1, d4⟩ := c2
  obtain ⟨bm, ob, m1, m2, m3, m4, m5, m6⟩ := modB_inv d4
  have hB : BuK K := ⟨⟨mg_none_of KX' hG d1, (T.builtins _ all_boot.2).trans all_boot.1⟩, bm, ob, by rw [← builtins_str]; exact mg_of KX' hG m1, m2, KX' _ _ m3, m4, m5, m6⟩
  have hT : TabK K fd.code c P := ⟨a5, rfl, holed_at, oc, vs, file, tf, flags, tg, inF, text, tt, hcc, b1, b2, b3, b4, b5, b6, b7⟩
  exact ⟨K, rfl, rfl, rfl, rfl, hK, hf', hB, fd, c, P, rfl, rfl, ⟨⟨oc, vs, KX _ _ a6, b1, b2, b3⟩, hP⟩, hT, a, o, hma, ha, a3, hcr, c4⟩
theorem mp_runT {prog : Program} {w : World} {K : KK} {fs : List (String × Fn)} {s₁ : Shared} {fa scr : PySem.Addr} {mg : Str → Option Value} {ns : List Int} {E : Value → Shared → Prop} (Z : Ready K fs s₁.heap scr s₁.os mg ns) (hgens : s₁.gens = #[])
    (hmg : mg (Str.ofString "law") = some (.ref fa)) (hn : fs.length ≤ 100)
    (law : lawW ⟨ns, K.gc, table ns K.gc fs⟩ (fun _ => Option.none) fun v _ => v = .bool true) :
    wpAny (model prog w) callerA (call (.ref fa) [.ref scr]) (fun v s' => v = .bool true ∧ OldK s₁.heap s'.heap ∧ s'.os = s₁.os ∧ AllBare s'.gens) E s₁ := by
  obtain ⟨fd, cc, P, ht, hb, hT, TK, D⟩ := Z.tab
  have law' : lawW ⟨K.ns, K.gc, table K.ns K.gc fs⟩ (fun _ => Option.none) fun v _ => v = .bool true := by rw [Z.ns]; exact law
  obtain ⟨a, h1, h2⟩ := law_hand (prog := prog) (w := w) Z.ok Z.bu TK D Z.fns law'
  rw [Z.mg, hmg] at h1; cases h1
  have kb : ∀ b o, K.base.get? b = some o → s₁.heap.get? b = some o := fun b o e => by
    rw [hb] at e
    by_cases q : b = P
    · rw [q, holed_at] at e; cases e
    · rw [holed_ne q] at e; exact e
  have R : Rel (K.at []) (fun b => s₁.heap.get? b) (fun _ => Option.none) s₁ := ⟨⟨kb, fun t e => by
      have : P = t := Option.some.inj (ht.symm.trans e)
      subst this
      exact ⟨_, hT.2, #[], rfl, trivial⟩⟩, kb, fun _ _ e => ⟨_, e, .refl _⟩, fun e he => (nomatch he), fun e he => (nomatch he), fun a o e => (by cases e), Z.os.symm, .of_eq hgens⟩
  rw [← Z.scr]
  refine wpAny_mono (h2 [] callerA _ s₁ [.ref K.scr] E ⟨rfl, ?_, ?_⟩ rfl R (.cons (VR.scr (K := K.at [])) .nil)) (fun r s' hx => ?_) fun _ _ e => e
  · show 1 + claimMargin + (fs.length + 1) < recursionLimit
    unfold claimMargin recursionLimit; (first | lia | omega)
  · show 4 + 4 * (fs.length + 1) + 100 < cLine
    unfold cLine; (first | lia | omega)
  · obtain ⟨v, h', hv, R', rfl⟩ := hx
    cases hv
    refine ⟨rfl, ⟨fun b o e => ?_, fun b o e => ?_⟩, R'.os.trans Z.os, R'.gens⟩
    · by_cases q : b = P
      · subst q
        rw [hT.2] at e; cases e
        obtain ⟨o', g1, g2⟩ := R'.keep _ _ hT.2
        rcases g2 with rfl | ⟨⟨es, n, g3⟩, _⟩ | ⟨_, ps, more, g3, rfl, _⟩
        · exact .inl g1
        · cases g3
        · have : ps = #[] := by injection g3 with _ _ g4; injection g4 with g5; exact g5.symm
          subst this
          exact .inr (.inl ⟨hT.isCodeTable, rfl, #[], more, rfl, g1⟩)
      · exact .inl (R'.base b o (by show K.base.get? b = _; rw [hb, holed_ne q]; exact e))
    · obtain ⟨o', g1, _⟩ := R'.keep b o e
      exact ⟨o', g1⟩
end MP

end
open PySem PySem.W PyProof.Rows
noncomputable def MP.L103.vw : Program := MP.viewOf PySem.Challenge.pw_pd_atlas_1_03 [1,2,3,4,5,6,8,9,10,11,12,13]
set_option maxRecDepth 100000 in
set_option maxHeartbeats 8000000 in
theorem MP.L103.left : LeftO PySem.Challenge.rw_pd_atlas_1_03.row.prog MP.L103.vw [] (fun s => xlAt MP.L103.vw [] s && recOk (RowW.records PySem.Challenge.rw_pd_atlas_1_03.row.toRowW) s) (MP.chkHook 200 (MP.chkT MP.L103.fns)).obs (MP.chkHook 200 (MP.chkT MP.L103.fns)).val 2000 := by
  intro w
  kernel_rfl
set_option maxRecDepth 100000 in
set_option maxHeartbeats 8000000 in
theorem PySem.Challenge.cw_pd_atlas_1_03_holds : PySem.Challenge.rw_pd_atlas_1_03.Holds := by
  w_on
  o_law
  refine holds_open (q := MP.L103.vw) (loose := []) (Xt := fun s => xlAt MP.L103.vw [] s && recOk (RowW.records PySem.Challenge.rw_pd_atlas_1_03.row.toRowW) s) (XP := XL MP.L103.vw []) (Yf := Hook.obs (MP.chkHook 200 (MP.chkT MP.L103.fns))) (Ya := Hook.val (MP.chkHook 200 (MP.chkT MP.L103.fns))) (YP := Hook.says (MP.chkHook 200 (MP.chkT MP.L103.fns))) (N := 2000) MP.L103.left (Hook.of _) (Hook.keeps _) (fun s e => xl_of s (Bool.and_eq_true_iff.mp e).1) XL.keeps (by rfl) (by rfl) (by rfl) (fun s e => recFacts_of (Bool.and_eq_true_iff.mp e).2) (by rfl) (by assumption) (by decide +kernel) ⟨rfl, rfl, rfl, rfl, rfl, by decide +kernel⟩ ?hw ?hc
  case hw => w_witness2
  intro w s₀ s₁ mg mb G Y fa o pm cd doc dV kV ho hd hcd hD hmg hg args vals as hpre hlay hrd hwl hlo
  obtain ⟨F, KX, hF⟩ := Y
  refine Ground.open G ?_
  intro T B D TE TW
  wrow_args hpre hlay hrd hwl hlo
  rename_i ns _ _ _ _ _ _ _ scr vs _ hList _ _ _ hInts _ hmost _
  have hlen : ns.length ≤ 63 := by omega
  obtain ⟨K, Z⟩ := MP.kok_ofT (os := s₁.os) T KX hF hList hInts (by unfold MP.lim; omega)
  refine wpAny_mono (MP.mp_runT Z hg hmg (by decide) ?_) (fun v s' hx => ?_) fun _ _ e => e
  · exact MP.L103.law_ok _ _
  · obtain ⟨rfl, h1, h2, h3⟩ := hx
    exact ⟨.inl ⟨_, _, [], rfl, fun _ => rfl, ReadsW.bool true, by wrow_post, fun _ => ⟨List.nodup_nil, fun _ hm => (nomatch hm)⟩⟩, h1, h2, h3⟩
