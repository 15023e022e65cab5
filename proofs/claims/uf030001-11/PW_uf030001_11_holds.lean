import PyProof.Rows.All
import Wide.All
import Open.Line
import Wide.FinOn
import PyProof.Rows.Top
import PyProof.Rows.Many
import PyProof.EqLayable
import PyProof.Rows.Globals
import PyProof.Rows.Exc
import PyProof.PureInt
import PyProof.IsiPairs
import PyProof.NoPylong
import PyProof.StationsW
import PyProof.Rows.OwnQ
import PyProof.Rows.SeqMore
import PyProof.Rows.RuleB_floordiv
import PyProof.Rows.RuleB_mod
import PyProof.Rows.RuleB_pow
import PyProof.Rows.ListMul
import PyProof.Rows.ListMulArg
import PyProof.Rows.Chain
import PyProof.Rows.Nodes
import PyProof.FitsBits
import PyProof.Cells
import PyProof.IsRules
import PyProof.WalkInts
import PyProof.Truth
import PyProof.ListTruth
import PyProof.Rows.TupMore
import PyProof.Rows.Lst
import PyProof.Rows.StrTemp
import PyProof.Rows.Tup
import PyProof.Rows.TupSub
import PyProof.ListIndexNeg
import PyProof.SliceMore
import PyProof.ListCopy
import PyProof.Conv_int
import PyProof.Conv_int_bool
import PyProof.StrOps
import PyProof.IsiHeapPairs
import PyProof.IsiNone
import PyProof.SliceSyntax
import PyProof.Rows.TupAssign
import PyProof.Rows.TupIter
import PyProof.ForAppend
import PyProof.Walks
import PyProof.WalksMore
import KE.KRevIter
import PyProof.Rows.SeqWords
import PyProof.RangeFor
import PyProof.Rows.Range3
import KE.KRevSl
import PyProof.Rows.CellsNews
import PyProof.EnumMake
import PyProof.WalksEnum
import PyProof.ForAny
import PyProof.Rows.SeqMore3
import PyProof.EnumFor
import PyProof.DictStraight
import PyProof.ListOps
import PyProof.CompFree
import PyProof.Rows.GenSrcRange
import PyProof.Rows.CatchOwn
import PyProof.ExcBaseAll.ValueError
import PyProof.RulesAs
import PyProof.RulesDel
import PyProof.IsInstance
import PySem.Challenge.RW_uf030001_11
set_option Elab.async false
set_option maxRecDepth 100000
set_option Elab.async false
namespace Mine
open PySem

noncomputable abbrev D := PyData

inductive Cell where
  | unset
  | val (d : D)
  | own (d : D)

noncomputable abbrev Vars := List Cell

structure Fg where
  sh : Bool
  u : List Nat

noncomputable abbrev ff : Fg := ⟨false, []⟩

inductive Op where
  | add | sub | mul | fdiv | mod | pow
inductive Cm where
  | eq | ne | lt | le | gt | ge | is | isnt | isin | notin
inductive Ty where
  | int | bool | list | tuple | str

noncomputable def imm : D → Bool
  | .none | .bool _ | .int _ | .str _ => true
  | .list _ | .tuple _ | .dict _ => false

mutual
noncomputable def eqD : D → D → Bool
  | .none, .none => true
  | .bool a, .bool b => a == b
  | .bool a, .int j => (if a then 1 else 0) == j
  | .int i, .bool b => i == (if b then 1 else 0)
  | .int i, .int j => i == j
  | .str x, .str y => x == y
  | .list xs, .list ys => eqDs xs ys
  | .tuple xs, .tuple ys => eqDs xs ys
  | _, _ => false
noncomputable def eqDs : List D → List D → Bool
  | [], [] => true
  | x :: xs, y :: ys => eqD x y && eqDs xs ys
  | _, _ => false
end

noncomputable def okD : Nat → D → Bool
  | _, .none | _, .bool _ | _, .int _ => true
  | _, .str x => x.cps.all (· < 0x110000)
  | n + 1, .list xs | n + 1, .tuple xs => xs.all (okD n)
  | _, _ => false

noncomputable def truth : D → Bool
  | .none => false
  | .bool b => b
  | .int n => n != 0
  | .str s => s.cps.size != 0
  | .list xs | .tuple xs => !xs.isEmpty
  | .dict kvs => !kvs.isEmpty

noncomputable def isTy : Ty → D → Bool
  | .int, .int _ | .int, .bool _ => true
  | .bool, .bool _ => true
  | .list, .list _ => true
  | .tuple, .tuple _ => true
  | .str, .str _ => true
  | _, _ => false

set_option genInjectivity false
set_option genSizeOfSpec false
inductive Ar where
  | k
  | var (i : Nat)
  | int (n : Int)
  | bin (op : Op) (a b : Ar)
  | ask (f i : Nat) (n : Int)
mutual
inductive X where
  | var (i : Nat)
  | int (n : Int)
  | str (s : Str)
  | bool (b : Bool)
  | none
  | glob (i : Nat)
  | bin (op : Op) (a b : X)
  | neg (a : X)
  | not (a : X)
  | and (xs : Xs)
  | or (xs : Xs)
  | cmp (op : Cm) (a b : X)
  | cmp2 (o1 o2 : Cm) (a b c : X)
  | ite (t a b : X)
  | call (f : Nat) (xs : Xs)
  | len (a : X)
  | isinst (a : X) (t : Ty)
  | max (a b : X)
  | min (a b : X)
  | listOf (a : X)
  | intOf (a : X)
  | idx (a i : X)
  | upto (a i : X)
  | from (a i : X)
  | rev (a : X)
  | list (xs : Xs)
  | tup (xs : Xs)
  | comp (n : X) (a : Ar) (i : Nat)
inductive Xs where
  | nil
  | cons (x : X) (xs : Xs)
end

inductive It where
  | items (e : X)
  | back (e : X)
  | range (e : X)
  | down (e : X)

mutual
inductive S where
  | assign (i : Nat) (e : X)
  | pair (i j : Nat) (a b : X)
  | pairF (i j : Nat) (a b : X)
  | append (i : Nat) (e : X)
  | reverse (i : Nat)
  | expr (e : X)
  | ite (t : X) (a b : Ss)
  | ret (e : X)
  | retS (e : X)
  | whil (t : X) (b : Ss)
  | loop (i : Nat) (it : It) (b : Ss)
  | enum (i j : Nat) (e : X) (b : Ss)
  | never
  | raise (c : Nat)
  | tryA (i f : Nat) (xs : Xs) (c j : Nat) (b : Bool)
  | tryI (f : Nat) (xs : Xs) (c j : Nat)
  | tryR (i f : Nat) (xs : Xs) (c j o : Nat) (em : Bool)
  | appendAt (i k : Nat) (z : Int)
  | rung (st pr fi se : Nat)
  | fold (i v h l : Nat) (t r a b : X)
  | copies (j v : Nat)
  | append2 (i j : Nat) (z : Int)
inductive Ss where
  | nil
  | cons (s : S) (r : Ss)
end

inductive Fl where
  | next | brk | cont
  | ret (d : D) (fresh : Bool)

noncomputable def sizeLid : Nat := 2 ^ 24
noncomputable def wordLid : Int := 2 ^ 63
noncomputable def rangeLid : Int := 2 ^ 62

noncomputable def mulOk (a b : Int) : Prop := (a.natAbs < 2 ^ 64 ∨ b.natAbs < 2 ^ 64) ∨ (a.natAbs < 2 ^ 100000 ∧ b.natAbs < 2 ^ 100000)

noncomputable def flat (xs : List D) : Bool := xs.all imm

noncomputable def cpF (xs : List D) (f : Fg) : Fg := if flat xs then ff else ⟨true, f.u⟩

noncomputable def binK (op : Op) (x : D) (f : Fg) (y : D) (g : Fg) (K : D → Fg → Prop) : Prop :=
  match op, x, y with
  | .add, .int a, .int b => K (.int (a + b)) ff
  | .sub, .int a, .int b => K (.int (a - b)) ff
  | .mul, .int a, .int b => mulOk a b ∧ K (.int (a * b)) ff
  | .fdiv, .int a, .int b => b ≠ 0 ∧ K (.int (a.fdiv b)) ff
  | .mod, .int a, .int b => b ≠ 0 ∧ K (.int (a.fmod b)) ff
  | .pow, .int a, .int b => 0 ≤ b ∧ b < 1000 ∧ a.natAbs < 2 ^ 64 ∧ K (.int (a ^ b.toNat)) ff
  | .add, .list xs, .list ys => xs.length + ys.length ≤ sizeLid ∧ K (.list (xs ++ ys)) (cpF (xs ++ ys) ⟨true, f.u ++ g.u⟩)
  | .mul, .list xs, .int n => flat xs = true ∧ n < wordLid ∧ -wordLid ≤ n ∧ xs.length * n.toNat ≤ sizeLid ∧ K (.list (List.replicate n.toNat xs).flatten) ff
  | _, _, _ => False

noncomputable def cmpK (op : Cm) (x y : D) (K : Bool → Prop) : Prop :=
  match op, x, y with
  | .eq, .int a, .int b => K (decide (a = b))
  | .ne, .int a, .int b => K (decide (a ≠ b))
  | .lt, .int a, .int b => K (decide (a < b))
  | .le, .int a, .int b => K (decide (a ≤ b))
  | .gt, .int a, .int b => K (decide (b < a))
  | .ge, .int a, .int b => K (decide (b ≤ a))
  | .eq, x, y => okD 8 x = true ∧ okD 8 y = true ∧ K (eqD x y)
  | .ne, x, y => okD 8 x = true ∧ okD 8 y = true ∧ K (!eqD x y)
  | .is, x, .bool b => K (match x with | .bool a => a == b | _ => false)
  | .is, x, .none => K (match x with | .none => true | _ => false)
  | .isnt, x, .bool b => K (!(match x with | .bool a => a == b | _ => false))
  | .isnt, x, .none => K (!(match x with | .none => true | _ => false))
  | _, _, _ => False

noncomputable def place (n : Nat) (k : Int) : Int := if k < 0 then k + n else k

noncomputable def idxK (d : D) (f : Fg) (k : D) (K : D → Fg → Prop) : Prop :=
  match d, k with
  | .list xs, .int i | .tuple xs, .int i => -wordLid ≤ i ∧ i < wordLid ∧ 0 ≤ place xs.length i ∧ ∃ x, xs[(place xs.length i).toNat]? = some x ∧ K x (if imm x then ff else f)
  | _, _ => False

noncomputable def cut (n : Nat) (k : Int) : Nat := if k < 0 then (k + n).toNat else k.toNat

noncomputable def rd (ρ : Vars) (i : Nat) (K : D → Fg → Prop) : Prop :=
  match ρ[i]? with
  | some (.val d) => K d ⟨!imm d, []⟩
  | some (.own d) => K d ⟨false, if imm d then [] else [i]⟩
  | _ => False

noncomputable def br : Bool → Prop → Prop → Prop
  | true, a, _ => a
  | false, _, b => b
theorem br_of {c : Bool} {a b : Prop} (h1 : c = true → a) (h2 : c = false → b) : br c a b := by cases c; exact h2 rfl; exact h1 rfl
theorem br_tt {c : Bool} {a b : Prop} (h : c = true) (h1 : a) : br c a b := by subst h; exact h1
theorem br_ff {c : Bool} {a b : Prop} (h : c = false) (h1 : b) : br c a b := by subst h; exact h1

noncomputable abbrev Calls := Nat → List D → (D → Bool → Prop) → Prop

noncomputable def arK (Φ : Calls) (ρ : Vars) (k : Int) : Ar → (Int → Prop) → Prop
  | .k, K => K k
  | .var i, K => match ρ[i]? with
    | some (.val (.int n)) => K n
    | _ => False
  | .int n, K => K n
  | .bin op a b, K => arK Φ ρ k a fun x => arK Φ ρ k b fun y => binK op (.int x) ff (.int y) ff fun d _ => match d with
    | .int z => K z
    | _ => False
  | .ask f i n, K => match ρ[i]? with
    | some (.val d) => Φ f [d, .int n] fun r _ => match r with
      | .int z => K z
      | _ => False
    | _ => False

mutual
noncomputable def wE (Φ : Calls) (ρ : Vars) : X → (D → Fg → Prop) → Prop
  | .var i, K => rd ρ i K
  | .int n, K => K (.int n) ff
  | .str s, K => K (.str s) ff
  | .bool b, K => K (.bool b) ff
  | .none, K => K .none ff
  | .glob i, K => Φ (1000 + i) [] fun d _ => imm d = true ∧ K d ff
  | .bin op a b, K => wE Φ ρ a fun x f => wE Φ ρ b fun y g => binK op x f y g K
  | .neg a, K => wE Φ ρ a fun x _ => match x with | .int n => K (.int (-n)) ff | _ => False
  | .not a, K => wE Φ ρ a fun x _ => K (.bool (!truth x)) ff
  | .and xs, K => wAnd Φ ρ xs K
  | .or xs, K => wOr Φ ρ xs K
  | .cmp op a b, K => wE Φ ρ a fun x _ => wE Φ ρ b fun y _ => cmpK op x y fun r => K (.bool r) ff
  | .cmp2 o1 o2 a b c, K => wE Φ ρ a fun x _ => wE Φ ρ b fun y _ => cmpK o1 x y fun r => br r (wE Φ ρ c fun z _ => cmpK o2 y z fun r => K (.bool r) ff) (K (.bool false) ff)
  | .ite t a b, K => wE Φ ρ t fun d _ => br (truth d) (wE Φ ρ a K) (wE Φ ρ b K)
  | .call f xs, K => wL Φ ρ xs fun ds _ => Φ f ds fun d fr => K d (if imm d then ff else if fr then ff else ⟨true, List.range ρ.length⟩)
  | .len a, K => wE Φ ρ a fun x _ => match x with
      | .list xs => K (.int xs.length) ff
      | .tuple xs => K (.int xs.length) ff
      | .str s => K (.int s.cps.size) ff
      | _ => False
  | .isinst a t, K => wE Φ ρ a fun x _ => K (.bool (isTy t x)) ff
  | .max a b, K => wE Φ ρ a fun x _ => wE Φ ρ b fun y _ => match x, y with
      | .int m, .int n => K (.int (if n > m then n else m)) ff
      | _, _ => False
  | .min a b, K => wE Φ ρ a fun x _ => wE Φ ρ b fun y _ => match x, y with
      | .int m, .int n => K (.int (if n < m then n else m)) ff
      | _, _ => False
  | .listOf a, K => wE Φ ρ a fun x f => match x with
      | .list xs => K (.list xs) (cpF xs f)
      | _ => False
  | .intOf a, K => wE Φ ρ a fun x _ => match x with
      | .bool b => K (.int (if b then 1 else 0)) ff
      | .int n => K (.int n) ff
      | _ => False
  | .idx a i, K => wE Φ ρ a fun x f => wE Φ ρ i fun k _ => idxK x f k K
  | .upto a i, K => wE Φ ρ a fun x f => wE Φ ρ i fun k _ => match x, k with
      | .list xs, .int n => K (.list (xs.take (cut xs.length n))) (cpF (xs.take (cut xs.length n)) f)
      | _, _ => False
  | .from a i, K => wE Φ ρ a fun x f => wE Φ ρ i fun k _ => match x, k with
      | .list xs, .int n => K (.list (xs.drop (cut xs.length n))) (cpF (xs.drop (cut xs.length n)) f)
      | _, _ => False
  | .rev a, K => wE Φ ρ a fun x f => match x with
      | .list xs => K (.list xs.reverse) (cpF xs.reverse f)
      | _ => False
  | .list xs, K => wL Φ ρ xs fun ds f => ds.length ≤ sizeLid ∧ K (.list ds) f
  | .tup xs, K => wL Φ ρ xs fun ds f => ds.length ≤ sizeLid ∧ K (.tuple ds) f
  | .comp n a i, K => wE Φ ρ n fun x _ => match x with
      | .int m => 0 ≤ m ∧ m ≤ 5000 ∧ ∃ b : Int, ρ[i]? = some (.val (.int b)) ∧ 0 < b ∧ (∀ k : Nat, (k : Int) < m → arK Φ ρ k a fun _ => True) ∧
        ∀ zs : List Int, zs.length = m.toNat → (∀ z ∈ zs, 0 ≤ z ∧ z < b) → K (.list (zs.map .int)) ff
      | _ => False
noncomputable def wAnd (Φ : Calls) (ρ : Vars) : Xs → (D → Fg → Prop) → Prop
  | .nil, _ => False
  | .cons x .nil, K => wE Φ ρ x K
  | .cons x xs, K => wE Φ ρ x fun d f => br (truth d) (wAnd Φ ρ xs K) (K d f)
noncomputable def wOr (Φ : Calls) (ρ : Vars) : Xs → (D → Fg → Prop) → Prop
  | .nil, _ => False
  | .cons x .nil, K => wE Φ ρ x K
  | .cons x xs, K => wE Φ ρ x fun d f => br (truth d) (K d f) (wOr Φ ρ xs K)
noncomputable def wL (Φ : Calls) (ρ : Vars) : Xs → (List D → Fg → Prop) → Prop
  | .nil, K => K [] ff
  | .cons x xs, K => wE Φ ρ x fun d f => wL Φ ρ xs fun ds g => K (d :: ds) ⟨f.sh || g.sh, f.u ++ g.u⟩
end

noncomputable def wT (Φ : Calls) (ρ : Vars) (x : X) (K : Bool → Prop) : Prop := wE Φ ρ x fun d _ => K (truth d)

noncomputable def dem : Vars → List Nat → Vars
  | ρ, [] => ρ
  | ρ, j :: r => match ρ[j]? with
    | some (.own d) => dem (ρ.set j (.val d)) r
    | _ => dem ρ r

noncomputable def asg (ρ : Vars) (i : Nat) (d : D) (f : Fg) : Vars :=
  if imm d then ρ.set i (.val d) else if f.sh = false ∧ f.u = [] then ρ.set i (.own d) else (dem ρ f.u).set i (.val d)

noncomputable def pairAsg (ρ : Vars) (i j : Nat) (x : D) (f : Fg) (y : D) (k : Fg) : Vars :=
  if f.sh = false ∧ k.sh = false ∧ f.u ++ k.u = [] then asg (asg ρ j y k) i x f else asg (asg ρ j y ⟨true, f.u ++ k.u⟩) i x ⟨true, f.u ++ k.u⟩

noncomputable def wIt (Φ : Calls) (ρ : Vars) : It → (List D → List Nat → Prop) → Prop
  | .items e, K => wE Φ ρ e fun x f => match x with | .list xs => K xs f.u | _ => False
  | .back e, K => wE Φ ρ e fun x f => match x with | .list xs => K xs.reverse f.u | _ => False
  | .range e, K => wE Φ ρ e fun x _ => match x with | .int n => n < rangeLid ∧ -rangeLid ≤ n ∧ K ((List.range n.toNat).map fun (k : Nat) => .int k) [] | _ => False
  | .down e, K => wE Φ ρ e fun x _ => match x with | .int n => n < rangeLid ∧ -rangeLid ≤ n ∧ K ((List.range (n + 1).toNat).map fun (k : Nat) => .int (n - k)) [] | _ => False

noncomputable def foldV (ρ : Vars) (v h l i : Nat) (d x y z : D) : Vars := (((ρ.set v (.val d)).set h (.val x)).set l (.val y)).set i (.val z)
noncomputable def flatL : D → Bool
  | .list xs => flat xs
  | _ => false

mutual
noncomputable def wS (Φ : Calls) : S → (Fl → Vars → Prop) → Vars → Prop
  | .assign i e, Q, ρ => wE Φ ρ e fun d f => Q .next (asg ρ i d f)
  | .pair i j a b, Q, ρ => wE Φ ρ a fun x f => wE Φ ρ b fun y k => Q .next (pairAsg ρ i j x f y k)
  | .pairF i j a b, Q, ρ => wE Φ ρ a fun x _ => wE Φ ρ b fun y _ => imm x = true ∧ imm y = true ∧ Q .next ((ρ.set i (.val x)).set j (.val y))
  | .append i e, Q, ρ => match ρ[i]? with
      | some (.own (.list xs)) => wE Φ ρ e fun d f => f.sh = false ∧ f.u = [] ∧ xs.length + 1 ≤ sizeLid ∧ Q .next (ρ.set i (.own (.list (xs ++ [d]))))
      | _ => False
  | .reverse i, Q, ρ => match ρ[i]? with
      | some (.own (.list xs)) => Q .next (ρ.set i (.own (.list xs.reverse)))
      | _ => False
  | .expr e, Q, ρ => wE Φ ρ e fun _ _ => Q .next ρ
  | .ite t a b, Q, ρ => wT Φ ρ t fun r => br r (wSs Φ a Q ρ) (wSs Φ b Q ρ)
  | .ret e, Q, ρ => wE Φ ρ e fun d f => Q (.ret d (!f.sh && decide f.u.Nodup)) ρ
  | .retS e, Q, ρ => wE Φ ρ e fun d _ => Q (.ret d false) ρ
  | .whil t b, Q, ρ => ∃ I : Nat → Vars → Prop, (∃ n, I n ρ) ∧ ∀ n σ, I n σ → wT Φ σ t fun r =>
      br r (wSs Φ b (fun fl τ => match fl with | .next | .cont => ∃ m, m < n ∧ I m τ | .brk => Q .next τ | .ret d fr => Q (.ret d fr) τ) σ) (Q .next σ)
  | .loop i it b, Q, ρ => wIt Φ ρ it fun ds u => ∃ I : Nat → Vars → Prop, I 0 (dem ρ u) ∧
      (∀ k σ d, ds[k]? = some d → I k σ → wSs Φ b (fun fl τ => match fl with | .next | .cont => I (k + 1) τ | .brk => Q .next τ | .ret d fr => Q (.ret d fr) τ) (asg σ i d ⟨true, []⟩)) ∧
      ∀ σ, I ds.length σ → Q .next σ
  | .enum i j e b, Q, ρ => wE Φ ρ e fun x f => match x with
      | .list ds => ∃ I : Nat → Vars → Prop, I 0 (dem ρ f.u) ∧
        (∀ k σ d, ds[k]? = some d → I k σ → wSs Φ b (fun fl τ => match fl with | .next | .cont => I (k + 1) τ | .brk => Q .next τ | .ret d fr => Q (.ret d fr) τ) (asg (asg σ i (.int k) ff) j d ⟨true, []⟩)) ∧
        ∀ σ, I ds.length σ → Q .next σ
      | _ => False
  | .never, _, _ => False
  | .raise _, _, _ => False
  | .tryA i f xs c j b, Q, ρ => (wL Φ ρ xs fun ds _ => Φ f ds fun d fr => Q .next (asg ρ i d (if imm d then ff else if fr then ff else ⟨true, List.range ρ.length⟩))) ∨
      (wL Φ ρ xs fun ds _ => Φ (500 + f) ds fun d _ => d = .int c ∧ Q .next (ρ.set j (.val (.bool b))))
  | .tryI f xs c j, Q, ρ => ρ[j]? = some .unset ∧ wL Φ ρ xs fun ds _ => Φ (500 + f) ds fun d _ => d = .int c ∧ Q (.ret (.bool true) true) ρ
  | .tryR i f xs c j o em, Q, ρ => (wL Φ ρ xs fun ds _ => Φ f ds fun d fr => Q .next (asg ρ i d (if imm d then ff else if fr then ff else ⟨true, List.range ρ.length⟩))) ∨
      (ρ[j]? = some .unset ∧ ρ[o]? = some (.val (match em with | true => .list [] | false => .int 0)) ∧ wL Φ ρ xs fun ds _ => Φ (500 + f) ds fun d _ => d = .int c ∧ Q (.ret (.bool true) true) ρ)
  | .appendAt i k z, Q, ρ => match ρ[i]? with
      | some (.own (.tuple ds)) => (match ds[k]? with
        | some (.list xs) => xs.length + 1 ≤ sizeLid ∧ Q .next (ρ.set i (.own (.tuple (ds.set k (.list (xs ++ [.int z]))))))
        | _ => False)
      | _ => False
  | .rung st pr fi se, Q, ρ => ∃ (xs : List D) (a b c : D), ρ[st]? = some (.own (.list xs)) ∧ ρ[pr]? = some (.own (.tuple [a, b])) ∧ ρ[se]? = some (.own c) ∧ xs.length + 1 ≤ sizeLid ∧
      Q .next ((((ρ.set pr .unset).set st (.own (.list (xs ++ [a])))).set fi (.own c)).set se (.own b))
  | .fold i v h l t r a b, Q, ρ => ∃ (xs ds : List D) (x₀ y₀ : D) (I : Nat → D → D → Prop), ρ[v]? = some (.own (.tuple (.list xs :: ds))) ∧ ρ[h]? = some (.val x₀) ∧ ρ[l]? = some (.val y₀) ∧ I 0 x₀ y₀ ∧ (∀ k x y, I k x y → imm x = true ∧ imm y = true) ∧
      (∀ k x y z, xs.reverse[k]? = some z → I k x y → wT Φ (foldV ρ v h l i (.tuple (.list xs :: ds)) x y z) t fun c =>
        br c (wE Φ (foldV ρ v h l i (.tuple (.list xs :: ds)) x y z) r fun d _ => Q (.ret d false) (foldV ρ v h l i (.tuple (.list xs :: ds)) x y z))
          (wE Φ (foldV ρ v h l i (.tuple (.list xs :: ds)) x y z) a fun x' _ => wE Φ (foldV ρ v h l i (.tuple (.list xs :: ds)) x y z) b fun y' _ => I (k + 1) x' y')) ∧
      ∀ x y, I xs.length x y → Q .next (((ρ.set h (.val x)).set l (.val y)).set i .unset)
  | .copies j v, Q, ρ => ∃ (xs ds : List D), ρ[v]? = some (.own (.tuple (.list xs :: ds))) ∧ xs.all flatL = true ∧ Q .next (ρ.set j (.own (.list xs)))
  | .append2 i j z, Q, ρ => ∃ (xs ds ys : List D) (k : Nat), ρ[i]? = some (.own (.tuple (.list xs :: ds))) ∧ ρ[j]? = some (.val (.int k)) ∧ xs[k]? = some (.list ys) ∧ k < 1000000 ∧ ys.length + 1 ≤ sizeLid ∧
      Q .next (ρ.set i (.own (.tuple (.list (xs.set k (.list (ys ++ [.int z]))) :: ds))))
noncomputable def wSs (Φ : Calls) : Ss → (Fl → Vars → Prop) → Vars → Prop
  | .nil, Q, ρ => Q .next ρ
  | .cons s r, Q, ρ => wS Φ s (fun fl σ => match fl with | .next => wSs Φ r Q σ | fl => Q fl σ) ρ
end
noncomputable def startVars (ds : List D) (m : Nat) : Vars := ds.map .val ++ List.replicate (m - ds.length) .unset
noncomputable def retPost (K : D → Bool → Prop) : Fl → Vars → Prop
  | .ret d fr, _ => K d fr
  | .next, _ => K .none true
  | _, _ => False
end Mine
set_option Elab.async false
namespace Mine
open PySem

noncomputable def iz (xs : List Int) : List D := xs.map .int
noncomputable abbrev L (xs : List Int) : D := .list (iz xs)

noncomputable def num (b : Int) : List Int → Int
  | [] => 0
  | x :: xs => x + b * num b xs

noncomputable def Fig (b x : Int) : Prop := 0 ≤ x ∧ x < b
noncomputable def Figs (b : Int) (xs : List Int) : Prop := ∀ x ∈ xs, Fig b x
noncomputable def Trim (xs : List Int) : Prop := xs.getLast? ≠ some 0
structure Row (b : Int) (xs : List Int) : Prop where
  lo : 2 ≤ b
  hi : b ≤ 1000000
  figs : Figs b xs
  trim : Trim xs
  len : xs.length ≤ 4000

theorem num_append (b : Int) : ∀ xs ys : List Int, num b (xs ++ ys) = num b xs + b ^ xs.length * num b ys
  | [], ys => by simp [num]
  | x :: xs, ys => by
    simp only [List.cons_append, num, num_append b xs ys, List.length_cons, Int.pow_succ]
    grind

theorem Figs.nil {b : Int} : Figs b [] := fun _ h => (nomatch h)
theorem Figs.cons {b x : Int} {xs : List Int} (h : Fig b x) (r : Figs b xs) : Figs b (x :: xs) := fun y hy => by
  rcases List.mem_cons.mp hy with rfl | hy
  · exact h
  · exact r y hy
theorem Figs.tail {b x : Int} {xs : List Int} (h : Figs b (x :: xs)) : Figs b xs := fun y hy => h y (.tail _ hy)
theorem Figs.append {b : Int} {xs ys : List Int} (h : Figs b xs) (r : Figs b ys) : Figs b (xs ++ ys) := fun y hy => (List.mem_append.mp hy).elim (h y) (r y)
theorem Figs.take {b : Int} {xs : List Int} (h : Figs b xs) (k : Nat) : Figs b (xs.take k) := fun y hy => h y (List.mem_of_mem_take hy)
theorem Figs.drop {b : Int} {xs : List Int} (h : Figs b xs) (k : Nat) : Figs b (xs.drop k) := fun y hy => h y (List.mem_of_mem_drop hy)

theorem num_nonneg {b : Int} (hb : 0 ≤ b) : ∀ {xs : List Int}, Figs b xs → 0 ≤ num b xs
  | [], _ => Int.le_refl _
  | x :: xs, h => by
    have h1 := num_nonneg hb h.tail
    have h2 := (h x (.head _)).1
    have := Int.mul_nonneg hb h1
    simp only [num]; omega
theorem num_lt {b : Int} (hb : 0 < b) : ∀ {xs : List Int}, Figs b xs → num b xs < b ^ xs.length
  | [], _ => by simp [num]
  | x :: xs, h => by
    have h1 := num_lt hb h.tail
    have h2 := (h x (.head _)).2
    simp only [num, List.length_cons, Int.pow_succ]
    have h3 : b * (num b xs + 1) ≤ b * b ^ xs.length := Int.mul_le_mul_of_nonneg_left (by omega) (by omega)
    rw [Int.mul_add, Int.mul_one] at h3
    rw [Int.mul_comm (b ^ xs.length) b]
    omega

noncomputable def digN (b : Nat) : Nat → Nat → List Int
  | 0, _ => []
  | k + 1, n => if n = 0 then [] else ((n % b : Nat) : Int) :: digN b k (n / b)
noncomputable def dig (b n : Int) : List Int := digN b.toNat n.toNat n.toNat

theorem Trim.nil : Trim [] := by simp [Trim]
theorem Trim.cons {x : Int} {xs : List Int} (h : Trim xs) (hx : xs = [] → x ≠ 0) : Trim (x :: xs) := by
  unfold Trim at *
  cases xs with
  | nil => simpa using hx rfl
  | cons y ys => rw [List.getLast?_cons_cons]; exact h
theorem Trim.tail {x : Int} {xs : List Int} (h : Trim (x :: xs)) : Trim xs := by
  unfold Trim at *
  cases xs with
  | nil => simp
  | cons y ys => rw [List.getLast?_cons_cons] at h; exact h

theorem num_pos {b : Int} (hb : 0 < b) : ∀ {xs : List Int}, Figs b xs → Trim xs → xs ≠ [] → 0 < num b xs
  | [], _, _, h => absurd rfl h
  | [x], h, t, _ => by
    have := (h x (.head _)).1
    have : x ≠ 0 := by simpa [Trim] using t
    simp only [num, Int.mul_zero]; omega
  | x :: y :: xs, h, t, _ => by
    have h1 := num_pos hb h.tail t.tail (by simp)
    have h2 := (h x (.head _)).1
    have := Int.mul_pos hb h1
    rw [num]; omega

theorem num_inj {b : Int} (hb : 2 ≤ b) : ∀ {xs ys : List Int}, Figs b xs → Figs b ys → Trim xs → Trim ys → num b xs = num b ys → xs = ys
  | [], [], _, _, _, _, _ => rfl
  | [], y :: ys, _, h, _, t, e => by have := num_pos (by omega) h t (by simp); simp only [num] at e this; omega
  | x :: xs, [], h, _, t, _, e => by have := num_pos (by omega) h t (by simp); simp only [num] at e this; omega
  | x :: xs, y :: ys, h, h', t, t', e => by
    have hx := h x (.head _)
    have hy := h' y (.head _)
    simp only [num] at e
    have e1 : x = y := by
      have q1 : (x + b * num b xs) % b = x := by rw [Int.add_mul_emod_self_left]; exact Int.emod_eq_of_lt hx.1 hx.2
      have q2 : (y + b * num b ys) % b = y := by rw [Int.add_mul_emod_self_left]; exact Int.emod_eq_of_lt hy.1 hy.2
      rw [e] at q1; omega
    subst e1
    have e2 : num b xs = num b ys := by
      have : b * num b xs = b * num b ys := by omega
      exact Int.eq_of_mul_eq_mul_left (by omega) this
    rw [num_inj hb h.tail h'.tail t.tail t'.tail e2]

theorem digN_ok {b : Nat} (hb : 2 ≤ b) : ∀ (k n : Nat), n ≤ k → Figs b (digN b k n) ∧ Trim (digN b k n) ∧ num b (digN b k n) = n
  | 0, n, h => by
    have : n = 0 := by omega
    subst this
    exact ⟨Figs.nil, Trim.nil, rfl⟩
  | k + 1, n, h => by
    unfold digN
    split
    · rename_i h0; subst h0; exact ⟨Figs.nil, Trim.nil, rfl⟩
    · rename_i h0
      have hlt : n / b ≤ k := by
        have : n / b < n := Nat.div_lt_self (by omega) (by omega)
        omega
      obtain ⟨h1, h2, h3⟩ := digN_ok hb k (n / b) hlt
      have hm : n % b < b := Nat.mod_lt _ (by omega)
      refine ⟨Figs.cons ⟨by omega, by omega⟩ h1, Trim.cons h2 fun e => ?_, ?_⟩
      · rw [e] at h3
        simp only [num] at h3
        have hz : n / b = 0 := by omega
        have := Nat.div_add_mod n b
        rw [hz] at this
        omega
      · simp only [num, h3]
        have := Nat.div_add_mod n b
        have e : ((n % b : Nat) : Int) + (b : Int) * ((n / b : Nat) : Int) = ((b * (n / b) + n % b : Nat) : Int) := by push_cast; omega
        rw [e, this]

theorem dig_ok {b n : Int} (hb : 2 ≤ b) (hn : 0 ≤ n) : Figs b (dig b n) ∧ Trim (dig b n) ∧ num b (dig b n) = n := by
  have h := digN_ok (b := b.toNat) (by omega) n.toNat n.toNat (Nat.le_refl _)
  have e : ((b.toNat : Nat) : Int) = b := by omega
  have e' : ((n.toNat : Nat) : Int) = n := by omega
  rw [e, e'] at h
  exact h
theorem dig_num {b : Int} (hb : 2 ≤ b) {xs : List Int} (h : Figs b xs) (t : Trim xs) : dig b (num b xs) = xs := by
  have := dig_ok hb (num_nonneg (by omega) h)
  exact num_inj hb this.1 h this.2.1 t this.2.2
theorem dig_of {b n : Int} (hb : 2 ≤ b) {xs : List Int} (h : Figs b xs) (t : Trim xs) (e : num b xs = n) : xs = dig b n := by
  rw [← e, dig_num hb h t]

theorem dig_zero (b : Int) : dig b 0 = [] := rfl
theorem dig_step {b n : Int} (hb : 2 ≤ b) (hn : 0 < n) : dig b n = n % b :: dig b (n / b) := by
  have h := dig_ok (n := n / b) hb (Int.ediv_nonneg (by omega) (by omega))
  have hm0 := Int.emod_nonneg n (show b ≠ 0 by omega)
  have hm1 := Int.emod_lt_of_pos n (show 0 < b by omega)
  have hdm := Int.mul_ediv_add_emod n b
  refine (dig_of hb (Figs.cons ⟨hm0, hm1⟩ h.1) (Trim.cons h.2.1 fun e => ?_) ?_).symm
  · have q := h.2.2
    rw [e] at q
    simp only [num] at q
    rw [← q] at hdm
    omega
  · simp only [num, h.2.2]; omega

theorem num_ge {b : Int} (hb : 2 ≤ b) : ∀ {xs : List Int}, Figs b xs → Trim xs → xs ≠ [] → b ^ (xs.length - 1) ≤ num b xs
  | [], _, _, h => absurd rfl h
  | [x], h, t, _ => by
    have := (h x (.head _)).1
    have : x ≠ 0 := by simpa [Trim] using t
    simp [num]; omega
  | x :: y :: xs, h, t, _ => by
    have h1 := num_ge hb h.tail t.tail (by simp)
    have h2 := (h x (.head _)).1
    have h3 : b * b ^ ((y :: xs).length - 1) ≤ b * num b (y :: xs) := Int.mul_le_mul_of_nonneg_left h1 (by omega)
    have e : b ^ ((x :: y :: xs).length - 1) = b * b ^ ((y :: xs).length - 1) := by
      simp only [List.length_cons, Nat.add_sub_cancel]
      rw [Int.pow_succ, Int.mul_comm]
    rw [e, num]; omega

theorem pow_mono {b : Int} (hb : 1 ≤ b) {m k : Nat} (h : m ≤ k) : b ^ m ≤ b ^ k := by
  induction h with
  | refl => exact Int.le_refl _
  | @step k _ ih =>
    rw [Int.pow_succ]
    have h0 : 0 ≤ b ^ k := Int.le_trans (Int.le_of_lt (Int.pow_pos (by omega))) (Int.le_refl _)
    have := Int.mul_le_mul_of_nonneg_left hb h0
    omega
theorem dig_len {b n : Int} (hb : 2 ≤ b) (hn : 0 ≤ n) {k : Nat} (h : n < b ^ k) : (dig b n).length ≤ k := by
  have hd := dig_ok hb hn
  by_cases he : dig b n = []
  · rw [he]; simp
  · have h1 := num_ge hb hd.1 hd.2.1 he
    rw [hd.2.2] at h1
    by_cases hk : k < (dig b n).length
    · have := pow_mono (b := b) (by omega) (show k ≤ (dig b n).length - 1 by omega)
      omega
    · omega
theorem Row.dig {b n : Int} (lo : 2 ≤ b) (hi : b ≤ 1000000) (hn : 0 ≤ n) (h : n < b ^ 4000) : Row b (dig b n) :=
  ⟨lo, hi, (dig_ok lo hn).1, (dig_ok lo hn).2.1, dig_len lo hn h⟩
end Mine
namespace Mine
open PySem
noncomputable def b_whole : Ss := Ss.cons (S.ret (X.and (Xs.cons (X.isinst (X.var 0) Ty.int) (Xs.cons (X.not (X.isinst (X.var 0) Ty.bool)) Xs.nil)))) Ss.nil
noncomputable def b_is_base : Ss := Ss.cons (S.ret (X.and (Xs.cons (X.call 0 (Xs.cons (X.var 0) Xs.nil)) (Xs.cons (X.cmp2 Cm.le Cm.le (X.glob 0) (X.var 0) (X.glob 1)) Xs.nil)))) Ss.nil
noncomputable def b_need_base : Ss := Ss.cons (S.ite (X.not (X.call 1 (Xs.cons (X.var 0) Xs.nil))) (Ss.cons S.never Ss.nil) Ss.nil) Ss.nil
noncomputable def b_is_row : Ss := Ss.cons (S.expr (X.call 2 (Xs.cons (X.var 0) Xs.nil))) (Ss.cons (S.ite (X.not (X.isinst (X.var 1) Ty.list)) (Ss.cons (S.ret (X.bool false)) Ss.nil) Ss.nil) (Ss.cons (S.loop 2 (It.items (X.var 1)) (Ss.cons (S.ite (X.or (Xs.cons (X.not (X.call 0 (Xs.cons (X.var 2) Xs.nil))) (Xs.cons (X.not (X.cmp2 Cm.le Cm.lt (X.int 0) (X.var 2) (X.var 0))) Xs.nil))) (Ss.cons (S.ret (X.bool false)) Ss.nil) Ss.nil) Ss.nil)) (Ss.cons (S.ret (X.or (Xs.cons (X.cmp Cm.eq (X.len (X.var 1)) (X.int 0)) (Xs.cons (X.cmp Cm.ne (X.idx (X.var 1) (X.neg (X.int 1))) (X.int 0)) Xs.nil)))) Ss.nil)))
noncomputable def b_need_row : Ss := Ss.cons (S.ite (X.not (X.call 4 (Xs.cons (X.var 0) (Xs.cons (X.var 1) Xs.nil)))) (Ss.cons S.never Ss.nil) Ss.nil) Ss.nil
noncomputable def b_trimmed : Ss := Ss.cons (S.assign 1 (X.len (X.var 0))) (Ss.cons (S.whil (X.and (Xs.cons (X.cmp Cm.gt (X.var 1) (X.int 0)) (Xs.cons (X.cmp Cm.eq (X.idx (X.var 0) (X.bin Op.sub (X.var 1) (X.int 1))) (X.int 0)) Xs.nil))) (Ss.cons (S.assign 1 (X.bin Op.sub (X.var 1) (X.int 1))) Ss.nil)) (Ss.cons (S.ret (X.listOf (X.upto (X.var 0) (X.var 1)))) Ss.nil))
noncomputable def b_order : Ss := Ss.cons (S.ite (X.cmp Cm.ne (X.len (X.var 0)) (X.len (X.var 1))) (Ss.cons (S.ret (X.ite (X.cmp Cm.lt (X.len (X.var 0)) (X.len (X.var 1))) (X.neg (X.int 1)) (X.int 1))) Ss.nil) Ss.nil) (Ss.cons (S.loop 2 (It.down (X.bin Op.sub (X.len (X.var 0)) (X.int 1))) (Ss.cons (S.ite (X.cmp Cm.ne (X.idx (X.var 0) (X.var 2)) (X.idx (X.var 1) (X.var 2))) (Ss.cons (S.ret (X.ite (X.cmp Cm.lt (X.idx (X.var 0) (X.var 2)) (X.idx (X.var 1) (X.var 2))) (X.neg (X.int 1)) (X.int 1))) Ss.nil) Ss.nil) Ss.nil)) (Ss.cons (S.ret (X.int 0)) Ss.nil))
noncomputable def b_plain_sum : Ss := Ss.cons (S.assign 3 (X.list Xs.nil)) (Ss.cons (S.assign 4 (X.int 0)) (Ss.cons (S.loop 5 (It.range (X.max (X.len (X.var 1)) (X.len (X.var 2)))) (Ss.cons (S.ite (X.cmp Cm.lt (X.var 5) (X.len (X.var 1))) (Ss.cons (S.assign 4 (X.bin Op.add (X.var 4) (X.idx (X.var 1) (X.var 5)))) Ss.nil) Ss.nil) (Ss.cons (S.ite (X.cmp Cm.lt (X.var 5) (X.len (X.var 2))) (Ss.cons (S.assign 4 (X.bin Op.add (X.var 4) (X.idx (X.var 2) (X.var 5)))) Ss.nil) Ss.nil) (Ss.cons (S.append 3 (X.bin Op.mod (X.var 4) (X.var 0))) (Ss.cons (S.assign 4 (X.bin Op.fdiv (X.var 4) (X.var 0))) Ss.nil))))) (Ss.cons (S.ite (X.cmp Cm.gt (X.var 4) (X.int 0)) (Ss.cons (S.append 3 (X.var 4)) Ss.nil) Ss.nil) (Ss.cons (S.ret (X.var 3)) Ss.nil))))
noncomputable def b_plain_difference : Ss := Ss.cons (S.assign 3 (X.list Xs.nil)) (Ss.cons (S.assign 4 (X.int 0)) (Ss.cons (S.loop 5 (It.range (X.len (X.var 1))) (Ss.cons (S.assign 6 (X.bin Op.sub (X.idx (X.var 1) (X.var 5)) (X.var 4))) (Ss.cons (S.ite (X.cmp Cm.lt (X.var 5) (X.len (X.var 2))) (Ss.cons (S.assign 6 (X.bin Op.sub (X.var 6) (X.idx (X.var 2) (X.var 5)))) Ss.nil) Ss.nil) (Ss.cons (S.assign 4 (X.int 0)) (Ss.cons (S.ite (X.cmp Cm.lt (X.var 6) (X.int 0)) (Ss.cons (S.assign 6 (X.bin Op.add (X.var 6) (X.var 0))) (Ss.cons (S.assign 4 (X.int 1)) Ss.nil)) Ss.nil) (Ss.cons (S.append 3 (X.var 6)) Ss.nil)))))) (Ss.cons (S.ret (X.call 10 (Xs.cons (X.var 3) Xs.nil))) Ss.nil)))
noncomputable def b_plain_scaled : Ss := Ss.cons (S.ite (X.cmp Cm.eq (X.var 2) (X.int 0)) (Ss.cons (S.ret (X.list Xs.nil)) Ss.nil) Ss.nil) (Ss.cons (S.assign 3 (X.list Xs.nil)) (Ss.cons (S.assign 4 (X.int 0)) (Ss.cons (S.loop 5 (It.items (X.var 1)) (Ss.cons (S.assign 4 (X.bin Op.add (X.var 4) (X.bin Op.mul (X.var 5) (X.var 2)))) (Ss.cons (S.append 3 (X.bin Op.mod (X.var 4) (X.var 0))) (Ss.cons (S.assign 4 (X.bin Op.fdiv (X.var 4) (X.var 0))) Ss.nil)))) (Ss.cons (S.ite (X.cmp Cm.gt (X.var 4) (X.int 0)) (Ss.cons (S.append 3 (X.var 4)) Ss.nil) Ss.nil) (Ss.cons (S.ret (X.var 3)) Ss.nil)))))
noncomputable def b_plain_shifted : Ss := Ss.cons (S.ite (X.cmp Cm.eq (X.len (X.var 0)) (X.int 0)) (Ss.cons (S.ret (X.list Xs.nil)) Ss.nil) Ss.nil) (Ss.cons (S.ret (X.bin Op.add (X.bin Op.mul (X.list (Xs.cons (X.int 0) Xs.nil)) (X.var 1)) (X.var 0))) Ss.nil)
noncomputable def b_how_often : Ss := Ss.cons (S.assign 3 (X.int 0)) (Ss.cons (S.assign 4 (X.bin Op.sub (X.var 0) (X.int 1))) (Ss.cons (S.whil (X.cmp Cm.lt (X.var 3) (X.var 4)) (Ss.cons (S.assign 5 (X.bin Op.fdiv (X.bin Op.add (X.bin Op.add (X.var 3) (X.var 4)) (X.int 1)) (X.int 2))) (Ss.cons (S.ite (X.cmp Cm.le (X.call 11 (Xs.cons (X.call 14 (Xs.cons (X.var 0) (Xs.cons (X.var 2) (Xs.cons (X.var 5) Xs.nil)))) (Xs.cons (X.var 1) Xs.nil))) (X.int 0)) (Ss.cons (S.assign 3 (X.var 5)) Ss.nil) (Ss.cons (S.assign 4 (X.bin Op.sub (X.var 5) (X.int 1))) Ss.nil)) Ss.nil))) (Ss.cons (S.ret (X.var 3)) Ss.nil)))
noncomputable def b_plain_divided : Ss := Ss.cons (S.assign 3 (X.list Xs.nil)) (Ss.cons (S.assign 4 (X.list Xs.nil)) (Ss.cons (S.loop 5 (It.back (X.var 1)) (Ss.cons (S.assign 4 (X.call 15 (Xs.cons (X.var 4) (Xs.cons (X.int 1) Xs.nil)))) (Ss.cons (S.ite (X.cmp Cm.gt (X.var 5) (X.int 0)) (Ss.cons (S.assign 4 (X.call 12 (Xs.cons (X.var 0) (Xs.cons (X.var 4) (Xs.cons (X.list (Xs.cons (X.var 5) Xs.nil)) Xs.nil))))) Ss.nil) Ss.nil) (Ss.cons (S.assign 6 (X.call 28 (Xs.cons (X.var 0) (Xs.cons (X.var 4) (Xs.cons (X.var 2) Xs.nil))))) (Ss.cons (S.append 3 (X.var 6)) (Ss.cons (S.assign 4 (X.call 13 (Xs.cons (X.var 0) (Xs.cons (X.var 4) (Xs.cons (X.call 14 (Xs.cons (X.var 0) (Xs.cons (X.var 2) (Xs.cons (X.var 6) Xs.nil)))) Xs.nil))))) Ss.nil)))))) (Ss.cons (S.reverse 3) (Ss.cons (S.ret (X.tup (Xs.cons (X.call 10 (Xs.cons (X.var 3) Xs.nil)) (Xs.cons (X.var 4) Xs.nil)))) Ss.nil))))
noncomputable def b_ladder : Ss := Ss.cons (S.expr (X.call 5 (Xs.cons (X.var 0) (Xs.cons (X.var 1) Xs.nil)))) (Ss.cons (S.expr (X.call 5 (Xs.cons (X.var 0) (Xs.cons (X.var 2) Xs.nil)))) (Ss.cons (S.assign 3 (X.list Xs.nil)) (Ss.cons (S.assign 4 (X.listOf (X.var 1))) (Ss.cons (S.assign 5 (X.listOf (X.var 2))) (Ss.cons (S.whil (X.cmp Cm.gt (X.len (X.var 5)) (X.int 0)) (Ss.cons (S.assign 6 (X.call 29 (Xs.cons (X.var 0) (Xs.cons (X.var 4) (Xs.cons (X.var 5) Xs.nil))))) (Ss.cons (S.rung 3 6 4 5) Ss.nil))) (Ss.cons (S.ret (X.tup (Xs.cons (X.var 3) (Xs.cons (X.var 4) Xs.nil)))) Ss.nil))))))
noncomputable def b_law_draw : Ss := Ss.cons (S.ret (X.ite (X.cmp Cm.gt (X.len (X.var 0)) (X.var 1)) (X.idx (X.var 0) (X.var 1)) (X.int 0))) Ss.nil
noncomputable def b_law_base_by : Ss := Ss.cons (S.ite (X.cmp Cm.eq (X.bin Op.mod (X.var 0) (X.int 4)) (X.int 0)) (Ss.cons (S.ret (X.bin Op.add (X.int 2) (X.bin Op.mod (X.bin Op.fdiv (X.var 0) (X.int 4)) (X.int 15)))) Ss.nil) Ss.nil) (Ss.cons (S.ite (X.cmp Cm.eq (X.bin Op.mod (X.var 0) (X.int 4)) (X.int 1)) (Ss.cons (S.ret (X.idx (X.list (Xs.cons (X.int 2) (Xs.cons (X.int 3) (Xs.cons (X.int 10) (Xs.cons (X.int 256) (Xs.cons (X.int 999999) (Xs.cons (X.int 1000000) Xs.nil))))))) (X.bin Op.mod (X.bin Op.fdiv (X.var 0) (X.int 4)) (X.int 6)))) Ss.nil) Ss.nil) (Ss.cons (S.ret (X.bin Op.add (X.int 2) (X.bin Op.mod (X.bin Op.fdiv (X.var 0) (X.int 4)) (X.int 999999)))) Ss.nil))
noncomputable def b_law_row_by : Ss := Ss.cons (S.assign 4 (X.bin Op.mod (X.call 50 (Xs.cons (X.var 0) (Xs.cons (X.var 1) Xs.nil))) (X.int 9))) (Ss.cons (S.ite (X.cmp Cm.eq (X.bin Op.mod (X.bin Op.fdiv (X.call 50 (Xs.cons (X.var 0) (Xs.cons (X.var 1) Xs.nil))) (X.int 9)) (X.int 4)) (X.int 1)) (Ss.cons (S.assign 4 (X.bin Op.mod (X.bin Op.fdiv (X.call 50 (Xs.cons (X.var 0) (Xs.cons (X.var 1) Xs.nil))) (X.int 36)) (X.var 3))) Ss.nil) Ss.nil) (Ss.cons (S.assign 5 (X.bin Op.mod (X.call 50 (Xs.cons (X.var 0) (Xs.cons (X.bin Op.add (X.var 1) (X.int 1)) Xs.nil))) (X.int 5))) (Ss.cons (S.assign 6 (X.bin Op.fdiv (X.call 50 (Xs.cons (X.var 0) (Xs.cons (X.bin Op.add (X.var 1) (X.int 1)) Xs.nil))) (X.int 5))) (Ss.cons (S.assign 7 (X.list Xs.nil)) (Ss.cons (S.loop 8 (It.range (X.var 4)) (Ss.cons (S.assign 9 (X.bin Op.mod (X.bin Op.add (X.var 6) (X.bin Op.mul (X.bin Op.mul (X.var 8) (X.var 8)) (X.int 48271))) (X.var 2))) (Ss.cons (S.assign 6 (X.bin Op.fdiv (X.var 6) (X.var 2))) (Ss.cons (S.ite (X.cmp Cm.eq (X.var 5) (X.int 2)) (Ss.cons (S.assign 9 (X.bin Op.sub (X.var 2) (X.int 1))) Ss.nil) Ss.nil) (Ss.cons (S.ite (X.cmp Cm.eq (X.var 5) (X.int 3)) (Ss.cons (S.assign 9 (X.intOf (X.cmp Cm.eq (X.var 8) (X.bin Op.sub (X.var 4) (X.int 1))))) Ss.nil) Ss.nil) (Ss.cons (S.ite (X.and (Xs.cons (X.cmp Cm.eq (X.var 5) (X.int 4)) (Xs.cons (X.cmp Cm.eq (X.bin Op.mod (X.var 8) (X.int 2)) (X.int 0)) Xs.nil))) (Ss.cons (S.assign 9 (X.int 0)) Ss.nil) Ss.nil) (Ss.cons (S.append 7 (X.var 9)) Ss.nil))))))) (Ss.cons (S.whil (X.and (Xs.cons (X.cmp Cm.ne (X.var 7) (X.list Xs.nil)) (Xs.cons (X.cmp Cm.eq (X.idx (X.var 7) (X.neg (X.int 1))) (X.int 0)) Xs.nil))) (Ss.cons (S.assign 7 (X.upto (X.var 7) (X.neg (X.int 1)))) Ss.nil)) (Ss.cons (S.ret (X.var 7)) Ss.nil)))))))
noncomputable def b_law_cut : Ss := Ss.cons (S.assign 0 (X.upto (X.var 0) (X.var 1))) (Ss.cons (S.whil (X.and (Xs.cons (X.cmp Cm.ne (X.var 0) (X.list Xs.nil)) (Xs.cons (X.cmp Cm.eq (X.idx (X.var 0) (X.neg (X.int 1))) (X.int 0)) Xs.nil))) (Ss.cons (S.assign 0 (X.upto (X.var 0) (X.neg (X.int 1)))) Ss.nil)) (Ss.cons (S.ret (X.var 0)) Ss.nil))
noncomputable def b_law_number : Ss := Ss.cons (S.assign 2 (X.int 0)) (Ss.cons (S.loop 3 (It.back (X.var 1)) (Ss.cons (S.assign 2 (X.bin Op.add (X.bin Op.mul (X.var 2) (X.var 0)) (X.var 3))) Ss.nil)) (Ss.cons (S.ret (X.var 2)) Ss.nil))
noncomputable def b_law_figures : Ss := Ss.cons (S.assign 2 (X.list Xs.nil)) (Ss.cons (S.whil (X.cmp Cm.gt (X.var 1) (X.int 0)) (Ss.cons (S.append 2 (X.bin Op.mod (X.var 1) (X.var 0))) (Ss.cons (S.assign 1 (X.bin Op.fdiv (X.var 1) (X.var 0))) Ss.nil))) (Ss.cons (S.ret (X.var 2)) Ss.nil))
noncomputable def b_law_is_number : Ss := Ss.cons (S.ite (X.or (Xs.cons (X.cmp Cm.is (X.var 0) (X.bool true)) (Xs.cons (X.cmp Cm.is (X.var 0) (X.bool false)) Xs.nil))) (Ss.cons (S.ret (X.bool false)) Ss.nil) Ss.nil) (Ss.cons (S.ret (X.isinst (X.var 0) Ty.int)) Ss.nil)
noncomputable def b_law_is_row : Ss := Ss.cons (S.ite (X.not (X.isinst (X.var 1) Ty.list)) (Ss.cons (S.ret (X.bool false)) Ss.nil) Ss.nil) (Ss.cons (S.loop 2 (It.items (X.var 1)) (Ss.cons (S.ite (X.or (Xs.cons (X.not (X.call 55 (Xs.cons (X.var 2) Xs.nil))) (Xs.cons (X.not (X.cmp2 Cm.le Cm.lt (X.int 0) (X.var 2) (X.var 0))) Xs.nil))) (Ss.cons (S.ret (X.bool false)) Ss.nil) Ss.nil) Ss.nil)) (Ss.cons (S.ret (X.or (Xs.cons (X.cmp Cm.eq (X.var 1) (X.list Xs.nil)) (Xs.cons (X.cmp Cm.ne (X.idx (X.var 1) (X.neg (X.int 1))) (X.int 0)) Xs.nil)))) Ss.nil))
noncomputable def b_law_11 : Ss := Ss.cons (S.assign 1 (X.call 51 (Xs.cons (X.call 50 (Xs.cons (X.var 0) (Xs.cons (X.int 0) Xs.nil))) Xs.nil))) (Ss.cons (S.assign 2 (X.int 12)) (Ss.cons (S.ite (X.cmp Cm.lt (X.var 1) (X.int 5)) (Ss.cons (S.assign 2 (X.int 16)) Ss.nil) Ss.nil) (Ss.cons (S.pair 3 4 (X.call 52 (Xs.cons (X.var 0) (Xs.cons (X.int 1) (Xs.cons (X.var 1) (Xs.cons (X.var 2) Xs.nil))))) (X.call 52 (Xs.cons (X.var 0) (Xs.cons (X.int 3) (Xs.cons (X.var 1) (Xs.cons (X.var 2) Xs.nil)))))) (Ss.cons (S.ite (X.cmp Cm.gt (X.var 1) (X.int 1000)) (Ss.cons (S.pair 3 4 (X.call 60 (Xs.cons (X.var 3) (Xs.cons (X.int 4) Xs.nil))) (X.call 60 (Xs.cons (X.var 4) (Xs.cons (X.int 4) Xs.nil)))) Ss.nil) Ss.nil) (Ss.cons (S.ite (X.cmp Cm.eq (X.bin Op.mod (X.call 50 (Xs.cons (X.var 0) (Xs.cons (X.int 5) Xs.nil))) (X.int 3)) (X.int 1)) (Ss.cons (S.assign 5 (X.bin Op.add (X.int 1) (X.call 53 (Xs.cons (X.var 1) (Xs.cons (X.call 52 (Xs.cons (X.var 0) (Xs.cons (X.int 6) (Xs.cons (X.var 1) (Xs.cons (X.int 4) Xs.nil))))) Xs.nil))))) (Ss.cons (S.assign 3 (X.call 54 (Xs.cons (X.var 1) (Xs.cons (X.bin Op.mul (X.var 5) (X.call 53 (Xs.cons (X.var 1) (Xs.cons (X.var 3) Xs.nil)))) Xs.nil)))) (Ss.cons (S.assign 4 (X.call 54 (Xs.cons (X.var 1) (Xs.cons (X.bin Op.mul (X.var 5) (X.call 53 (Xs.cons (X.var 1) (Xs.cons (X.var 4) Xs.nil)))) Xs.nil)))) Ss.nil))) Ss.nil) (Ss.cons (S.assign 6 (X.list (Xs.cons (X.listOf (X.var 3)) (Xs.cons (X.listOf (X.var 4)) Xs.nil)))) (Ss.cons (S.assign 7 (X.call 32 (Xs.cons (X.var 1) (Xs.cons (X.idx (X.var 6) (X.int 0)) (Xs.cons (X.idx (X.var 6) (X.int 1)) Xs.nil))))) (Ss.cons (S.ite (X.or (Xs.cons (X.not (X.isinst (X.var 7) Ty.tuple)) (Xs.cons (X.cmp Cm.ne (X.len (X.var 7)) (X.int 2)) (Xs.cons (X.not (X.isinst (X.idx (X.var 7) (X.int 0)) Ty.list)) Xs.nil)))) (Ss.cons (S.ret (X.bool false)) Ss.nil) Ss.nil) (Ss.cons (S.ite (X.or (Xs.cons (X.not (X.call 61 (Xs.cons (X.var 1) (Xs.cons (X.idx (X.var 7) (X.int 1)) Xs.nil)))) (Xs.cons (X.cmp Cm.ne (X.var 6) (X.list (Xs.cons (X.var 3) (Xs.cons (X.var 4) Xs.nil)))) Xs.nil))) (Ss.cons (S.ret (X.bool false)) Ss.nil) Ss.nil) (Ss.cons (S.pair 8 9 (X.call 53 (Xs.cons (X.var 1) (Xs.cons (X.idx (X.var 7) (X.int 1)) Xs.nil))) (X.int 0)) (Ss.cons (S.fold 10 7 8 9 (X.or (Xs.cons (X.not (X.call 61 (Xs.cons (X.var 1) (Xs.cons (X.var 10) Xs.nil)))) (Xs.cons (X.cmp Cm.ge (X.var 9) (X.var 8)) Xs.nil))) (X.bool false) (X.bin Op.add (X.bin Op.mul (X.call 53 (Xs.cons (X.var 1) (Xs.cons (X.var 10) Xs.nil))) (X.var 8)) (X.var 9)) (X.var 8)) (Ss.cons (S.ite (X.or (Xs.cons (X.cmp Cm.ne (X.var 8) (X.call 53 (Xs.cons (X.var 1) (Xs.cons (X.var 3) Xs.nil)))) (Xs.cons (X.cmp Cm.ne (X.var 9) (X.call 53 (Xs.cons (X.var 1) (Xs.cons (X.var 4) Xs.nil)))) Xs.nil))) (Ss.cons (S.ret (X.bool false)) Ss.nil) Ss.nil) (Ss.cons (S.copies 11 7) (Ss.cons (S.assign 12 (X.listOf (X.idx (X.var 7) (X.int 1)))) (Ss.cons (S.loop 13 (It.range (X.len (X.var 11))) (Ss.cons (S.append2 7 13 1) (Ss.cons (S.ite (X.or (Xs.cons (X.cmp Cm.ne (X.from (X.idx (X.var 7) (X.int 0)) (X.bin Op.add (X.var 13) (X.int 1))) (X.from (X.var 11) (X.bin Op.add (X.var 13) (X.int 1)))) (Xs.cons (X.cmp Cm.ne (X.idx (X.var 7) (X.int 1)) (X.var 12)) Xs.nil))) (Ss.cons (S.ret (X.bool false)) Ss.nil) Ss.nil) Ss.nil))) (Ss.cons (S.appendAt 7 1 1) (Ss.cons (S.ite (X.or (Xs.cons (X.cmp Cm.ne (X.var 6) (X.list (Xs.cons (X.var 3) (Xs.cons (X.var 4) Xs.nil)))) (Xs.cons (X.cmp Cm.ne (X.call 32 (Xs.cons (X.var 1) (Xs.cons (X.listOf (X.var 4)) (Xs.cons (X.list Xs.nil) Xs.nil)))) (X.tup (Xs.cons (X.list Xs.nil) (Xs.cons (X.var 4) Xs.nil)))) Xs.nil))) (Ss.cons (S.ret (X.bool false)) Ss.nil) Ss.nil) (Ss.cons (S.ret (X.cmp Cm.eq (X.call 32 (Xs.cons (X.var 1) (Xs.cons (X.idx (X.var 6) (X.int 0)) (Xs.cons (X.idx (X.var 6) (X.int 1)) Xs.nil)))) (X.tup (Xs.cons (X.var 11) (Xs.cons (X.var 12) Xs.nil))))) Ss.nil))))))))))))))))))
end Mine
set_option Elab.async false
namespace Mine
open PySem
noncomputable def isW : D → Bool
  | .int _ => true
  | _ => false
noncomputable def isB : D → Bool
  | .int b => decide (2 ≤ b) && decide (b ≤ 1000000)
  | _ => false
noncomputable def isF (b : Int) : D → Bool
  | .int x => decide (0 ≤ x) && decide (x < b)
  | _ => false
noncomputable def isR (b : Int) : D → Bool
  | .list xs => xs.all (isF b) && (match xs.getLast? with | some (.int 0) => false | _ => true)
  | _ => false

noncomputable def sp_whole (ds : List D) (K : D → Bool → Prop) : Prop := ∃ x, ds = [x] ∧ K (.bool (isW x)) true
noncomputable def sp_is_base (ds : List D) (K : D → Bool → Prop) : Prop := ∃ x, ds = [x] ∧ K (.bool (isB x)) true
noncomputable def sp_need_base (ds : List D) (K : D → Bool → Prop) : Prop := ∃ x, ds = [x] ∧ isB x = true ∧ K .none true
noncomputable def sp_is_row (ds : List D) (K : D → Bool → Prop) : Prop := ∃ b x, ds = [.int b, x] ∧ 2 ≤ b ∧ b ≤ 1000000 ∧ K (.bool (isR b x)) true
noncomputable def sp_need_row (ds : List D) (K : D → Bool → Prop) : Prop := ∃ b x, ds = [.int b, x] ∧ 2 ≤ b ∧ b ≤ 1000000 ∧ isR b x = true ∧ K .none true
noncomputable def sp_plain_sum (ds : List D) (K : D → Bool → Prop) : Prop := ∃ b xs ys, ds = [.int b, L xs, L ys] ∧ Row b xs ∧ Row b ys ∧ K (L (dig b (num b xs + num b ys))) true
noncomputable def sp_law_draw (ds : List D) (K : D → Bool → Prop) : Prop := ∃ ns k, ds = [L ns, .int k] ∧ 0 ≤ k ∧ k < 1000 ∧ ns.length ≤ 63 ∧ ∀ c, K (.int c) true
noncomputable def sp_law_base_by (ds : List D) (K : D → Bool → Prop) : Prop := ∃ c, ds = [.int c] ∧ ∀ b, 2 ≤ b → b ≤ 1000000 → K (.int b) true
noncomputable def sp_law_row_by (ds : List D) (K : D → Bool → Prop) : Prop := ∃ ns k b m, ds = [L ns, .int k, .int b, .int m] ∧ ns.length ≤ 63 ∧ 0 ≤ k ∧ k < 900 ∧ 2 ≤ b ∧ b ≤ 1000000 ∧ 1 ≤ m ∧ m ≤ 90 ∧ ∀ xs, Row b xs → xs.length ≤ 90 → K (L xs) true
noncomputable def sp_law_number (ds : List D) (K : D → Bool → Prop) : Prop := ∃ b xs, ds = [.int b, L xs] ∧ 2 ≤ b ∧ b ≤ 1000000 ∧ xs.length ≤ 5000 ∧ K (.int (num b xs)) true
noncomputable def sp_law_figures (ds : List D) (K : D → Bool → Prop) : Prop := ∃ b n, ds = [.int b, .int n] ∧ 2 ≤ b ∧ 0 ≤ n ∧ n < b ^ 4000 ∧ K (L (dig b n)) true
noncomputable def sp_law_is_number (ds : List D) (K : D → Bool → Prop) : Prop := ∃ x, ds = [x] ∧ K (.bool (isW x)) true
noncomputable def trim (xs : List Int) : List Int := (xs.reverse.dropWhile (fun x => decide (x = 0))).reverse
noncomputable def sp_trimmed (ds : List D) (K : D → Bool → Prop) : Prop := ∃ xs, ds = [L xs] ∧ xs.length ≤ 4500 ∧ K (L (trim xs)) true
noncomputable def cmp3 (a b : Int) : Int := if a < b then -1 else if b < a then 1 else 0
noncomputable def sp_order (ds : List D) (K : D → Bool → Prop) : Prop := ∃ b xs ys, ds = [L xs, L ys] ∧ Row b xs ∧ Row b ys ∧ K (.int (cmp3 (num b xs) (num b ys))) true
noncomputable def sp_plain_scaled (ds : List D) (K : D → Bool → Prop) : Prop := ∃ b xs f, ds = [.int b, L xs, .int f] ∧ Row b xs ∧ Fig b f ∧ K (L (dig b (num b xs * f))) true
noncomputable def shl (p : Int) (xs : List Int) : List Int := if xs = [] then [] else List.replicate p.toNat 0 ++ xs
noncomputable def sp_plain_shifted (ds : List D) (K : D → Bool → Prop) : Prop := ∃ xs p, ds = [L xs, .int p] ∧ xs.length ≤ 4000 ∧ 0 ≤ p ∧ p ≤ 4000 ∧ K (L (shl p xs)) true
noncomputable def sp_plain_difference (ds : List D) (K : D → Bool → Prop) : Prop := ∃ b xs ys, ds = [.int b, L xs, L ys] ∧ Row b xs ∧ Row b ys ∧ num b ys ≤ num b xs ∧ K (L (dig b (num b xs - num b ys))) true
noncomputable def sp_how_often (ds : List D) (K : D → Bool → Prop) : Prop := ∃ b xs ys, ds = [.int b, L xs, L ys] ∧ Row b xs ∧ Row b ys ∧ ys ≠ [] ∧ ys.length ≤ 3900 ∧ num b xs < b * num b ys ∧ K (.int (num b xs / num b ys)) true
noncomputable def sp_plain_divided (ds : List D) (K : D → Bool → Prop) : Prop := ∃ b xs ys, ds = [.int b, L xs, L ys] ∧ Row b xs ∧ Row b ys ∧ ys ≠ [] ∧ ys.length ≤ 3900 ∧ K (.tuple [L (dig b (num b xs / num b ys)), L (dig b (num b xs % num b ys))]) true
noncomputable def sz (b x : Int) : Nat := (dig b x).length
noncomputable def eu : Nat → Int → Int → List Int × Int
  | 0, x, _ => ([], x)
  | k + 1, x, y => if y = 0 then ([], x) else (x / y :: (eu k y (x % y)).1, (eu k y (x % y)).2)
noncomputable def rz (b : Int) (qs : List Int) : List D := qs.map fun q => L (dig b q)
noncomputable def sp_ladder (ds : List D) (K : D → Bool → Prop) : Prop := ∃ b xs ys, ds = [.int b, L xs, L ys] ∧ Row b xs ∧ Row b ys ∧ xs.length ≤ 200 ∧ ys.length ≤ 200 ∧ K (.tuple [.list (rz b (eu (num b ys).toNat (num b xs) (num b ys)).1), L (dig b (eu (num b ys).toNat (num b xs) (num b ys)).2)]) true
noncomputable def sp_law_cut (ds : List D) (K : D → Bool → Prop) : Prop := ∃ b xs m, ds = [L xs, .int m] ∧ Row b xs ∧ 0 ≤ m ∧ ∀ ys, Row b ys → ys.length ≤ xs.length → K (L ys) true
noncomputable def sp_law_is_row (ds : List D) (K : D → Bool → Prop) : Prop := ∃ b xs, ds = [.int b, L xs] ∧ Row b xs ∧ K (.bool true) true
noncomputable def sp_law (ds : List D) (K : D → Bool → Prop) : Prop := ∃ ns, ds = [L ns] ∧ ns.length ≤ 63 ∧ K (.bool true) true

noncomputable def Φ (n f : Nat) (ds : List D) (K : D → Bool → Prop) : Prop := match f with
  | 0 => 1 ≤ n ∧ sp_whole ds K
  | 1 => 2 ≤ n ∧ sp_is_base ds K
  | 2 => 3 ≤ n ∧ sp_need_base ds K
  | 4 => 4 ≤ n ∧ sp_is_row ds K
  | 5 => 5 ≤ n ∧ sp_need_row ds K
  | 10 => 1 ≤ n ∧ sp_trimmed ds K
  | 11 => 1 ≤ n ∧ sp_order ds K
  | 12 => 1 ≤ n ∧ sp_plain_sum ds K
  | 14 => 1 ≤ n ∧ sp_plain_scaled ds K
  | 15 => 1 ≤ n ∧ sp_plain_shifted ds K
  | 13 => 2 ≤ n ∧ sp_plain_difference ds K
  | 28 => 2 ≤ n ∧ sp_how_often ds K
  | 29 => 4 ≤ n ∧ sp_plain_divided ds K
  | 32 => 6 ≤ n ∧ sp_ladder ds K
  | 50 => 1 ≤ n ∧ sp_law_draw ds K
  | 51 => 1 ≤ n ∧ sp_law_base_by ds K
  | 52 => 2 ≤ n ∧ sp_law_row_by ds K
  | 53 => 1 ≤ n ∧ sp_law_number ds K
  | 54 => 1 ≤ n ∧ sp_law_figures ds K
  | 55 => 1 ≤ n ∧ sp_law_is_number ds K
  | 60 => 1 ≤ n ∧ sp_law_cut ds K
  | 61 => 2 ≤ n ∧ sp_law_is_row ds K
  | 99 => 40 ≤ n ∧ sp_law ds K
  | 1000 => 1 ≤ n ∧ ds = [] ∧ K (.int 2) true
  | 1001 => 1 ≤ n ∧ ds = [] ∧ K (.int 1000000) true
  | _ => False

end Mine
set_option Elab.async false
namespace Mine
open PySem
local macro_rules | `(tactic| walk_at "w") => `(tactic| conv => whnf)

theorem t_whole {n : Nat} {ds K} (h : Φ (n + 1) 0 ds K) : wSs (Φ n) b_whole (retPost K) (startVars ds 1) := by
  obtain ⟨_, x, rfl, hk⟩ := h
  cases x <;> exact hk
theorem t_is_base {n : Nat} {ds K} (h : Φ (n + 1) 1 ds K) : wSs (Φ n) b_is_base (retPost K) (startVars ds 1) := by
  obtain ⟨hn, x, rfl, hk⟩ := h
  walk_at "w"
  refine ⟨by omega, x, rfl, ?_⟩
  cases x with
  | int b =>
    walk_at "w"
    refine ⟨by omega, rfl, rfl, ?_⟩
    walk_at "w"
    refine br_of (fun h1 => ?_) (fun h1 => ?_)
    · walk_at "w"
      refine ⟨by omega, rfl, rfl, ?_⟩
      have e : isB (.int b) = decide (b ≤ 1000000) := by simp only [isB]; rw [h1]; rfl
      rw [e] at hk; exact hk
    · have e : isB (.int b) = false := by simp only [isB]; rw [h1]; rfl
      rw [e] at hk; exact hk
  | _ => exact hk
theorem t_need_base {n : Nat} {ds K} (h : Φ (n + 1) 2 ds K) : wSs (Φ n) b_need_base (retPost K) (startVars ds 1) := by
  obtain ⟨hn, x, rfl, hb, hk⟩ := h
  walk_at "w"
  refine ⟨by omega, x, rfl, ?_⟩
  rw [hb]
  exact hk

theorem all_take {p : D → Bool} {xs : List D} {k : Nat} {d : D} (h : ∀ x ∈ xs.take k, p x = true) (hd : xs[k]? = some d) (hp : p d = true) : ∀ x ∈ xs.take (k + 1), p x = true := by
  intro x hx
  rw [List.take_add_one, hd] at hx
  rcases List.mem_append.mp hx with hx | hx
  · exact h x hx
  · simp at hx; subst hx; exact hp

theorem t_is_row {n : Nat} {ds K} (h : Φ (n + 1) 4 ds K) : wSs (Φ n) b_is_row (retPost K) (startVars ds 3) := by
  obtain ⟨hn, b, x, rfl, h1, h2, hk⟩ := h
  have hb : isB (.int b) = true := by simp [isB, h1, h2]
  walk_at "w"
  refine ⟨by omega, _, rfl, hb, ?_⟩
  cases x with
  | list xs =>
    walk_at "w"
    refine ⟨fun k σ => (∀ x ∈ xs.take k, isF b x = true) ∧ ∃ c, σ = [.val (.int b), .val (.list xs), c], ⟨by simp, _, rfl⟩, ?_, ?_⟩
    · rintro k σ d hd ⟨hp, c, rfl⟩
      have base : ∀ d', isF b d' = isF b d → isF b d = false → K (.bool false) true := by
        intro _ _ hf
        have : isR b (.list xs) = false := by
          simp only [isR, Bool.and_eq_false_iff, List.all_eq_false]
          exact .inl ⟨d, List.mem_of_getElem? hd, by simp [hf]⟩
        rw [this] at hk; exact hk
      cases d with
      | int v =>
        walk_at "w"
        refine ⟨by omega, _, rfl, ?_⟩
        walk_at "w"
        refine br_of (fun h3 => ?_) (fun h3 => ?_)
        · walk_at "w"
          refine br_of (fun h4 => ?_) (fun h4 => ?_)
          · walk_at "w"
            refine base _ rfl ?_
            simp [truth] at h3 h4
            simp only [isF, Bool.and_eq_false_iff, decide_eq_false_iff_not]; omega
          · walk_at "w"
            refine ⟨all_take hp hd ?_, _, rfl⟩
            simp [truth] at h3 h4
            simp only [isF, Bool.and_eq_true, decide_eq_true_eq]; omega
        · walk_at "w"
          refine base _ rfl ?_
          simp only [isF]; rw [h3]; rfl
      | _ =>
        walk_at "w"
        refine ⟨by omega, _, rfl, ?_⟩
        exact base _ rfl rfl
    · rintro σ ⟨hp, c, rfl⟩
      rw [List.take_length] at hp
      have hall : xs.all (isF b) = true := List.all_eq_true.mpr hp
      walk_at "w"
      refine br_of (fun h3 => ?_) (fun h3 => ?_)
      · have e : xs = [] := by simpa [truth] using h3
        subst e
        exact hk
      · have hne : xs ≠ [] := by intro q; subst q; simp [truth] at h3
        have hlen : 0 < xs.length := List.length_pos_iff.mpr hne
        obtain ⟨z, hz⟩ : ∃ z, xs[xs.length - 1]? = some z := ⟨xs[xs.length - 1], by simp⟩
        have hlast : xs.getLast? = some z := by rw [List.getLast?_eq_getElem?]; exact hz
        have hzf := hp z (List.mem_of_getElem? hz)
        obtain ⟨v, rfl⟩ : ∃ v, z = .int v := by cases z <;> first | exact ⟨_, rfl⟩ | cases hzf
        walk_at "w"
        refine ⟨by decide, by decide, ?_, .int v, ?_, ?_⟩
        · simp [place]; omega
        · have : (place xs.length (-1)).toNat = xs.length - 1 := by simp [place]; omega
          rw [this]; exact hz
        · walk_at "w"
          have e : isR b (.list xs) = decide (v ≠ 0) := by
            simp only [isR, hall, hlast, Bool.true_and]
            by_cases hv : v = 0
            · subst hv; rfl
            · simp only [ne_eq, hv, not_false_eq_true, decide_true]
              split
              · rename_i q; simp at q; exact absurd q hv
              · rfl
          rw [e] at hk; exact hk
  | _ => exact hk

theorem t_need_row {n : Nat} {ds K} (h : Φ (n + 1) 5 ds K) : wSs (Φ n) b_need_row (retPost K) (startVars ds 2) := by
  obtain ⟨hn, b, x, rfl, h1, h2, h3, hk⟩ := h
  walk_at "w"
  refine ⟨by omega, b, x, rfl, h1, h2, ?_⟩
  rw [h3]
  exact hk

theorem ints_length (xs : List Int) : (iz xs).length = xs.length := by simp [iz]
theorem ints_get (xs : List Int) (k : Nat) : (iz xs)[k]? = (xs[k]?).map .int := by simp [iz]
theorem ints_append (xs ys : List Int) : iz xs ++ iz ys = iz (xs ++ ys) := by simp [iz]
theorem ints_flat (xs : List Int) : flat (iz xs) = true := by simp [flat, iz, imm]

theorem isR_ints {b : Int} {xs : List Int} (h : Figs b xs) (t : Trim xs) : isR b (L xs) = true := by
  simp only [isR, Bool.and_eq_true, List.all_eq_true]
  refine ⟨fun x hx => ?_, ?_⟩
  · obtain ⟨v, hv, rfl⟩ := List.mem_map.mp hx
    have := h v hv
    simp [isF, this.1, this.2]
  · simp only [iz, List.getLast?_map]
    cases hl : xs.getLast? with
    | none => rfl
    | some v =>
      have hv : v ≠ 0 := fun q => t (by rw [hl, q])
      simp only [Option.map_some]
      split
      · rename_i q; simp at q; exact absurd q hv
      · rfl
theorem Row.isR {b : Int} {xs : List Int} (r : Row b xs) : isR b (L xs) = true := isR_ints r.figs r.trim

noncomputable def sumAt (xs ys : List Int) (b : Int) : Nat → List Int × Int
  | 0 => ([], 0)
  | k + 1 =>
    let p := sumAt xs ys b k
    let t := p.2 + xs.getD k 0 + ys.getD k 0
    (p.1 ++ [t % b], t / b)

theorem range_get {m k : Nat} {d : D} (h : ((List.range m).map fun (k : Nat) => PyData.int k)[k]? = some d) : k < m ∧ d = .int k := by
  rw [List.getElem?_map] at h
  by_cases hk : k < m
  · rw [List.getElem?_range hk] at h; simp at h; exact ⟨hk, h.symm⟩
  · rw [List.getElem?_eq_none (by simpa using hk)] at h; cases h
theorem range_len {m : Nat} : ((List.range m).map fun (k : Nat) => PyData.int k).length = m := by simp

theorem idx_ok {xs : List Int} {k : Nat} {P : D → Prop} (h : k < xs.length) (hl : xs.length ≤ 5000) (hk : P (.int (xs.getD k 0))) :
    -wordLid ≤ (k : Int) ∧ (k : Int) < wordLid ∧ 0 ≤ place (iz xs).length (k : Int) ∧ ∃ x, (iz xs)[(place (iz xs).length (k : Int)).toNat]? = some x ∧ P x := by
  refine ⟨?_, ?_, ?_, .int (xs.getD k 0), ?_, hk⟩
  · show -(2 ^ 63 : Int) ≤ _; omega
  · show _ < (2 ^ 63 : Int); omega
  · simp [place]; omega
  · have e : (place (iz xs).length (k : Int)).toNat = k := by simp [place]; omega
    rw [e, ints_get, List.getElem?_eq_getElem h]
    simp [List.getD_eq_getElem?_getD, List.getElem?_eq_getElem h]

theorem fmod_eq {a b : Int} (h : 0 ≤ b) : a.fmod b = a % b := Int.fmod_eq_emod_of_nonneg a h
theorem fdiv_eq {a b : Int} (h : 0 ≤ b) : a.fdiv b = a / b := Int.fdiv_eq_ediv_of_nonneg a h

theorem sumAt_len (xs ys : List Int) (b : Int) : ∀ k, (sumAt xs ys b k).1.length = k
  | 0 => rfl
  | k + 1 => by simp [sumAt, sumAt_len xs ys b k]

theorem getD_ge {xs : List Int} {k : Nat} (h : xs.length ≤ k) : xs.getD k 0 = 0 := by
  simp [List.getD_eq_getElem?_getD, List.getElem?_eq_none h]

theorem sumAt_num {b : Int} (hb : 2 ≤ b) (xs ys : List Int) : ∀ k, num b (sumAt xs ys b k).1 + b ^ k * (sumAt xs ys b k).2 = num b (xs.take k) + num b (ys.take k)
  | 0 => by simp [sumAt, num]
  | k + 1 => by
    have ih := sumAt_num hb xs ys k
    have e : ∀ zs : List Int, num b (zs.take (k + 1)) = num b (zs.take k) + b ^ k * zs.getD k 0 := by
      intro zs
      by_cases hk : k < zs.length
      · rw [List.take_add_one, List.getElem?_eq_getElem hk, num_append]
        simp only [Option.toList_some, num, Int.mul_zero, Int.add_zero, List.length_take, List.getD_eq_getElem?_getD, List.getElem?_eq_getElem hk, Option.getD_some]
        rw [Nat.min_eq_left (by omega)]
      · rw [List.take_of_length_le (by omega), List.take_of_length_le (by omega), getD_ge (by omega)]; simp
    rw [e xs, e ys]
    simp only [sumAt, num_append, sumAt_len, num, Int.mul_zero, Int.add_zero]
    have hdm := Int.mul_ediv_add_emod ((sumAt xs ys b k).2 + xs.getD k 0 + ys.getD k 0) b
    have h1 : b ^ k * b * (((sumAt xs ys b k).2 + xs.getD k 0 + ys.getD k 0) / b) + b ^ k * (((sumAt xs ys b k).2 + xs.getD k 0 + ys.getD k 0) % b) = b ^ k * ((sumAt xs ys b k).2 + xs.getD k 0 + ys.getD k 0) := by
      rw [Int.mul_assoc, ← Int.mul_add, hdm]
    have h2 : b ^ k * ((sumAt xs ys b k).2 + xs.getD k 0 + ys.getD k 0) = b ^ k * (sumAt xs ys b k).2 + b ^ k * xs.getD k 0 + b ^ k * ys.getD k 0 := by rw [Int.mul_add, Int.mul_add]
    rw [Int.pow_succ]
    omega

theorem getD_fig {b : Int} {xs : List Int} (h : Figs b xs) (hb : 0 < b) (k : Nat) : Fig b (xs.getD k 0) := by
  by_cases hk : k < xs.length
  · simp only [List.getD_eq_getElem?_getD, List.getElem?_eq_getElem hk, Option.getD_some]; exact h _ (List.getElem_mem hk)
  · rw [getD_ge (by omega)]; exact ⟨by omega, hb⟩

theorem sumAt_ok {b : Int} (hb : 2 ≤ b) {xs ys : List Int} (hx : Figs b xs) (hy : Figs b ys) : ∀ k, Figs b (sumAt xs ys b k).1 ∧ 0 ≤ (sumAt xs ys b k).2 ∧ (sumAt xs ys b k).2 ≤ 1
  | 0 => ⟨Figs.nil, by simp [sumAt], by simp [sumAt]⟩
  | k + 1 => by
    obtain ⟨h1, h2, h3⟩ := sumAt_ok hb hx hy k
    have fx := getD_fig hx (by omega) k
    have fy := getD_fig hy (by omega) k
    simp only [sumAt]
    unfold Fig at fx fy
    refine ⟨h1.append (Figs.cons ⟨Int.emod_nonneg _ (by omega), Int.emod_lt_of_pos _ (by omega)⟩ Figs.nil), Int.ediv_nonneg (by omega) (by omega), ?_⟩
    have : ((sumAt xs ys b k).2 + xs.getD k 0 + ys.getD k 0) / b < 2 := Int.ediv_lt_of_lt_mul (by omega) (by omega)
    omega

theorem trim_top {xs : List Int} (t : Trim xs) {k : Nat} (hk : xs.length = k + 1) : xs.getD k 0 ≠ 0 := by
  unfold Trim at t
  rw [List.getLast?_eq_getElem?, hk] at t
  intro q
  apply t
  have hl : k < xs.length := by omega
  simp only [Nat.add_sub_cancel]
  rw [List.getElem?_eq_getElem hl]
  simpa [List.getD_eq_getElem?_getD, List.getElem?_eq_getElem hl] using q

theorem sum_final {b : Int} {xs ys : List Int} (hx : Row b xs) (hy : Row b ys) :
    (sumAt xs ys b (max xs.length ys.length)).1 ++ (if 0 < (sumAt xs ys b (max xs.length ys.length)).2 then [(sumAt xs ys b (max xs.length ys.length)).2] else []) = dig b (num b xs + num b ys) := by
  have hb := hx.lo
  have hs := sumAt_num hb xs ys (max xs.length ys.length)
  rw [List.take_of_length_le (Nat.le_max_left _ _), List.take_of_length_le (Nat.le_max_right _ _)] at hs
  obtain ⟨h1, h2, h3⟩ := sumAt_ok hb hx.figs hy.figs (max xs.length ys.length)
  have hl := sumAt_len xs ys b (max xs.length ys.length)
  refine dig_of hb ?_ ?_ ?_
  · refine h1.append ?_
    split
    · exact Figs.cons ⟨h2, by omega⟩ Figs.nil
    · exact Figs.nil
  · split
    · rename_i hp
      unfold Trim
      rw [List.getLast?_append]
      simp; omega
    · rename_i hp
      rw [List.append_nil]
      cases hm : max xs.length ys.length with
      | zero => exact Trim.nil
      | succ k =>
        rw [hm] at hp h2
        have fx := getD_fig hx.figs (by omega) k
        have fy := getD_fig hy.figs (by omega) k
        obtain ⟨_, p2, p3⟩ := sumAt_ok hb hx.figs hy.figs k
        simp only [sumAt] at hp h2 ⊢
        unfold Trim Fig at *
        rw [List.getLast?_append]
        simp only [List.getLast?_singleton, Option.some_or, ne_eq, Option.some.injEq]
        have hz : ((sumAt xs ys b k).2 + xs.getD k 0 + ys.getD k 0) / b = 0 := by omega
        have hdm := Int.mul_ediv_add_emod ((sumAt xs ys b k).2 + xs.getD k 0 + ys.getD k 0) b
        rw [hz, Int.mul_zero, Int.zero_add] at hdm
        rw [hdm]
        rcases (show xs.length = k + 1 ∨ ys.length = k + 1 by omega) with q | q
        · have := trim_top hx.trim q; omega
        · have := trim_top hy.trim q; omega
  · split
    · rw [num_append, hl]; simp only [num, Int.mul_zero, Int.add_zero]; exact hs
    · have : (sumAt xs ys b (max xs.length ys.length)).2 = 0 := by omega
      rw [this] at hs
      rw [List.append_nil]; simpa using hs

theorem t_plain_sum {n : Nat} {ds K} (h : Φ (n + 1) 12 ds K) : wSs (Φ n) b_plain_sum (retPost K) (startVars ds 6) := by
  obtain ⟨hn, b, xs, ys, rfl, hx, hy, hk⟩ := h
  have hlo := hx.lo
  have hlx := hx.len
  have hly := hy.len
  walk_at "w"
  refine ⟨by decide, ?_⟩
  walk_at "w"
  have em : (if ((iz ys).length : Int) > (iz xs).length then ((iz ys).length : Int) else (iz xs).length) = ((max xs.length ys.length : Nat) : Int) := by
    simp only [ints_length]; split <;> omega
  rw [em]
  refine ⟨?_, ?_, ?_⟩
  · show _ < (2 ^ 62 : Int); omega
  · show -(2 ^ 62 : Int) ≤ _; omega
  rw [Int.toNat_natCast]
  refine ⟨fun k σ => ∃ c ds o, ds = iz (sumAt xs ys b k).1 ∧ o = (sumAt xs ys b k).2 ∧ σ = [.val (.int b), .val (L xs), .val (L ys), .own (.list ds), .val (.int o), c], ⟨_, [], 0, rfl, rfl, rfl⟩, ?_, ?_⟩
  · rintro k σ d hd ⟨c, ds, o, hds, ho, rfl⟩
    obtain ⟨hkm, rfl⟩ := range_get hd
    have hdl : ds.length = k := by rw [hds, ints_length, sumAt_len]
    have hsz : ds.length + 1 ≤ sizeLid := by show _ ≤ 2 ^ 24; omega
    have fin : ∀ t, t = o + xs.getD k 0 + ys.getD k 0 → ds ++ [PyData.int (t.fmod b)] = iz (sumAt xs ys b (k + 1)).1 ∧ t.fdiv b = (sumAt xs ys b (k + 1)).2 := by
      intro t ht
      rw [fmod_eq (by omega), fdiv_eq (by omega), hds]
      simp only [sumAt, ← ho, ← ht]
      simp [iz]
    walk_at "w"
    refine br_of (fun h1 => ?_) (fun h1 => ?_) <;> simp only [truth, decide_eq_true_eq, decide_eq_false_iff_not, ints_length] at h1
    · walk_at "w"
      refine idx_ok (xs := xs) (k := k) (by omega) (by omega) ?_
      walk_at "w"
      refine br_of (fun h2 => ?_) (fun h2 => ?_) <;> simp only [truth, decide_eq_true_eq, decide_eq_false_iff_not, ints_length] at h2
      · walk_at "w"
        refine idx_ok (xs := ys) (k := k) (by omega) (by omega) ?_
        walk_at "w"
        refine ⟨by omega, rfl, rfl, hsz, ?_⟩
        walk_at "w"
        refine ⟨by omega, _, _, _, (fin _ rfl).1, (fin _ rfl).2, rfl⟩
      · walk_at "w"
        refine ⟨by omega, rfl, rfl, hsz, ?_⟩
        walk_at "w"
        have e : o + xs.getD k 0 = o + xs.getD k 0 + ys.getD k 0 := by rw [getD_ge (xs := ys) (by omega)]; omega
        refine ⟨by omega, _, _, _, (fin _ e).1, (fin _ e).2, rfl⟩
    · walk_at "w"
      refine br_of (fun h2 => ?_) (fun h2 => ?_) <;> simp only [truth, decide_eq_true_eq, decide_eq_false_iff_not, ints_length] at h2
      · walk_at "w"
        refine idx_ok (xs := ys) (k := k) (by omega) (by omega) ?_
        walk_at "w"
        refine ⟨by omega, rfl, rfl, hsz, ?_⟩
        walk_at "w"
        have e : o + ys.getD k 0 = o + xs.getD k 0 + ys.getD k 0 := by rw [getD_ge (xs := xs) (by omega)]; omega
        refine ⟨by omega, _, _, _, (fin _ e).1, (fin _ e).2, rfl⟩
      · omega
  · rintro σ ⟨c, ds, o, hds, ho, rfl⟩
    rw [range_len] at hds ho
    have hdl : ds.length ≤ 4000 := by rw [hds, ints_length, sumAt_len]; omega
    have hsz : ds.length + 1 ≤ sizeLid := by show _ ≤ 2 ^ 24; omega
    have fin := sum_final hx hy
    rw [← ho] at fin
    walk_at "w"
    refine br_of (fun h2 => ?_) (fun h2 => ?_) <;> simp only [truth, decide_eq_true_eq, decide_eq_false_iff_not] at h2
    · rw [if_pos h2] at fin
      walk_at "w"
      refine ⟨rfl, rfl, hsz, ?_⟩
      walk_at "w"
      have e : ds ++ [PyData.int o] = iz (dig b (num b xs + num b ys)) := by rw [← fin, hds]; simp [iz]
      rw [e]; exact hk
    · rw [if_neg h2, List.append_nil] at fin
      walk_at "w"
      have e : ds = iz (dig b (num b xs + num b ys)) := by rw [← fin, hds]
      rw [e]; exact hk
end Mine
set_option Elab.async false
namespace Mine
open PySem
local macro_rules | `(tactic| walk_at "w") => `(tactic| conv => whnf)

theorem t_law_draw {n : Nat} {ds K} (h : Φ (n + 1) 50 ds K) : wSs (Φ n) b_law_draw (retPost K) (startVars ds 2) := by
  obtain ⟨hn, ns, k, rfl, h0, h1, hl, hk⟩ := h
  obtain ⟨k, rfl⟩ := Int.eq_ofNat_of_zero_le h0
  walk_at "w"
  refine br_of (fun h2 => ?_) (fun h2 => ?_) <;> simp only [truth, decide_eq_true_eq, decide_eq_false_iff_not, ints_length] at h2
  · walk_at "w"
    refine idx_ok (xs := ns) (k := k) (by omega) (by omega) ?_
    exact hk _
  · exact hk _

theorem t_law_base_by {n : Nat} {ds K} (h : Φ (n + 1) 51 ds K) : wSs (Φ n) b_law_base_by (retPost K) (startVars ds 1) := by
  obtain ⟨hn, c, rfl, hk⟩ := h
  walk_at "w"
  refine ⟨by decide, ?_⟩
  refine br_of (fun h2 => ?_) (fun h2 => ?_)
  · walk_at "w"
    refine ⟨by decide, ?_⟩
    walk_at "w"
    refine ⟨by decide, ?_⟩
    have e := Int.emod_nonneg (c.fdiv 4) (show (15 : Int) ≠ 0 by decide)
    have e' := Int.emod_lt_of_pos (c.fdiv 4) (show (0 : Int) < 15 by decide)
    refine hk _ ?_ ?_ <;> rw [fmod_eq (by decide)] <;> omega
  · walk_at "w"
    refine ⟨by decide, ?_⟩
    refine br_of (fun h3 => ?_) (fun h3 => ?_)
    · walk_at "w"
      refine ⟨by decide, ?_⟩
      walk_at "w"
      refine ⟨by decide, ?_⟩
      walk_at "w"
      refine ⟨by decide, ?_⟩
      walk_at "w"
      rw [fmod_eq (by decide)]
      have e := Int.emod_nonneg (c.fdiv 4) (show (6 : Int) ≠ 0 by decide)
      have e' := Int.emod_lt_of_pos (c.fdiv 4) (show (0 : Int) < 6 by decide)
      generalize (c.fdiv 4) % 6 = j at *
      have hp : place 6 j = j := by simp [place]; omega
      refine ⟨?_, ?_, ?_, ?_⟩
      · show -(2 ^ 63 : Int) ≤ _; omega
      · show _ < (2 ^ 63 : Int); omega
      · show 0 ≤ place 6 j; omega
      · have hj : (place 6 j).toNat < 6 := by omega
        show ∃ x, ([PyData.int 2, PyData.int 3, PyData.int 10, PyData.int 256, PyData.int 999999, PyData.int 1000000] : List D)[(place 6 j).toNat]? = some x ∧ _
        generalize (place 6 j).toNat = i at *
        match i, hj with
        | 0, _ => exact ⟨_, rfl, hk _ (by decide) (by decide)⟩
        | 1, _ => exact ⟨_, rfl, hk _ (by decide) (by decide)⟩
        | 2, _ => exact ⟨_, rfl, hk _ (by decide) (by decide)⟩
        | 3, _ => exact ⟨_, rfl, hk _ (by decide) (by decide)⟩
        | 4, _ => exact ⟨_, rfl, hk _ (by decide) (by decide)⟩
        | 5, _ => exact ⟨_, rfl, hk _ (by decide) (by decide)⟩
    · walk_at "w"
      refine ⟨by decide, ?_⟩
      walk_at "w"
      refine ⟨by decide, ?_⟩
      have e := Int.emod_nonneg (c.fdiv 4) (show (999999 : Int) ≠ 0 by decide)
      have e' := Int.emod_lt_of_pos (c.fdiv 4) (show (0 : Int) < 999999 by decide)
      refine hk _ ?_ ?_ <;> rw [fmod_eq (by decide)] <;> omega

theorem t_law_is_number {n : Nat} {ds K} (h : Φ (n + 1) 55 ds K) : wSs (Φ n) b_law_is_number (retPost K) (startVars ds 1) := by
  obtain ⟨hn, x, rfl, hk⟩ := h
  cases x with
  | bool b => cases b <;> exact hk
  | _ => exact hk

theorem num_rev_step (b : Int) : ∀ (xs : List Int) (a : Int), xs.foldl (fun t x => t * b + x) a = a * b ^ xs.length + num b xs.reverse
  | [], a => by simp [num]
  | x :: xs, a => by
    rw [List.foldl_cons, num_rev_step b xs]
    simp only [List.length_cons, List.reverse_cons, num_append, num, Int.mul_zero, Int.add_zero, List.length_reverse, Int.pow_succ, Int.add_mul]
    have : a * b * b ^ xs.length = a * (b ^ xs.length * b) := by rw [Int.mul_assoc, Int.mul_comm b]
    rw [this, Int.mul_comm x]
    omega
theorem foldl_take_succ {xs : List Int} {k : Nat} (h : k < xs.length) (f : Int → Int → Int) (a : Int) : (xs.take (k + 1)).foldl f a = f ((xs.take k).foldl f a) (xs.getD k 0) := by
  rw [List.take_add_one, List.getElem?_eq_getElem h, List.foldl_append]
  simp [List.getD_eq_getElem?_getD, List.getElem?_eq_getElem h]
theorem ints_reverse (xs : List Int) : (iz xs).reverse = iz xs.reverse := by simp [iz]
theorem ints_get_some {xs : List Int} {k : Nat} {d : D} (h : (iz xs)[k]? = some d) : k < xs.length ∧ d = .int (xs.getD k 0) := by
  rw [ints_get] at h
  by_cases hk : k < xs.length
  · rw [List.getElem?_eq_getElem hk] at h
    simp at h
    exact ⟨hk, by simp [List.getD_eq_getElem?_getD, List.getElem?_eq_getElem hk, h]⟩
  · rw [List.getElem?_eq_none (by omega)] at h; cases h
theorem mul_small {a b : Int} (h : 0 ≤ b) (h' : b ≤ 1000000) : mulOk a b := .inl (.inr (by omega))

theorem t_law_number {n : Nat} {ds K} (h : Φ (n + 1) 53 ds K) : wSs (Φ n) b_law_number (retPost K) (startVars ds 4) := by
  obtain ⟨hn, b, xs, rfl, h1, h2, hl, hk⟩ := h
  walk_at "w"
  rw [ints_reverse]
  refine ⟨fun k σ => ∃ c o, o = (xs.reverse.take k).foldl (fun t x => t * b + x) 0 ∧ σ = [.val (.int b), .val (L xs), .val (.int o), c], ⟨_, _, rfl, rfl⟩, ?_, ?_⟩
  · rintro k σ d hd ⟨c, o, ho, rfl⟩
    obtain ⟨hk', rfl⟩ := ints_get_some hd
    walk_at "w"
    refine ⟨mul_small (by omega) h2, ?_⟩
    walk_at "w"
    refine ⟨_, _, ?_, rfl⟩
    rw [foldl_take_succ hk', ← ho]
  · rintro σ ⟨c, o, ho, rfl⟩
    rw [ints_length, List.take_length, num_rev_step] at ho
    simp at ho
    subst ho
    exact hk

theorem L_snoc (xs : List Int) (x : Int) : L (xs ++ [x]) = .list (iz xs ++ [.int x]) := by simp [L, iz]

theorem t_law_figures {n : Nat} {ds K} (h : Φ (n + 1) 54 ds K) : wSs (Φ n) b_law_figures (retPost K) (startVars ds 3) := by
  obtain ⟨hn, b, m, rfl, h1, h2, h3, hk⟩ := h
  have hdl := dig_len h1 h2 h3
  walk_at "w"
  refine ⟨by decide, ?_⟩
  walk_at "w"
  refine ⟨fun k σ => ∃ F r, F ++ dig b r = dig b m ∧ 0 ≤ r ∧ r.toNat = k ∧ σ = [.val (.int b), .val (.int r), .own (L F)], ⟨_, [], m, rfl, h2, rfl, rfl⟩, ?_⟩
  rintro k σ ⟨F, r, hF, hr, rfl, rfl⟩
  walk_at "w"
  refine br_of (fun h4 => ?_) (fun h4 => ?_) <;> simp only [truth, decide_eq_true_eq, decide_eq_false_iff_not] at h4
  · have hs := dig_step h1 h4
    have hFl : F.length + 1 ≤ 4000 := by
      have : (F ++ dig b r).length ≤ 4000 := by rw [hF]; exact hdl
      rw [hs] at this; simp at this; omega
    walk_at "w"
    refine ⟨by omega, rfl, rfl, ?_, ?_⟩
    · show _ ≤ 2 ^ 24; rw [ints_length]; omega
    walk_at "w"
    refine ⟨by omega, ?_⟩
    walk_at "w"
    rw [fmod_eq (by omega), fdiv_eq (by omega)]
    have hdlt : r / b < r := Int.ediv_lt_self_of_pos_of_ne_one h4 (by omega)
    have hdn := Int.ediv_nonneg hr (show 0 ≤ b by omega)
    refine ⟨_, ?_, F ++ [r % b], r / b, ?_, hdn, rfl, ?_⟩
    · omega
    · rw [← hF, hs]; simp
    · rw [L_snoc]; rfl
  · have : r = 0 := by omega
    subst this
    rw [dig_zero, List.append_nil] at hF
    subst hF
    exact hk

theorem trim_drop {xs : List Int} (h : xs ≠ []) (h' : xs.getD (xs.length - 1) 0 ≠ 0) : Trim xs := by
  unfold Trim
  rw [List.getLast?_eq_getElem?]
  have : xs.length - 1 < xs.length := by have := List.length_pos_iff.mpr h; omega
  simp only [List.getD_eq_getElem?_getD, List.getElem?_eq_getElem this, Option.getD_some] at h' ⊢
  simpa using h'

theorem idx_last {xs : List Int} {P : D → Prop} (h : xs ≠ []) (hl : xs.length ≤ 5000) (hk : P (.int (xs.getD (xs.length - 1) 0))) :
    -wordLid ≤ (-1 : Int) ∧ (-1 : Int) < wordLid ∧ 0 ≤ place (iz xs).length (-1 : Int) ∧ ∃ x, (iz xs)[(place (iz xs).length (-1 : Int)).toNat]? = some x ∧ P x := by
  have hp := List.length_pos_iff.mpr h
  refine ⟨by decide, by decide, ?_, .int (xs.getD (xs.length - 1) 0), ?_, hk⟩
  · simp [place, ints_length]; omega
  · have e : (place (iz xs).length (-1 : Int)).toNat = xs.length - 1 := by simp [place, ints_length]; omega
    have hlt : xs.length - 1 < xs.length := by omega
    rw [e, ints_get, List.getElem?_eq_getElem hlt]
    simp [List.getD_eq_getElem?_getD, List.getElem?_eq_getElem hlt]

theorem okD_ints (xs : List Int) (k : Nat) : okD (k + 1) (L xs) = true := by
  simp only [okD, List.all_eq_true]
  intro x hx
  obtain ⟨v, _, rfl⟩ := List.mem_map.mp hx
  cases k <;> rfl
theorem eqDs_ints : ∀ xs ys : List Int, eqDs (iz xs) (iz ys) = decide (xs = ys)
  | [], [] => rfl
  | [], _ :: _ => by simp [iz, eqDs]
  | _ :: _, [] => by simp [iz, eqDs]
  | x :: xs, y :: ys => by
    have ih := eqDs_ints xs ys
    simp only [iz, List.map_cons, eqDs, eqD] at ih ⊢
    rw [ih, Bool.eq_iff_iff]
    simp
theorem eqD_L (xs ys : List Int) : eqD (L xs) (L ys) = decide (xs = ys) := by rw [← eqDs_ints]; simp [L, eqD]
theorem eqD_nil (xs : List Int) : eqD (L xs) (.list []) = decide (xs = []) := eqD_L xs []

theorem ints_take (xs : List Int) (k : Nat) : (iz xs).take k = iz (xs.take k) := by simp [iz]
theorem cpF_ints (xs : List Int) (f : Fg) : cpF (iz xs) f = ff := by simp [cpF, ints_flat]

theorem seq_nil {Φ : Calls} {Q : Fl → Vars → Prop} {ρ : Vars} (h : Q .next ρ) : wSs Φ .nil Q ρ := h
theorem t_law_row_by {n : Nat} {ds K} (h : Φ (n + 1) 52 ds K) : wSs (Φ n) b_law_row_by (retPost K) (startVars ds 10) := by
  obtain ⟨hn, ns, k, b, m, rfl, hl, k0, k1, b0, b1, m0, m1, hk⟩ := h
  walk_at "w"
  refine ⟨by omega, ns, k, rfl, by omega, by omega, hl, fun c₁ => ?_⟩
  walk_at "w"
  refine ⟨by decide, ?_⟩
  walk_at "w"
  refine ⟨by omega, ns, k, rfl, by omega, by omega, hl, fun c₂ => ?_⟩
  walk_at "w"
  refine ⟨by decide, ?_⟩
  walk_at "w"
  refine ⟨by decide, ?_⟩
  -- the rest, for any size
  have rest : ∀ sz, 0 ≤ sz → sz ≤ 90 → ∀ σ : Vars, σ = [.val (L ns), .val (.int k), .val (.int b), .val (.int m), .val (.int sz), .unset, .unset, .unset, .unset, .unset] → wSs (Φ n) (match b_law_row_by with | .cons _ (.cons _ r) => r | _ => .nil) (retPost K) σ := by
    rintro sz s0 s1 σ rfl
    walk_at "w"
    refine ⟨by omega, ns, k + 1, rfl, by omega, by omega, hl, fun c₃ => ?_⟩
    walk_at "w"
    refine ⟨by decide, ?_⟩
    walk_at "w"
    refine ⟨by omega, ns, k + 1, rfl, by omega, by omega, hl, fun c₄ => ?_⟩
    walk_at "w"
    refine ⟨by decide, ?_⟩
    walk_at "w"
    refine ⟨by decide, ?_⟩
    walk_at "w"
    refine ⟨?_, ?_, ?_⟩
    · show _ < (2 ^ 62 : Int); omega
    · show -(2 ^ 62 : Int) ≤ _; omega
    refine ⟨fun j σ => ∃ F left c c', Figs b F ∧ F.length = j ∧ σ = [.val (L ns), .val (.int k), .val (.int b), .val (.int m), .val (.int sz), .val (.int (c₃.fmod 5)), .val (.int left), .own (L F), c, c'], ⟨[], _, _, _, Figs.nil, rfl, rfl⟩, ?_, ?_⟩
    · rintro j σ d hd ⟨F, left, c, c', hF, hFl, rfl⟩
      obtain ⟨hj, rfl⟩ := range_get hd
      have hsz : (iz F).length + 1 ≤ sizeLid := by show _ ≤ 2 ^ 24; rw [ints_length]; omega
      have hm0 := Int.emod_nonneg (left + j * j * 48271) (show b ≠ 0 by omega)
      have hm1 := Int.emod_lt_of_pos (left + j * j * 48271) (show 0 < b by omega)
      walk_at "w"
      refine ⟨mul_small (by omega) (by omega), ?_⟩
      walk_at "w"
      refine ⟨mul_small (by omega) (by omega), ?_⟩
      walk_at "w"
      refine ⟨by omega, ?_⟩
      walk_at "w"
      refine ⟨by omega, ?_⟩
      walk_at "w"
      rw [fmod_eq (a := left + j * j * 48271) (by omega)]
      generalize (left + j * j * 48271) % b = v at *
      -- the figure, whatever the way
      have fin : ∀ (u : Int) (left' : Int) (τ : Vars), Fig b u → τ = [.val (L ns), .val (.int k), .val (.int b), .val (.int m), .val (.int sz), .val (.int (c₃.fmod 5)), .val (.int left'), .own (.list (iz F ++ [.int u])), .val (.int j), .val (.int u)] →
          ∃ F left c c', Figs b F ∧ F.length = j + 1 ∧ τ = [.val (L ns), .val (.int k), .val (.int b), .val (.int m), .val (.int sz), .val (.int (c₃.fmod 5)), .val (.int left), .own (L F), c, c'] := by
        intro u left' τ hu hτ
        refine ⟨F ++ [u], left', .val (.int j), .val (.int u), hF.append (Figs.cons hu Figs.nil), by simp [hFl], ?_⟩
        rw [hτ, L_snoc]
      have f0 : Fig b v := ⟨hm0, hm1⟩
      have f1 : Fig b (b - 1) := ⟨by omega, by omega⟩
      have f2 : ∀ c : Bool, Fig b (if c = true then 1 else 0) := by intro c; split <;> exact ⟨by omega, by omega⟩
      have f3 : Fig b 0 := ⟨by omega, by omega⟩
      refine br_of (fun h1 => ?_) (fun h1 => ?_)
      · walk_at "w"
        refine br_of (fun h2 => ?_) (fun h2 => ?_)
        · walk_at "w"
          refine br_of (fun h3 => ?_) (fun h3 => ?_)
          · walk_at "w"
            refine ⟨by decide, ?_⟩
            refine br_of (fun h4 => ?_) (fun h4 => ?_)
            · walk_at "w"; exact ⟨rfl, rfl, hsz, fin _ _ _ f3 rfl⟩
            · walk_at "w"; exact ⟨rfl, rfl, hsz, fin _ _ _ (f2 _) rfl⟩
          · walk_at "w"
            refine br_of (fun h4 => absurd h4 (by rw [h3]; decide)) (fun h4 => ?_)
            walk_at "w"; exact ⟨rfl, rfl, hsz, fin _ _ _ (f2 _) rfl⟩
        · walk_at "w"
          refine br_of (fun h3 => ?_) (fun h3 => ?_)
          · walk_at "w"
            refine ⟨by decide, ?_⟩
            refine br_of (fun h4 => ?_) (fun h4 => ?_)
            · walk_at "w"; exact ⟨rfl, rfl, hsz, fin _ _ _ f3 rfl⟩
            · walk_at "w"; exact ⟨rfl, rfl, hsz, fin _ _ _ f1 rfl⟩
          · walk_at "w"
            refine br_of (fun h4 => absurd h4 (by rw [h3]; decide)) (fun h4 => ?_)
            walk_at "w"; exact ⟨rfl, rfl, hsz, fin _ _ _ f1 rfl⟩
      · walk_at "w"
        refine br_of (fun h2 => ?_) (fun h2 => ?_)
        · walk_at "w"
          refine br_of (fun h3 => ?_) (fun h3 => ?_)
          · walk_at "w"
            refine ⟨by decide, ?_⟩
            refine br_of (fun h4 => ?_) (fun h4 => ?_)
            · walk_at "w"; exact ⟨rfl, rfl, hsz, fin _ _ _ f3 rfl⟩
            · walk_at "w"; exact ⟨rfl, rfl, hsz, fin _ _ _ (f2 _) rfl⟩
          · walk_at "w"
            refine br_of (fun h4 => absurd h4 (by rw [h3]; decide)) (fun h4 => ?_)
            walk_at "w"; exact ⟨rfl, rfl, hsz, fin _ _ _ (f2 _) rfl⟩
        · walk_at "w"
          refine br_of (fun h3 => ?_) (fun h3 => ?_)
          · walk_at "w"
            refine ⟨by decide, ?_⟩
            refine br_of (fun h4 => ?_) (fun h4 => ?_)
            · walk_at "w"; exact ⟨rfl, rfl, hsz, fin _ _ _ f3 rfl⟩
            · walk_at "w"; exact ⟨rfl, rfl, hsz, fin _ _ _ f0 rfl⟩
          · walk_at "w"
            refine br_of (fun h4 => absurd h4 (by rw [h3]; decide)) (fun h4 => ?_)
            walk_at "w"; exact ⟨rfl, rfl, hsz, fin _ _ _ f0 rfl⟩
    · rintro σ ⟨F, left, c, c', hF, hFl, rfl⟩
      rw [range_len] at hFl
      walk_at "w"
      refine ⟨fun i σ => ∃ F, Figs b F ∧ F.length ≤ 90 ∧ F.length = i ∧ σ = [.val (L ns), .val (.int k), .val (.int b), .val (.int m), .val (.int sz), .val (.int (c₃.fmod 5)), .val (.int left), .own (L F), c, c'], ⟨_, F, hF, by omega, rfl, rfl⟩, ?_⟩
      rintro i σ ⟨F, hF, hFl, rfl, rfl⟩
      walk_at "w"
      refine ⟨by decide, ?_⟩
      walk_at "w"
      refine ⟨okD_ints _ _, rfl, ?_⟩
      walk_at "w"
      refine br_of (fun h1 => ?_) (fun h1 => ?_) <;> rw [eqD_nil] at h1 <;> simp only [truth, Bool.not_eq_true', Bool.not_eq_false', decide_eq_true_eq, decide_eq_false_iff_not] at h1
      · walk_at "w"
        refine idx_last h1 (by omega) ?_
        walk_at "w"
        refine br_of (fun h2 => ?_) (fun h2 => ?_) <;> simp only [truth, decide_eq_true_eq, decide_eq_false_iff_not] at h2
        · have hp := List.length_pos_iff.mpr h1
          walk_at "w"
          have e : cut (iz F).length (-1) = F.length - 1 := by simp [cut, ints_length]; omega
          rw [e, ints_take, cpF_ints]
          exact ⟨F.length - 1, by omega, F.take (F.length - 1), hF.take _, by simp; omega, by simp, rfl⟩
        · walk_at "w"
          exact hk F ⟨b0, b1, hF, trim_drop h1 h2, by omega⟩ hFl
      · subst h1
        refine br_ff rfl ?_
        exact hk [] ⟨b0, b1, Figs.nil, Trim.nil, by decide⟩ (by decide)
  refine br_of (fun h4 => ?_) (fun h4 => ?_)
  · walk_at "w"
    refine ⟨by omega, ns, k, rfl, by omega, by omega, hl, fun c₅ => ?_⟩
    walk_at "w"
    refine ⟨by decide, ?_⟩
    walk_at "w"
    refine ⟨by omega, ?_⟩
    have e0 := Int.emod_nonneg (c₅.fdiv 36) (show m ≠ 0 by omega)
    have e1 := Int.emod_lt_of_pos (c₅.fdiv 36) (show 0 < m by omega)
    rw [← fmod_eq (by omega)] at e0 e1
    exact rest ((c₅.fdiv 36).fmod m) e0 (by omega) _ rfl
  · have e0 := Int.emod_nonneg c₁ (show (9 : Int) ≠ 0 by omega)
    have e1 := Int.emod_lt_of_pos c₁ (show (0 : Int) < 9 by omega)
    rw [← fmod_eq (by omega)] at e0 e1
    refine seq_nil ?_
    exact rest (c₁.fmod 9) e0 (by omega) _ rfl
end Mine
set_option Elab.async false
namespace Mine
open PySem
local macro_rules | `(tactic| walk_at "w") => `(tactic| conv => whnf)

theorem row_num_nonneg {b : Int} {xs : List Int} (r : Row b xs) : 0 ≤ num b xs := num_nonneg (by have := r.lo; omega) r.figs
theorem row_num_lt {b : Int} {xs : List Int} (r : Row b xs) {k : Nat} (h : xs.length ≤ k) : num b xs < b ^ k :=
  Int.lt_of_lt_of_le (num_lt (by have := r.lo; omega) r.figs) (pow_mono (by have := r.lo; omega) h)
theorem idxd {xs : List D} {x : D} {P : D → Prop} (k : Nat) (e : xs[k]? = some x) (hk : k < 5000) (h : P x) :
    -wordLid ≤ (k : Int) ∧ (k : Int) < wordLid ∧ 0 ≤ place xs.length (k : Int) ∧ ∃ x, xs[(place xs.length (k : Int)).toNat]? = some x ∧ P x := by
  have hp : place xs.length (k : Int) = k := by simp [place]; omega
  rw [hp]
  refine ⟨?_, ?_, by omega, x, ?_, h⟩
  · show -(2 ^ 63 : Int) ≤ _; omega
  · show _ < (2 ^ 63 : Int); omega
  · rw [Int.toNat_natCast]; exact e

theorem trim_nil : trim [] = [] := rfl
theorem trim_snoc (xs : List Int) (x : Int) : trim (xs ++ [x]) = if x = 0 then trim xs else xs ++ [x] := by
  simp only [trim, List.reverse_append, List.reverse_cons, List.reverse_nil, List.nil_append, List.singleton_append, List.dropWhile_cons, decide_eq_true_eq]
  split
  · rfl
  · simp

theorem take_succ_getD {xs : List Int} {k : Nat} (h : k < xs.length) : xs.take (k + 1) = xs.take k ++ [xs.getD k 0] := by
  rw [List.take_add_one, List.getElem?_eq_getElem h]
  simp [List.getD_eq_getElem?_getD, List.getElem?_eq_getElem h]

theorem t_trimmed {n : Nat} {ds K} (h : Φ (n + 1) 10 ds K) : wSs (Φ n) b_trimmed (retPost K) (startVars ds 2) := by
  obtain ⟨hn, xs, rfl, hl, hk⟩ := h
  walk_at "w"
  refine ⟨fun k σ => k ≤ xs.length ∧ trim (xs.take k) = trim xs ∧ σ = [.val (L xs), .val (.int k)], ⟨xs.length, Nat.le_refl _, by simp, by rw [show ((xs.length : Nat) : Int) = ((iz xs).length : Nat) by rw [ints_length]]; rfl⟩, ?_⟩
  rintro k σ ⟨hkl, ht, rfl⟩
  walk_at "w"
  refine br_of (fun h1 => ?_) (fun h1 => ?_) <;> simp only [truth, decide_eq_true_eq, decide_eq_false_iff_not] at h1
  · obtain ⟨j, rfl⟩ : ∃ j, k = j + 1 := ⟨k - 1, by omega⟩
    have e : ((j + 1 : Nat) : Int) - 1 = (j : Nat) := by omega
    walk_at "w"
    rw [e]
    refine idx_ok (xs := xs) (k := j) (by omega) (by omega) ?_
    rw [take_succ_getD (by omega), trim_snoc] at ht
    walk_at "w"
    refine br_of (fun h2 => ?_) (fun h2 => ?_) <;> simp only [truth, decide_eq_true_eq, decide_eq_false_iff_not] at h2
    · rw [if_pos h2] at ht
      walk_at "w"
      refine ⟨j, by omega, by omega, ht, by rw [← e]; rfl⟩
    · rw [if_neg h2, ← take_succ_getD (by omega)] at ht
      walk_at "w"
      have ec : cut (iz xs).length ((j + 1 : Nat) : Int) = j + 1 := by simp [cut]; omega
      rw [ec, ints_take, cpF_ints, ht]
      exact hk
  · have : k = 0 := by omega
    subst this
    rw [List.take_zero, trim_nil] at ht
    rw [← ht] at hk
    exact hk

theorem num_split {b : Int} {xs : List Int} {i : Nat} (h : i < xs.length) : num b xs = num b (xs.take i) + b ^ i * (xs.getD i 0 + b * num b (xs.drop (i + 1))) := by
  have e : xs = xs.take i ++ (xs.getD i 0 :: xs.drop (i + 1)) := by
    have : xs.getD i 0 = xs[i] := by simp [List.getD_eq_getElem?_getD, List.getElem?_eq_getElem h]
    rw [this, ← List.drop_eq_getElem_cons h, List.take_append_drop]
  have hl : (xs.take i).length = i := by simp; omega
  calc num b xs = num b (xs.take i ++ (xs.getD i 0 :: xs.drop (i + 1))) := by rw [← e]
    _ = _ := by rw [num_append, hl]; rfl

theorem num_lt_of_top {b : Int} (hb : 2 ≤ b) {xs ys : List Int} (hx : Figs b xs) (hy : Figs b ys) {i : Nat} (h1 : i < xs.length) (h2 : i < ys.length) (hd : xs.drop (i + 1) = ys.drop (i + 1)) (hlt : xs.getD i 0 < ys.getD i 0) : num b xs < num b ys := by
  rw [num_split h1, num_split h2, hd]
  have l1 := num_lt (by omega) (hx.take i)
  have l2 := num_nonneg (by omega) (hy.take i)
  have e : (xs.take i).length = i := by simp; omega
  rw [e] at l1
  have hp : 0 < b ^ i := Int.pow_pos (by omega)
  have := Int.mul_le_mul_of_nonneg_left (show xs.getD i 0 + 1 ≤ ys.getD i 0 by omega) (Int.le_of_lt hp)
  rw [Int.mul_add, Int.mul_add]
  rw [Int.mul_add] at this
  omega

theorem num_lt_of_len {b : Int} {xs ys : List Int} (hx : Row b xs) (hy : Row b ys) (h : xs.length < ys.length) : num b xs < num b ys := by
  have hb := hx.lo
  have h1 := num_lt (by omega) hx.figs
  have h2 := num_ge hb hy.figs hy.trim (by intro q; rw [q] at h; simp at h)
  have h3 : b ^ xs.length ≤ b ^ (ys.length - 1) := pow_mono (by omega) (by omega)
  omega

theorem down_get {m k : Nat} {i : Int} {d : D} (h : ((List.range m).map fun (k : Nat) => PyData.int (i - k))[k]? = some d) : k < m ∧ d = .int (i - k) := by
  rw [List.getElem?_map] at h
  by_cases hk : k < m
  · rw [List.getElem?_range hk] at h; simp at h; exact ⟨hk, h.symm⟩
  · rw [List.getElem?_eq_none (by simpa using hk)] at h; cases h

theorem t_order {n : Nat} {ds K} (h : Φ (n + 1) 11 ds K) : wSs (Φ n) b_order (retPost K) (startVars ds 3) := by
  obtain ⟨hn, b, xs, ys, rfl, hx, hy, hk⟩ := h
  have hb := hx.lo
  have hlx := hx.len
  have less : num b xs < num b ys → K (.int (-1)) true := fun q => by unfold cmp3 at hk; rw [if_pos q] at hk; exact hk
  have more : num b ys < num b xs → K (.int 1) true := fun q => by unfold cmp3 at hk; rw [if_neg (by omega), if_pos q] at hk; exact hk
  walk_at "w"
  refine br_of (fun h1 => ?_) (fun h1 => ?_) <;> simp only [truth, decide_eq_true_eq, decide_eq_false_iff_not, ints_length, ne_eq, Decidable.not_not] at h1
  · walk_at "w"
    refine br_of (fun h2 => ?_) (fun h2 => ?_) <;> simp only [truth, decide_eq_true_eq, decide_eq_false_iff_not, ints_length] at h2
    · walk_at "w"
      exact less (num_lt_of_len hx hy (by omega))
    · walk_at "w"
      exact more (num_lt_of_len hy hx (by omega))
  · have hlen : xs.length = ys.length := by omega
    walk_at "w"
    refine ⟨?_, ?_, ?_⟩
    · show _ < (2 ^ 62 : Int); rw [ints_length]; omega
    · show -(2 ^ 62 : Int) ≤ _; omega
    rw [ints_length]
    have en : ((xs.length : Int) - 1 + 1).toNat = xs.length := by omega
    rw [en]
    refine ⟨fun k σ => xs.drop (xs.length - k) = ys.drop (xs.length - k) ∧ ∃ c, σ = [.val (L xs), .val (L ys), c], ⟨by simp [hlen], _, rfl⟩, ?_, ?_⟩
    · rintro k σ d hd ⟨he, c, rfl⟩
      obtain ⟨hkm, rfl⟩ := down_get hd
      obtain ⟨i, hi⟩ : ∃ i, xs.length = i + k + 1 := ⟨xs.length - k - 1, by omega⟩
      have ei : ((xs.length : Int) - 1 - k) = (i : Nat) := by omega
      have ej : xs.length - k = i + 1 := by omega
      rw [ej] at he
      rw [ei]
      walk_at "w"
      refine idx_ok (xs := xs) (k := i) (by omega) (by omega) ?_
      walk_at "w"
      refine idx_ok (xs := ys) (k := i) (by omega) (by omega) ?_
      walk_at "w"
      refine br_of (fun h2 => ?_) (fun h2 => ?_) <;> simp only [truth, decide_eq_true_eq, decide_eq_false_iff_not, ne_eq, Decidable.not_not] at h2
      · walk_at "w"
        refine idx_ok (xs := xs) (k := i) (by omega) (by omega) ?_
        walk_at "w"
        refine idx_ok (xs := ys) (k := i) (by omega) (by omega) ?_
        walk_at "w"
        refine br_of (fun h3 => ?_) (fun h3 => ?_) <;> simp only [truth, decide_eq_true_eq, decide_eq_false_iff_not] at h3
        · walk_at "w"
          exact less (num_lt_of_top hb hx.figs hy.figs (by omega) (by omega) he h3)
        · walk_at "w"
          exact more (num_lt_of_top hb hy.figs hx.figs (by omega) (by omega) he.symm (by omega))
      · walk_at "w"
        refine ⟨?_, _, rfl⟩
        have e2 : xs.length - (k + 1) = i := by omega
        have hx1 : i < xs.length := by omega
        have hy1 : i < ys.length := by omega
        rw [e2, List.drop_eq_getElem_cons hx1, List.drop_eq_getElem_cons hy1, he]
        simp only [List.getD_eq_getElem?_getD, List.getElem?_eq_getElem hx1, List.getElem?_eq_getElem hy1, Option.getD_some] at h2
        rw [h2]
    · rintro σ ⟨he, c, rfl⟩
      simp only [List.length_map, List.length_range, Nat.sub_self, List.drop_zero] at he
      subst he
      unfold cmp3 at hk
      rw [if_neg (by omega), if_neg (by omega)] at hk
      exact hk
end Mine
set_option Elab.async false
namespace Mine
open PySem
local macro_rules | `(tactic| walk_at "w") => `(tactic| conv => whnf)

noncomputable def scAt (f b : Int) : List Int → Nat → List Int × Int
  | _, 0 => ([], 0)
  | xs, k + 1 =>
    let p := scAt f b xs k
    let t := p.2 + xs.getD k 0 * f
    (p.1 ++ [t % b], t / b)

theorem scAt_len (f b : Int) (xs : List Int) : ∀ k, (scAt f b xs k).1.length = k
  | 0 => rfl
  | k + 1 => by simp [scAt, scAt_len f b xs k]

theorem num_take_succ (b : Int) (zs : List Int) (k : Nat) : num b (zs.take (k + 1)) = num b (zs.take k) + b ^ k * zs.getD k 0 := by
  by_cases hk : k < zs.length
  · rw [List.take_add_one, List.getElem?_eq_getElem hk, num_append]
    simp only [Option.toList_some, num, Int.mul_zero, Int.add_zero, List.length_take, List.getD_eq_getElem?_getD, List.getElem?_eq_getElem hk, Option.getD_some]
    rw [Nat.min_eq_left (by omega)]
  · rw [List.take_of_length_le (by omega), List.take_of_length_le (by omega), getD_ge (by omega)]; simp

theorem scAt_num {f b : Int} (xs : List Int) : ∀ k, num b (scAt f b xs k).1 + b ^ k * (scAt f b xs k).2 = num b (xs.take k) * f
  | 0 => by simp [scAt, num]
  | k + 1 => by
    have ih := scAt_num (f := f) (b := b) xs k
    rw [num_take_succ]
    simp only [scAt, num_append, scAt_len, num, Int.mul_zero, Int.add_zero]
    have hdm := Int.mul_ediv_add_emod ((scAt f b xs k).2 + xs.getD k 0 * f) b
    have h1 : b ^ k * b * (((scAt f b xs k).2 + xs.getD k 0 * f) / b) + b ^ k * (((scAt f b xs k).2 + xs.getD k 0 * f) % b) = b ^ k * ((scAt f b xs k).2 + xs.getD k 0 * f) := by
      rw [Int.mul_assoc, ← Int.mul_add, hdm]
    have h2 : b ^ k * ((scAt f b xs k).2 + xs.getD k 0 * f) = b ^ k * (scAt f b xs k).2 + b ^ k * xs.getD k 0 * f := by rw [Int.mul_add, Int.mul_assoc]
    rw [Int.pow_succ, Int.add_mul]
    omega

theorem scAt_ok {f b : Int} (hb : 2 ≤ b) (hf : Fig b f) {xs : List Int} (hx : Figs b xs) : ∀ k, Figs b (scAt f b xs k).1 ∧ 0 ≤ (scAt f b xs k).2 ∧ (scAt f b xs k).2 < b
  | 0 => ⟨Figs.nil, by simp [scAt], by simp only [scAt]; omega⟩
  | k + 1 => by
    obtain ⟨h1, h2, h3⟩ := scAt_ok hb hf hx k
    have fx := getD_fig hx (by omega) k
    simp only [scAt]
    unfold Fig at fx hf
    have hm : 0 ≤ xs.getD k 0 * f := Int.mul_nonneg fx.1 hf.1
    have hm2 : xs.getD k 0 * f ≤ (b - 1) * (b - 1) := Int.mul_le_mul (by omega) (by omega) hf.1 (by omega)
    have hm3 : (b - 1) * (b - 1) = b * b - 2 * b + 1 := by grind
    refine ⟨h1.append (Figs.cons ⟨Int.emod_nonneg _ (by omega), Int.emod_lt_of_pos _ (by omega)⟩ Figs.nil), Int.ediv_nonneg (by omega) (by omega), ?_⟩
    exact Int.ediv_lt_of_lt_mul (by omega) (by omega)

theorem sc_final {f b : Int} {xs : List Int} (hx : Row b xs) (hf : Fig b f) (h0 : f ≠ 0) :
    (scAt f b xs xs.length).1 ++ (if 0 < (scAt f b xs xs.length).2 then [(scAt f b xs xs.length).2] else []) = dig b (num b xs * f) := by
  have hb := hx.lo
  have hs := scAt_num (f := f) (b := b) xs xs.length
  rw [List.take_length] at hs
  obtain ⟨h1, h2, h3⟩ := scAt_ok hb hf hx.figs xs.length
  have hl := scAt_len f b xs xs.length
  refine dig_of hb ?_ ?_ ?_
  · refine h1.append ?_
    split
    · exact Figs.cons ⟨h2, h3⟩ Figs.nil
    · exact Figs.nil
  · split
    · rename_i hp
      unfold Trim
      rw [List.getLast?_append]
      simp; omega
    · rename_i hp
      rw [List.append_nil]
      cases hm : xs.length with
      | zero => exact Trim.nil
      | succ k =>
        rw [hm] at hp h2
        have ht := trim_top hx.trim hm
        have fx := getD_fig hx.figs (by omega) k
        obtain ⟨_, p2, p3⟩ := scAt_ok hb hf hx.figs k
        simp only [scAt] at hp h2 ⊢
        unfold Trim Fig at *
        rw [List.getLast?_append]
        simp only [List.getLast?_singleton, Option.some_or, ne_eq, Option.some.injEq]
        have hz : ((scAt f b xs k).2 + xs.getD k 0 * f) / b = 0 := by omega
        have hdm := Int.mul_ediv_add_emod ((scAt f b xs k).2 + xs.getD k 0 * f) b
        rw [hz, Int.mul_zero, Int.zero_add] at hdm
        rw [hdm]
        have := Int.mul_pos (show 0 < xs.getD k 0 by omega) (show 0 < f by omega)
        omega
  · split
    · rw [num_append, hl]; simp only [num, Int.mul_zero, Int.add_zero]; exact hs
    · have : (scAt f b xs xs.length).2 = 0 := by omega
      rw [this] at hs
      rw [List.append_nil]; simpa using hs

theorem t_plain_scaled {n : Nat} {ds K} (h : Φ (n + 1) 14 ds K) : wSs (Φ n) b_plain_scaled (retPost K) (startVars ds 6) := by
  obtain ⟨hn, b, xs, f, rfl, hx, hf, hk⟩ := h
  have hlo := hx.lo
  have hhi := hx.hi
  have hlx := hx.len
  have hff := hf
  unfold Fig at hff
  walk_at "w"
  refine br_of (fun h1 => ?_) (fun h1 => ?_) <;> simp only [truth, decide_eq_true_eq, decide_eq_false_iff_not] at h1
  · subst h1
    walk_at "w"
    refine ⟨by decide, ?_⟩
    rw [Int.mul_zero, dig_zero] at hk
    exact hk
  · walk_at "w"
    refine ⟨by decide, ?_⟩
    walk_at "w"
    refine ⟨fun k σ => ∃ c ds o, ds = iz (scAt f b xs k).1 ∧ o = (scAt f b xs k).2 ∧ σ = [.val (.int b), .val (L xs), .val (.int f), .own (.list ds), .val (.int o), c], ⟨_, [], 0, rfl, rfl, rfl⟩, ?_, ?_⟩
    · rintro k σ d hd ⟨c, ds, o, hds, ho, rfl⟩
      obtain ⟨hkm, rfl⟩ := ints_get_some hd
      have hdl : ds.length = k := by rw [hds, ints_length, scAt_len]
      have hsz : ds.length + 1 ≤ sizeLid := by show _ ≤ 2 ^ 24; omega
      walk_at "w"
      refine ⟨mul_small (by omega) (by omega), ?_⟩
      walk_at "w"
      refine ⟨by omega, rfl, rfl, hsz, ?_⟩
      walk_at "w"
      refine ⟨by omega, ?_⟩
      walk_at "w"
      refine ⟨_, _, _, ?_, ?_, rfl⟩
      · rw [hds, fmod_eq (by omega), ho]; simp [scAt, iz]
      · rw [fdiv_eq (by omega), ho]; simp [scAt]
    · rintro σ ⟨c, ds, o, hds, ho, rfl⟩
      rw [ints_length] at hds ho
      have hdl : ds.length ≤ 4000 := by rw [hds, ints_length, scAt_len]; omega
      have hsz : ds.length + 1 ≤ sizeLid := by show _ ≤ 2 ^ 24; omega
      have fin := sc_final hx hf h1
      rw [← ho] at fin
      walk_at "w"
      refine br_of (fun h2 => ?_) (fun h2 => ?_) <;> simp only [truth, decide_eq_true_eq, decide_eq_false_iff_not] at h2
      · rw [if_pos h2] at fin
        walk_at "w"
        refine ⟨rfl, rfl, hsz, ?_⟩
        walk_at "w"
        have e : ds ++ [PyData.int o] = iz (dig b (num b xs * f)) := by rw [← fin, hds]; simp [iz]
        rw [e]; exact hk
      · rw [if_neg h2, List.append_nil] at fin
        walk_at "w"
        have e : ds = iz (dig b (num b xs * f)) := by rw [← fin, hds]
        rw [e]; exact hk

theorem noughts (p : Int) : (List.replicate p.toNat [PyData.int 0]).flatten = iz (List.replicate p.toNat 0) := by
  generalize p.toNat = k
  induction k with
  | zero => rfl
  | succ k ih => simp only [List.replicate_succ, List.flatten_cons, ih]; simp [iz]

theorem t_plain_shifted {n : Nat} {ds K} (h : Φ (n + 1) 15 ds K) : wSs (Φ n) b_plain_shifted (retPost K) (startVars ds 2) := by
  obtain ⟨hn, xs, p, rfl, hl, p0, p1, hk⟩ := h
  unfold shl at hk
  walk_at "w"
  refine br_of (fun h1 => ?_) (fun h1 => ?_) <;> simp only [truth, decide_eq_true_eq, decide_eq_false_iff_not, ints_length] at h1
  · have : xs = [] := List.length_eq_zero_iff.mp (by omega)
    rw [if_pos this] at hk
    walk_at "w"
    exact ⟨by decide, hk⟩
  · have : xs ≠ [] := by intro q; subst q; exact h1 rfl
    rw [if_neg this] at hk
    walk_at "w"
    refine ⟨by decide, ?_⟩
    walk_at "w"
    refine ⟨rfl, ?_, ?_, ?_, ?_⟩
    · show _ < (2 ^ 63 : Int); omega
    · show -(2 ^ 63 : Int) ≤ _; omega
    · show 1 * p.toNat ≤ 2 ^ 24; omega
    walk_at "w"
    rw [noughts, ints_append, cpF_ints]
    refine ⟨?_, hk⟩
    show _ ≤ 2 ^ 24
    rw [ints_length, ints_length]; simp; omega

end Mine
set_option Elab.async false
namespace Mine
open PySem
local macro_rules | `(tactic| walk_at "w") => `(tactic| conv => whnf)

theorem Figs.reverse {b : Int} {xs : List Int} (h : Figs b xs) : Figs b xs.reverse := fun y hy => h y (by simpa using hy)

theorem num_noughts (b : Int) (xs : List Int) : ∀ k : Nat, num b (List.replicate k 0 ++ xs) = num b xs * b ^ k
  | 0 => by simp
  | k + 1 => by
    rw [List.replicate_succ, List.cons_append, num, num_noughts b xs k, Int.pow_succ]
    grind
theorem shl_dig {b p : Int} {xs : List Int} (hx : Row b xs) : shl p xs = dig b (num b xs * b ^ p.toNat) := by
  have hb := hx.lo
  unfold shl
  split
  · rename_i h; subst h; simp [num, dig_zero]
  · rename_i h
    refine dig_of hb ?_ ?_ (num_noughts b xs _)
    · refine Figs.append ?_ hx.figs
      intro y hy
      rw [List.mem_replicate] at hy
      rw [hy.2]; exact ⟨by omega, by omega⟩
    · have t := hx.trim
      unfold Trim at t ⊢
      rw [List.getLast?_append]
      cases hl : xs.getLast? with
      | none => exact absurd (List.getLast?_eq_none_iff.mp hl) h
      | some v => rw [hl] at t; simpa using t
theorem Row.more {b : Int} {xs : List Int} (h : Row b xs) (hl : xs.length ≤ 3999) : Row b (xs ++ [1]) := by
  have := h.lo
  refine ⟨h.lo, h.hi, h.figs.append (Figs.cons ⟨by omega, by omega⟩ Figs.nil), ?_, by simp; omega⟩
  unfold Trim; simp

theorem mul_fig_lt {b f m : Int} {k : Nat} (hb : 2 ≤ b) (hf : Fig b f) (h0 : 0 ≤ m) (h1 : m < b ^ k) : 0 ≤ m * f ∧ m * f < b ^ (k + 1) := by
  refine ⟨Int.mul_nonneg h0 hf.1, ?_⟩
  have h2 : m * f ≤ m * b := Int.mul_le_mul_of_nonneg_left (Int.le_of_lt hf.2) h0
  have h3 : m * b < b ^ k * b := Int.mul_lt_mul_of_pos_right h1 (by omega)
  rw [Int.pow_succ]; omega


theorem mul_lt_pow {b x y : Int} {i j : Nat} (hb : 2 ≤ b) (x0 : 0 ≤ x) (y0 : 0 ≤ y) (x1 : x < b ^ i) (y1 : y < b ^ j) : 0 ≤ x * y ∧ x * y < b ^ (i + j) := by
  refine ⟨Int.mul_nonneg x0 y0, ?_⟩
  have hp : 0 < b ^ i := Int.pow_pos (by omega)
  have h1 : x * y ≤ b ^ i * y := Int.mul_le_mul_of_nonneg_right (by omega) y0
  have h2 : b ^ i * y < b ^ i * b ^ j := Int.mul_lt_mul_of_pos_left y1 hp
  rw [Int.pow_add]; omega

theorem pow_small {b : Int} (b0 : 2 ≤ b) (b1 : b ≤ 1000000) {k : Nat} (h : k ≤ 4000) {x : Int} (x0 : 0 ≤ x) (x1 : x < b ^ k) : x.natAbs < 2 ^ 100000 := by
  have h1 : b.toNat ^ k ≤ (2 ^ 20) ^ k := Nat.pow_le_pow_left (by omega) k
  rw [← Nat.pow_mul] at h1
  have h2 : 2 ^ (20 * k) ≤ 2 ^ 100000 := Nat.pow_le_pow_right (by decide) (by omega)
  have h3 : ((b.toNat ^ k : Nat) : Int) = b ^ k := by rw [Int.natCast_pow]; congr 1; omega
  rw [← h3] at x1
  generalize b.toNat ^ k = p at *
  generalize 2 ^ 100000 = q at *
  omega
theorem mul_rows {b x y : Int} {i j : Nat} (b0 : 2 ≤ b) (b1 : b ≤ 1000000) (hi : i ≤ 4000) (hj : j ≤ 4000) (x0 : 0 ≤ x) (y0 : 0 ≤ y) (x1 : x < b ^ i) (y1 : y < b ^ j) : mulOk x y :=
  .inr ⟨pow_small b0 b1 hi x0 x1, pow_small b0 b1 hj y0 y1⟩

end Mine
set_option Elab.async false
namespace Mine
open PySem
local macro_rules | `(tactic| walk_at "w") => `(tactic| conv => whnf)

theorem snoc_cases {P : List Int → Prop} (h0 : P []) (h1 : ∀ xs x, P xs → P (xs ++ [x])) (xs : List Int) : P xs := by
  have : ∀ ys : List Int, P ys.reverse := by
    intro ys
    induction ys with
    | nil => exact h0
    | cons y ys ih => rw [List.reverse_cons]; exact h1 _ _ ih
  have h := this xs.reverse
  rwa [List.reverse_reverse] at h
theorem trim_trim (xs : List Int) : Trim (trim xs) := by
  refine snoc_cases (P := fun xs => Trim (trim xs)) Trim.nil (fun xs x ih => ?_) xs
  rw [trim_snoc]
  split
  · exact ih
  · unfold Trim; simpa
theorem trim_num (b : Int) (xs : List Int) : num b (trim xs) = num b xs := by
  refine snoc_cases (P := fun xs => num b (trim xs) = num b xs) rfl (fun xs x ih => ?_) xs
  rw [trim_snoc]
  split
  · rename_i h; subst h; rw [ih, num_append]; simp [num]
  · rfl
theorem trim_figs {b : Int} {xs : List Int} (h : Figs b xs) : Figs b (trim xs) := by
  intro y hy
  refine h y ?_
  unfold trim at hy
  rw [List.mem_reverse] at hy
  exact List.mem_reverse.mp ((List.dropWhile_sublist _).subset hy)
theorem trim_dig {b : Int} (hb : 2 ≤ b) {xs : List Int} (h : Figs b xs) : trim xs = dig b (num b xs) := dig_of hb (trim_figs h) (trim_trim xs) (trim_num b xs)
noncomputable def difAt (xs ys : List Int) (b : Int) : Nat → List Int × Int
  | 0 => ([], 0)
  | k + 1 =>
    let p := difAt xs ys b k
    let t := xs.getD k 0 - p.2 - ys.getD k 0
    (p.1 ++ [if t < 0 then t + b else t], if t < 0 then 1 else 0)
theorem difAt_len (xs ys : List Int) (b : Int) : ∀ k, (difAt xs ys b k).1.length = k
  | 0 => rfl
  | k + 1 => by simp [difAt, difAt_len xs ys b k]
theorem difAt_num {b : Int} (xs ys : List Int) : ∀ k, num b (difAt xs ys b k).1 - b ^ k * (difAt xs ys b k).2 = num b (xs.take k) - num b (ys.take k)
  | 0 => by simp [difAt, num]
  | k + 1 => by
    have ih := difAt_num (b := b) xs ys k
    rw [num_take_succ, num_take_succ]
    simp only [difAt, num_append, difAt_len, num, Int.mul_zero, Int.add_zero]
    rw [Int.pow_succ]
    split <;> grind
theorem difAt_ok {b : Int} (hb : 2 ≤ b) {xs ys : List Int} (hx : Figs b xs) (hy : Figs b ys) : ∀ k, Figs b (difAt xs ys b k).1 ∧ 0 ≤ (difAt xs ys b k).2 ∧ (difAt xs ys b k).2 ≤ 1
  | 0 => ⟨Figs.nil, by simp [difAt], by simp [difAt]⟩
  | k + 1 => by
    obtain ⟨h1, h2, h3⟩ := difAt_ok hb hx hy k
    have fx := getD_fig hx (by omega) k
    have fy := getD_fig hy (by omega) k
    simp only [difAt]
    unfold Fig at fx fy
    refine ⟨h1.append (Figs.cons ?_ Figs.nil), by split <;> omega, by split <;> omega⟩
    unfold Fig
    split <;> omega
theorem dif_final {b : Int} {xs ys : List Int} (hx : Row b xs) (hy : Row b ys) (hle : num b ys ≤ num b xs) : trim (difAt xs ys b xs.length).1 = dig b (num b xs - num b ys) := by
  have hb := hx.lo
  have hll : ys.length ≤ xs.length := by
    by_cases h : xs.length < ys.length
    · have := num_lt_of_len hx hy h; omega
    · omega
  have hs := difAt_num (b := b) xs ys xs.length
  rw [List.take_length, List.take_of_length_le hll] at hs
  obtain ⟨h1, h2, h3⟩ := difAt_ok hb hx.figs hy.figs xs.length
  have hlt := num_lt (by omega) h1
  rw [difAt_len] at hlt
  have hz : (difAt xs ys b xs.length).2 = 0 := by
    by_cases q : (difAt xs ys b xs.length).2 = 1
    · rw [q] at hs; omega
    · omega
  rw [hz, Int.mul_zero, Int.sub_zero] at hs
  rw [trim_dig hb h1, hs]

theorem t_plain_difference {n : Nat} {ds K} (h : Φ (n + 1) 13 ds K) : wSs (Φ n) b_plain_difference (retPost K) (startVars ds 7) := by
  obtain ⟨hn, b, xs, ys, rfl, hx, hy, hle, hk⟩ := h
  have hlo := hx.lo
  have hlx := hx.len
  have hly := hy.len
  walk_at "w"
  refine ⟨by decide, ?_⟩
  walk_at "w"
  refine ⟨?_, ?_, ?_⟩
  · show _ < (2 ^ 62 : Int); rw [ints_length]; omega
  · show -(2 ^ 62 : Int) ≤ _; omega
  rw [Int.toNat_natCast, ints_length]
  refine ⟨fun k σ => ∃ c c' ds o, ds = iz (difAt xs ys b k).1 ∧ o = (difAt xs ys b k).2 ∧ σ = [.val (.int b), .val (L xs), .val (L ys), .own (.list ds), .val (.int o), c, c'], ⟨_, _, [], 0, rfl, rfl, rfl⟩, ?_, ?_⟩
  · rintro k σ d hd ⟨c, c', ds, o, hds, ho, rfl⟩
    obtain ⟨hkm, rfl⟩ := range_get hd
    have hdl : ds.length = k := by rw [hds, ints_length, difAt_len]
    have hsz : ds.length + 1 ≤ sizeLid := by show _ ≤ 2 ^ 24; omega
    walk_at "w"
    refine idx_ok (xs := xs) (k := k) (by omega) (by omega) ?_
    have after : ∀ t, t = xs.getD k 0 - o - ys.getD k 0 → ∀ σ, σ = [.val (.int b), .val (L xs), .val (L ys), .own (.list ds), .val (.int o), .val (.int k), .val (.int t)] →
        wSs (Φ n) (match b_plain_difference with | .cons _ (.cons _ (.cons (.loop _ _ (.cons _ (.cons _ r))) _)) => r | _ => .nil) (fun fl τ => match fl with | .next | .cont => ∃ c c' ds o, ds = iz (difAt xs ys b (k + 1)).1 ∧ o = (difAt xs ys b (k + 1)).2 ∧ τ = [.val (.int b), .val (L xs), .val (L ys), .own (.list ds), .val (.int o), c, c'] | .brk => False | .ret _ _ => False) σ := by
      rintro t ht σ rfl
      walk_at "w"
      refine br_of (fun h1 => ?_) (fun h1 => ?_) <;> simp only [truth, decide_eq_true_eq, decide_eq_false_iff_not] at h1
      · walk_at "w"
        refine ⟨rfl, rfl, hsz, ?_⟩
        walk_at "w"
        refine ⟨_, _, _, _, ?_, ?_, rfl⟩
        · rw [hds]; simp only [difAt, ← ho, ← ht, if_pos h1]; simp [iz]
        · simp only [difAt, ← ho, ← ht, if_pos h1]
      · walk_at "w"
        refine ⟨rfl, rfl, hsz, ?_⟩
        walk_at "w"
        refine ⟨_, _, _, _, ?_, ?_, rfl⟩
        · rw [hds]; simp only [difAt, ← ho, ← ht, if_neg h1]; simp [iz]
        · simp only [difAt, ← ho, ← ht, if_neg h1]
    walk_at "w"
    refine br_of (fun h1 => ?_) (fun h1 => ?_) <;> simp only [truth, decide_eq_true_eq, decide_eq_false_iff_not, ints_length] at h1
    · walk_at "w"
      refine idx_ok (xs := ys) (k := k) (by omega) (by omega) ?_
      exact after _ rfl _ rfl
    · exact after _ (by rw [getD_ge (xs := ys) (by omega)]; omega) _ rfl
  · rintro σ ⟨c, c', ds, o, hds, ho, rfl⟩
    rw [range_len] at hds ho
    rw [hds]
    walk_at "w"
    refine ⟨by omega, _, rfl, by rw [difAt_len]; omega, ?_⟩
    rw [dif_final hx hy hle]
    exact hk

end Mine
set_option Elab.async false
namespace Mine
open PySem
local macro_rules | `(tactic| walk_at "w") => `(tactic| conv => whnf)

theorem Row.digk {b n : Int} {k : Nat} (lo : 2 ≤ b) (hi : b ≤ 1000000) (hn : 0 ≤ n) (h : n < b ^ k) (hk : k ≤ 4000) : Row b (Mine.dig b n) :=
  Row.dig lo hi hn (Int.lt_of_lt_of_le h (pow_mono (by omega) hk))
theorem num_dig {b n : Int} (hb : 2 ≤ b) (hn : 0 ≤ n) : num b (dig b n) = n := (dig_ok hb hn).2.2
theorem sum_lt_pow {b x y : Int} {k : Nat} (hb : 2 ≤ b) (x1 : x < b ^ k) (y1 : y < b ^ k) : x + y < b ^ (k + 1) := by
  have : b ^ k * 2 ≤ b ^ k * b := Int.mul_le_mul_of_nonneg_left hb (Int.pow_nonneg (by omega))
  rw [Int.pow_succ]; omega
end Mine
set_option Elab.async false
namespace Mine
open PySem
local macro_rules | `(tactic| walk_at "w") => `(tactic| conv => whnf)

theorem cmp3_le {a b : Int} : cmp3 a b ≤ 0 ↔ a ≤ b := by unfold cmp3; split <;> (try split) <;> omega

theorem t_how_often {n : Nat} {ds K} (h : Φ (n + 1) 28 ds K) : wSs (Φ n) b_how_often (retPost K) (startVars ds 6) := by
  obtain ⟨hn, b, xs, ys, rfl, hx, hy, hne, hyl, hlt, hk⟩ := h
  have b0 := hx.lo
  have b1 := hx.hi
  have nx := row_num_nonneg hx
  have ny : 0 < num b ys := num_pos (by omega) hy.figs hy.trim hne
  have ly := row_num_lt hy (Nat.le_refl _)
  obtain ⟨q, hq⟩ : ∃ q, q = num b xs / num b ys := ⟨_, rfl⟩
  have q0 : 0 ≤ q := hq ▸ Int.ediv_nonneg nx (by omega)
  have q1 : q < b := by rw [hq]; exact Int.ediv_lt_of_lt_mul ny hlt
  have hle : ∀ m, num b ys * m ≤ num b xs ↔ m ≤ q := by intro m; rw [hq, Int.mul_comm]; exact (Int.le_ediv_iff_mul_le ny).symm
  rw [← hq] at hk
  walk_at "w"
  refine ⟨fun k σ => ∃ lo hi c, 0 ≤ lo ∧ lo ≤ q ∧ q ≤ hi ∧ hi < b ∧ (hi - lo).toNat = k ∧ σ = [.val (.int b), .val (L xs), .val (L ys), .val (.int lo), .val (.int hi), c], ⟨_, 0, b - 1, _, by omega, q0, by omega, by omega, rfl, rfl⟩, ?_⟩
  rintro k σ ⟨lo, hi, c, l0, l1, h0, h1, rfl, rfl⟩
  walk_at "w"
  refine br_of (fun h2 => ?_) (fun h2 => ?_) <;> simp only [truth, decide_eq_true_eq, decide_eq_false_iff_not] at h2
  · walk_at "w"
    refine ⟨by decide, ?_⟩
    rw [fdiv_eq (by decide)]
    obtain ⟨m, hm⟩ : ∃ m, m = (lo + hi + 1) / 2 := ⟨_, rfl⟩
    rw [← hm]
    have hf : Fig b m := ⟨by omega, by omega⟩
    obtain ⟨p0, p1⟩ := mul_fig_lt b0 hf (Int.le_of_lt ny) ly
    walk_at "w"
    refine ⟨by omega, b, ys, m, rfl, hy, hf, ?_⟩
    walk_at "w"
    refine ⟨by omega, b, _, xs, rfl, Row.digk b0 b1 p0 p1 (by omega), hx, ?_⟩
    rw [num_dig b0 p0]
    walk_at "w"
    refine br_of (fun h3 => ?_) (fun h3 => ?_) <;> simp only [truth, decide_eq_true_eq, decide_eq_false_iff_not, cmp3_le, hle] at h3
    · walk_at "w"
      exact ⟨(hi - m).toNat, by omega, m, hi, _, by omega, by omega, by omega, by omega, rfl, rfl⟩
    · walk_at "w"
      exact ⟨(m - 1 - lo).toNat, by omega, lo, m - 1, _, by omega, by omega, by omega, by omega, rfl, rfl⟩
  · have : lo = q := by omega
    subst this
    exact hk

theorem div_step {P b o D : Int} (hD : 0 < D) : (P * b + o) / D = P / D * b + (P % D * b + o) / D ∧ (P * b + o) % D = (P % D * b + o) % D := by
  have h := Int.mul_ediv_add_emod P D
  have e : P * b + o = (P % D * b + o) + D * (P / D * b) := by
    conv => lhs; rw [← h]
    grind
  constructor
  · rw [e, Int.add_mul_ediv_left _ _ (by omega)]; omega
  · rw [e, Int.add_mul_emod_self_left]

noncomputable def topAt (b : Int) (xs : List Int) (k : Nat) : Int := (xs.reverse.take k).foldl (fun t x => t * b + x) 0
theorem topAt_zero (b : Int) (xs : List Int) : topAt b xs 0 = 0 := by simp [topAt]
theorem topAt_succ {b : Int} {xs : List Int} {k : Nat} (h : k < xs.reverse.length) : topAt b xs (k + 1) = topAt b xs k * b + xs.reverse.getD k 0 := by
  unfold topAt; rw [foldl_take_succ h]
theorem topAt_all (b : Int) (xs : List Int) : topAt b xs xs.length = num b xs := by
  unfold topAt
  rw [List.take_of_length_le (by simp), num_rev_step]; simp
set_option maxHeartbeats 1000000 in
theorem t_plain_divided {n : Nat} {ds K} (h : Φ (n + 1) 29 ds K) : wSs (Φ n) b_plain_divided (retPost K) (startVars ds 7) := by
  obtain ⟨hn, b, xs, ys, rfl, hx, hy, hne, hyl, hk⟩ := h
  have b0 := hx.lo
  have b1 := hx.hi
  have hlx := hx.len
  obtain ⟨D, hD⟩ : ∃ D, D = num b ys := ⟨_, rfl⟩
  have D0 : 0 < D := by rw [hD]; exact num_pos (by omega) hy.figs hy.trim hne
  have lD : D < b ^ ys.length := hD ▸ row_num_lt hy (Nat.le_refl _)
  rw [← hD] at hk
  walk_at "w"
  refine ⟨by decide, ?_⟩
  walk_at "w"
  refine ⟨by decide, ?_⟩
  walk_at "w"
  rw [ints_reverse]
  refine ⟨fun k σ => ∃ c c' F l, Figs b F ∧ F.length = k ∧ num b F.reverse = topAt b xs k / D ∧ l = topAt b xs k % D ∧ σ = [.val (.int b), .val (L xs), .val (L ys), .own (L F), .own (L (dig b l)), c, c'], ⟨_, _, [], 0, Figs.nil, rfl, by simp [num, topAt_zero], by simp [topAt_zero], rfl⟩, ?_, ?_⟩
  · rintro k σ d hd ⟨c, c', F, l, hF, hFl, hq, hl, rfl⟩
    obtain ⟨hk', rfl⟩ := ints_get_some hd
    have hkx : k < xs.length := by simpa using hk'
    have fo := getD_fig hx.figs.reverse (by omega) k
    obtain ⟨o, ho⟩ : ∃ o, o = xs.reverse.getD k 0 := ⟨_, rfl⟩
    rw [← ho] at fo ⊢
    have fo' := fo
    unfold Fig at fo
    have hs := topAt_succ (b := b) hk'
    rw [← ho] at hs
    obtain ⟨d1, d2⟩ := div_step (P := topAt b xs k) (b := b) (o := o) D0
    rw [← hs, ← hl] at d1 d2
    have l0 : 0 ≤ l := hl ▸ Int.emod_nonneg _ (by omega)
    have l1 : l < D := hl ▸ Int.emod_lt_of_pos _ D0
    have lb : l * b ≤ (D - 1) * b := Int.mul_le_mul_of_nonneg_right (by omega) (by omega)
    have lb0 := Int.mul_nonneg l0 (show 0 ≤ b by omega)
    have lb2 : (D - 1) * b = b * D - b := by grind
    have t1 : l * b + o < b * D := by omega
    have t0 : 0 ≤ l * b + o := by omega
    have bD : b * D < b ^ (ys.length + 1) := by rw [Int.pow_succ, Int.mul_comm]; exact Int.mul_lt_mul_of_pos_right lD (by omega)
    have rl : Row b (dig b l) := Row.digk b0 b1 l0 (show l < b ^ ys.length by omega) (by omega)
    have ll := dig_len b0 l0 (show l < b ^ ys.length by omega)
    have el : num b (dig b l) = l := num_dig b0 l0
    have es : shl 1 (dig b l) = dig b (l * b) := by rw [shl_dig rl, el, show (1 : Int).toNat = 1 from rfl, Int.pow_succ, Int.pow_zero, Int.one_mul]
    have rlb : Row b (dig b (l * b)) := Row.digk b0 b1 lb0 (show l * b < b ^ (ys.length + 1) by omega) (by omega)
    have rt : Row b (dig b (l * b + o)) := Row.digk b0 b1 t0 (show l * b + o < b ^ (ys.length + 1) by omega) (by omega)
    obtain ⟨g, hg⟩ : ∃ g, g = (l * b + o) / D := ⟨_, rfl⟩
    have fg : Fig b g := hg ▸ ⟨Int.ediv_nonneg t0 (by omega), Int.ediv_lt_of_lt_mul D0 t1⟩
    have hdm := Int.mul_ediv_add_emod (l * b + o) D
    rw [← hg] at hdm
    have hm0 := Int.emod_nonneg (l * b + o) (show D ≠ 0 by omega)
    obtain ⟨p0, p1⟩ := mul_fig_lt b0 fg (Int.le_of_lt D0) lD
    have after : ∀ σ, σ = [.val (.int b), .val (L xs), .val (L ys), .own (L F), .own (L (dig b (l * b + o))), .val (.int o), c'] →
        wSs (Φ n) (match b_plain_divided with | .cons _ (.cons _ (.cons (.loop _ _ (.cons _ (.cons _ r))) _)) => r | _ => .nil) (fun fl τ => match fl with | .next | .cont => ∃ c c' F l, Figs b F ∧ F.length = k + 1 ∧ num b F.reverse = topAt b xs (k + 1) / D ∧ l = topAt b xs (k + 1) % D ∧ τ = [.val (.int b), .val (L xs), .val (L ys), .own (L F), .own (L (dig b l)), c, c'] | .brk => False | .ret _ _ => False) σ := by
      rintro σ rfl
      walk_at "w"
      refine ⟨by omega, b, _, ys, rfl, rt, hy, hne, hyl, by rw [num_dig b0 t0, ← hD]; exact t1, ?_⟩
      rw [num_dig b0 t0, ← hD, ← hg]
      walk_at "w"
      refine ⟨rfl, rfl, ?_, ?_⟩
      · show _ ≤ 2 ^ 24; rw [ints_length]; omega
      walk_at "w"
      refine ⟨by omega, b, ys, g, rfl, hy, fg, ?_⟩
      rw [← hD]
      walk_at "w"
      refine ⟨by omega, b, _, _, rfl, rt, Row.digk b0 b1 p0 p1 (by omega), by rw [num_dig b0 t0, num_dig b0 p0]; omega, ?_⟩
      rw [num_dig b0 t0, num_dig b0 p0]
      walk_at "w"
      refine ⟨_, _, F ++ [g], l * b + o - D * g, hF.append (Figs.cons fg Figs.nil), by simp [hFl], ?_, ?_, by rw [L_snoc]; rfl⟩
      · rw [List.reverse_append, List.reverse_singleton, List.singleton_append, num, hq, d1, Int.mul_comm b, hg]; omega
      · rw [d2]; omega
    walk_at "w"
    refine ⟨by omega, _, _, rfl, by omega, by omega, by omega, ?_⟩
    rw [es]
    walk_at "w"
    refine br_of (fun h1 => ?_) (fun h1 => ?_) <;> simp only [truth, decide_eq_true_eq, decide_eq_false_iff_not] at h1
    · have ro : Row b [o] := ⟨b0, b1, Figs.cons fo' Figs.nil, by simp [Trim]; omega, by simp⟩
      walk_at "w"
      refine ⟨show 1 ≤ 2 ^ 24 by decide, ?_⟩
      refine ⟨by omega, b, _, [o], rfl, rlb, ro, ?_⟩
      rw [num_dig b0 lb0, show num b [o] = o by simp [num]]
      exact after _ rfl
    · have ho0 : o = 0 := by omega
      refine after _ ?_
      rw [ho0, Int.add_zero]
      rfl
  · rintro σ ⟨c, c', F, l, hF, hFl, hq, hl, rfl⟩
    rw [ints_length, List.length_reverse] at hFl hq hl
    rw [topAt_all] at hq hl
    walk_at "w"
    rw [ints_reverse]
    refine ⟨by omega, _, rfl, by simp; omega, ?_⟩
    walk_at "w"
    refine ⟨show 2 ≤ 2 ^ 24 by decide, ?_⟩
    rw [trim_dig b0 hF.reverse, hq, hl]
    exact hk

end Mine
set_option Elab.async false
namespace Mine
open PySem
local macro_rules | `(tactic| walk_at "w") => `(tactic| conv => whnf)

theorem Row.before {b : Int} {xs zs : List Int} (h : Row b xs) (hx : xs ≠ []) (hz : Figs b zs) (hl : zs.length + xs.length ≤ 4000) : Row b (zs ++ xs) := by
  refine ⟨h.lo, h.hi, hz.append h.figs, ?_, by simpa using hl⟩
  have t := h.trim
  unfold Trim at *
  rw [List.getLast?_append]
  cases hq : xs.getLast? with
  | none => exact absurd (List.getLast?_eq_none_iff.mp hq) hx
  | some v => rw [hq] at t; simpa using t
end Mine
set_option Elab.async false
namespace Mine
open PySem
local macro_rules | `(tactic| walk_at "w") => `(tactic| conv => whnf)

end Mine
set_option Elab.async false
namespace Mine
open PySem
local macro_rules | `(tactic| walk_at "w") => `(tactic| conv => whnf)

theorem pow_other {b c x : Int} {k : Nat} (b0 : 2 ≤ b) (b1 : b ≤ 1000000) (c0 : 2 ≤ c) (x1 : x < b ^ k) : x < c ^ (20 * k) := by
  have h1 : b.toNat ^ k ≤ (c.toNat ^ 20) ^ k := Nat.pow_le_pow_left (by
    have : 2 ^ 20 ≤ c.toNat ^ 20 := Nat.pow_le_pow_left (by omega) 20
    have : (2 : Nat) ^ 20 = 1048576 := by decide
    omega) k
  rw [← Nat.pow_mul] at h1
  have h3 : ((b.toNat ^ k : Nat) : Int) = b ^ k := by rw [Int.natCast_pow]; congr 1; omega
  have h4 : ((c.toNat ^ (20 * k) : Nat) : Int) = c ^ (20 * k) := by rw [Int.natCast_pow]; congr 1; omega
  rw [← h3] at x1
  rw [← h4]
  generalize b.toNat ^ k = p at *
  generalize c.toNat ^ (20 * k) = q at *
  omega

end Mine
set_option Elab.async false
namespace Mine
open PySem
local macro_rules | `(tactic| walk_at "w") => `(tactic| conv => whnf)

end Mine
set_option Elab.async false
namespace Mine
open PySem
local macro_rules | `(tactic| walk_at "w") => `(tactic| conv => whnf)
local macro_rules | `(tactic| walk_at "same") => `(tactic| (conv => whnf); (refine ⟨by omega, _, _, rfl, by omega, ?_⟩); rw [decide_eq_true (by first | rfl | assumption)])

theorem eqD_two' (xs ys : List Int) : eqD (.list [L xs, L ys]) (.list [L xs, L ys]) = true := by
  have h1 := eqD_L xs xs
  have h2 := eqD_L ys ys
  simp only [eqD, eqDs] at h1 h2 ⊢
  rw [h1, h2]; simp
theorem okD_two' (xs ys : List Int) : okD 8 (.list [L xs, L ys]) = true := by
  have h1 := okD_ints xs 6
  have h2 := okD_ints ys 6
  simp only [okD, List.all_cons, List.all_nil, Bool.and_true] at h1 h2 ⊢
  rw [h1, h2]; rfl


theorem div_le {a c : Int} (a0 : 0 ≤ a) (c0 : 0 < c) : a / c ≤ a := Int.ediv_le_self c a0

end Mine
set_option Elab.async false
namespace Mine
open PySem
local macro_rules | `(tactic| walk_at "w") => `(tactic| conv => whnf)

theorem eu_nought (k : Nat) (x : Int) : eu k x 0 = ([], x) := by cases k <;> rfl
theorem eu_more {k : Nat} {x y : Int} (h : y ≠ 0) : eu (k + 1) x y = (x / y :: (eu k y (x % y)).1, (eu k y (x % y)).2) := by rw [eu, if_neg h]
theorem eu_fuel : ∀ (k j : Nat) (x y : Int), 0 ≤ y → y.toNat ≤ k → y.toNat ≤ j → eu k x y = eu j x y
  | k, j, x, y, h0, hk, hj => by
    by_cases hy : y = 0
    · rw [hy, eu_nought, eu_nought]
    match k, j with
    | 0, _ => omega
    | _, 0 => omega
    | k + 1, j + 1 =>
      have r0 := Int.emod_nonneg x hy
      have r1 := Int.emod_lt_of_pos x (show 0 < y by omega)
      rw [eu_more hy, eu_more hy, eu_fuel k j y (x % y) r0 (by omega) (by omega)]
theorem half_step {x y : Int} (h0 : 0 < y) (h : y < x) : 2 * (y * (x % y)) < x * y := by
  have hd := Int.mul_ediv_add_emod x y
  have r1 := Int.emod_lt_of_pos x h0
  have q1 : 1 ≤ x / y := Int.le_ediv_of_mul_le h0 (by omega)
  have q2 : y * 1 ≤ y * (x / y) := Int.mul_le_mul_of_nonneg_left q1 (by omega)
  have : 2 * (x % y) < x := by omega
  have h3 := Int.mul_lt_mul_of_pos_right this h0
  have e : 2 * (y * (x % y)) = 2 * (x % y) * y := by grind
  omega
theorem eu_len : ∀ (k m : Nat) (x y : Int), 0 ≤ y → y < x → x * y < 2 ^ m → (eu k x y).1.length ≤ m
  | 0, _, _, _, _, _, _ => Nat.zero_le _
  | k + 1, m, x, y, h0, h1, h2 => by
    by_cases hy : y = 0
    · rw [hy, eu_nought]; exact Nat.zero_le _
    rw [eu_more hy]
    have r0 := Int.emod_nonneg x hy
    have r1 := Int.emod_lt_of_pos x (show 0 < y by omega)
    have hs := half_step (x := x) (y := y) (by omega) h1
    have p0 := Int.mul_nonneg h0 r0
    match m with
    | 0 => exfalso; have := Int.mul_pos (show 0 < x by omega) (show 0 < y by omega); have : (2 : Int) ^ 0 = 1 := rfl; omega
    | m + 1 =>
      have e : (2 : Int) ^ (m + 1) = 2 * 2 ^ m := by rw [Int.pow_succ, Int.mul_comm]
      have := eu_len k m y (x % y) r0 r1 (by omega)
      simp only [List.length_cons]; omega
theorem eu_len' (k m : Nat) {x y : Int} (x0 : 0 ≤ x) (y0 : 0 ≤ y) (h : x * y < 2 ^ m) : (eu k x y).1.length ≤ m + 1 := by
  by_cases hy : y = 0
  · rw [hy, eu_nought]; exact Nat.zero_le _
  match k with
  | 0 => exact Nat.zero_le _
  | k + 1 =>
    rw [eu_more hy]
    have r0 := Int.emod_nonneg x hy
    have r1 := Int.emod_lt_of_pos x (show 0 < y by omega)
    have hd := Int.mul_ediv_add_emod x y
    have := Int.mul_nonneg y0 (Int.ediv_nonneg x0 y0)
    have h3 := Int.mul_le_mul_of_nonneg_left (show x % y ≤ x by omega) y0
    have := eu_len k m y (x % y) r0 r1 (by rw [Int.mul_comm x y] at h; omega)
    simp only [List.length_cons]; omega
noncomputable def bk (g : Int) : List Int → Int × Int
  | [] => (g, 0)
  | q :: qs => (q * (bk g qs).1 + (bk g qs).2, (bk g qs).1)
theorem eu_back : ∀ (k : Nat) (x y : Int), 0 ≤ y → y.toNat ≤ k → bk (eu k x y).2 (eu k x y).1 = (x, y)
  | k, x, y, h0, hk => by
    by_cases hy : y = 0
    · rw [hy, eu_nought]; rfl
    match k with
    | 0 => omega
    | k + 1 =>
      have r0 := Int.emod_nonneg x hy
      have r1 := Int.emod_lt_of_pos x (show 0 < y by omega)
      rw [eu_more hy]
      simp only [bk]
      rw [eu_back k y (x % y) r0 (by omega)]
      have hd := Int.mul_ediv_add_emod x y
      rw [Int.mul_comm] at hd
      simp only [hd]
theorem eu_in {M : Int} : ∀ (k : Nat) (x y : Int), 0 ≤ x → 0 ≤ y → x < M → y < M → y.toNat ≤ k →
    0 ≤ (eu k x y).2 ∧ (eu k x y).2 < M ∧ (∀ q ∈ (eu k x y).1, 0 ≤ q ∧ q < M) ∧ ∀ j, j ≤ (eu k x y).1.length → 0 ≤ (bk (eu k x y).2 ((eu k x y).1.drop j)).1 ∧ (bk (eu k x y).2 ((eu k x y).1.drop j)).1 < M ∧ 0 ≤ (bk (eu k x y).2 ((eu k x y).1.drop j)).2 ∧ (0 < j → (bk (eu k x y).2 ((eu k x y).1.drop j)).2 < (bk (eu k x y).2 ((eu k x y).1.drop j)).1)
  | k, x, y, x0, y0, x1, y1, hk => by
    by_cases hy : y = 0
    · subst hy
      rw [eu_nought]
      refine ⟨x0, x1, fun q hq => (nomatch hq), fun j hj => ?_⟩
      have : j = 0 := by simpa using hj
      subst this
      exact ⟨x0, x1, Int.le_refl _, fun h => absurd h (by omega)⟩
    match k with
    | 0 => omega
    | k + 1 =>
      have r0 := Int.emod_nonneg x hy
      have r1 := Int.emod_lt_of_pos x (show 0 < y by omega)
      have hb := eu_back (k + 1) x y y0 hk
      obtain ⟨i1, i2, i3, i4⟩ := eu_in k y (x % y) y0 r0 y1 (show x % y < M by omega) (by omega)
      have hb' := eu_back k y (x % y) r0 (by omega)
      rw [eu_more hy] at hb ⊢
      refine ⟨i1, i2, fun q hq => ?_, fun j hj => ?_⟩
      · rcases List.mem_cons.mp hq with rfl | hq
        · exact ⟨Int.ediv_nonneg x0 y0, Int.lt_of_le_of_lt (div_le x0 (by omega)) x1⟩
        · exact i3 q hq
      · match j with
        | 0 =>
          simp only [List.drop_zero] at hb ⊢
          rw [hb]
          exact ⟨x0, x1, y0, fun h => absurd h (by omega)⟩
        | 1 =>
          simp only [List.drop_one, List.tail_cons]
          rw [hb']
          exact ⟨y0, y1, r0, fun _ => r1⟩
        | j + 2 =>
          simp only [List.drop_succ_cons]
          obtain ⟨a1, a2, a3, a4⟩ := i4 (j + 1) (by simpa using hj)
          exact ⟨a1, a2, a3, fun _ => a4 (by omega)⟩

theorem pow_two {b x : Int} {k : Nat} (b1 : b ≤ 1000000) (b0 : 2 ≤ b) (h : x < b ^ k) : x < 2 ^ (20 * k) := pow_other b0 b1 (by omega) h

set_option maxHeartbeats 1000000 in
theorem t_ladder {n : Nat} {ds K} (h : Φ (n + 1) 32 ds K) : wSs (Φ n) b_ladder (retPost K) (startVars ds 7) := by
  obtain ⟨hn, b, xs, ys, rfl, hx, hy, hxl, hyl, hk⟩ := h
  have b0 := hx.lo
  have b1 := hx.hi
  have nx := row_num_nonneg hx
  have ny := row_num_nonneg hy
  have lx := row_num_lt hx hxl
  have ly := row_num_lt hy hyl
  obtain ⟨p0, p1⟩ := mul_lt_pow b0 nx ny lx ly
  have tl := eu_len' (num b ys).toNat (20 * (200 + 200)) nx ny (pow_two b1 b0 p1)
  walk_at "w"
  refine ⟨by omega, b, _, rfl, b0, b1, hx.isR, ?_⟩
  walk_at "w"
  refine ⟨by omega, b, _, rfl, b0, b1, hy.isR, ?_⟩
  walk_at "w"
  refine ⟨by decide, ?_⟩
  walk_at "w"
  rw [cpF_ints]
  walk_at "w"
  rw [cpF_ints]
  walk_at "w"
  refine ⟨fun k σ => ∃ qs x y u, 0 ≤ x ∧ 0 ≤ y ∧ x < b ^ 200 ∧ y < b ^ 200 ∧ y.toNat = k ∧ qs ++ (eu k x y).1 = (eu (num b ys).toNat (num b xs) (num b ys)).1 ∧ (eu k x y).2 = (eu (num b ys).toNat (num b xs) (num b ys)).2 ∧
    σ = [.val (.int b), .val (L xs), .val (L ys), .own (.list (rz b qs)), .own (L (dig b x)), .own (L (dig b y)), u], ⟨_, [], num b xs, num b ys, .unset, nx, ny, lx, ly, rfl, rfl, rfl, ?_⟩, ?_⟩
  · rw [dig_num b0 hx.figs hx.trim, dig_num b0 hy.figs hy.trim]; rfl
  rintro k σ ⟨qs, x, y, u, x0, y0, x1, y1, rfl, hq, hg, rfl⟩
  have dl := dig_len b0 y0 y1
  have rx : Row b (dig b x) := Row.digk b0 b1 x0 x1 (by decide)
  have ry : Row b (dig b y) := Row.digk b0 b1 y0 y1 (by decide)
  walk_at "w"
  refine br_of (fun h1 => ?_) (fun h1 => ?_) <;> simp only [truth, decide_eq_true_eq, decide_eq_false_iff_not] at h1 <;> rw [ints_length] at h1
  · have hne : dig b y ≠ [] := fun e => by rw [e] at h1; exact absurd h1 (by decide)
    have hy0 : y ≠ 0 := fun e => hne (by rw [e]; rfl)
    have r0 := Int.emod_nonneg x hy0
    have r1 := Int.emod_lt_of_pos x (show 0 < y by omega)
    obtain ⟨j, hj⟩ : ∃ j, y.toNat = j + 1 := ⟨y.toNat - 1, by omega⟩
    rw [hj, eu_more hy0] at hq hg
    rw [eu_fuel j (x % y).toNat y (x % y) r0 (by omega) (by omega)] at hq hg
    have ql : qs.length + 1 ≤ 8001 := by
      have : (qs ++ (x / y :: (eu (x % y).toNat y (x % y)).1)).length ≤ 8001 := by rw [hq]; omega
      simp at this; omega
    walk_at "w"
    refine ⟨by omega, b, _, _, rfl, rx, ry, hne, by omega, ?_⟩
    rw [num_dig b0 x0, num_dig b0 y0]
    walk_at "w"
    refine ⟨_, _, _, _, rfl, rfl, rfl, ?_, ?_⟩
    · show _ ≤ 2 ^ 24; simp only [rz, List.length_map]; omega
    walk_at "w"
    refine ⟨_, by omega, qs ++ [x / y], y, x % y, .unset, y0, r0, y1, by omega, rfl, ?_, hg, ?_⟩
    · rw [← hq]; simp
    · simp only [rz, List.map_append]; rfl
  · have hd0 : dig b y = [] := by
      cases hq : dig b y with
      | nil => rfl
      | cons a l => rw [hq] at h1; simp at h1
    have hy0 : y = 0 := by have := num_dig b0 y0; rw [hd0] at this; simpa [num] using this.symm
    subst hy0
    rw [eu_nought] at hq hg
    simp only [List.append_nil] at hq hg
    walk_at "w"
    refine ⟨show 2 ≤ 2 ^ 24 by decide, ?_⟩
    rw [← hg, ← hq] at hk
    exact hk

theorem t_law_cut {n : Nat} {ds K} (h : Φ (n + 1) 60 ds K) : wSs (Φ n) b_law_cut (retPost K) (startVars ds 2) := by
  obtain ⟨hn, b, xs, m, rfl, hx, m0, hk⟩ := h
  have hl := hx.len
  walk_at "w"
  have e : cut (iz xs).length m = m.toNat := by simp only [cut]; rw [if_neg (by omega)]
  rw [e, ints_take, cpF_ints]
  walk_at "w"
  refine ⟨fun i σ => ∃ F, Figs b F ∧ F.length ≤ xs.length ∧ F.length = i ∧ σ = [.own (L F), .val (.int m)], ⟨_, xs.take m.toNat, hx.figs.take _, by simp; omega, rfl, rfl⟩, ?_⟩
  rintro i σ ⟨F, hF, hFl, rfl, rfl⟩
  walk_at "w"
  refine ⟨by decide, ?_⟩
  walk_at "w"
  refine ⟨okD_ints _ _, rfl, ?_⟩
  walk_at "w"
  refine br_of (fun h1 => ?_) (fun h1 => ?_) <;> rw [eqD_nil] at h1 <;> simp only [truth, Bool.not_eq_true', Bool.not_eq_false', decide_eq_true_eq, decide_eq_false_iff_not] at h1
  · walk_at "w"
    refine idx_last h1 (by omega) ?_
    walk_at "w"
    refine br_of (fun h2 => ?_) (fun h2 => ?_) <;> simp only [truth, decide_eq_true_eq, decide_eq_false_iff_not] at h2
    · have hp := List.length_pos_iff.mpr h1
      walk_at "w"
      have e : cut (iz F).length (-1) = F.length - 1 := by simp [cut, ints_length]; omega
      rw [e, ints_take, cpF_ints]
      exact ⟨F.length - 1, by omega, F.take (F.length - 1), hF.take _, by simp; omega, by simp, rfl⟩
    · walk_at "w"
      exact hk F ⟨hx.lo, hx.hi, hF, trim_drop h1 h2, by omega⟩ hFl
  · subst h1
    refine br_ff rfl ?_
    exact hk [] ⟨hx.lo, hx.hi, Figs.nil, Trim.nil, by decide⟩ (by simp)

theorem t_law_is_row {n : Nat} {ds K} (h : Φ (n + 1) 61 ds K) : wSs (Φ n) b_law_is_row (retPost K) (startVars ds 3) := by
  obtain ⟨hn, b, xs, rfl, hx, hk⟩ := h
  have hl := hx.len
  walk_at "w"
  refine ⟨fun k σ => ∃ c, σ = [.val (.int b), .val (L xs), c], ⟨_, rfl⟩, ?_, ?_⟩
  · rintro k σ d hd ⟨c, rfl⟩
    obtain ⟨hk', rfl⟩ := ints_get_some hd
    have fo := getD_fig hx.figs (by have := hx.lo; omega) k
    unfold Fig at fo
    walk_at "w"
    refine ⟨by omega, _, rfl, ?_⟩
    walk_at "w"
    refine br_tt (by simpa using fo.1) ?_
    walk_at "w"
    refine br_ff (by simpa [truth] using fo.2) ?_
    exact ⟨_, rfl⟩
  · rintro σ ⟨c, rfl⟩
    walk_at "w"
    refine ⟨by decide, ?_⟩
    walk_at "w"
    refine ⟨okD_ints _ _, rfl, ?_⟩
    walk_at "w"
    refine br_of (fun h1 => ?_) (fun h1 => ?_) <;> rw [eqD_nil] at h1 <;> simp only [truth, decide_eq_true_eq, decide_eq_false_iff_not] at h1
    · rw [eqD_nil, decide_eq_true h1]; exact hk
    · walk_at "w"
      refine idx_last h1 (by omega) ?_
      walk_at "w"
      have ht := trim_top hx.trim (k := xs.length - 1) (by have := List.length_pos_iff.mpr h1; omega)
      rw [decide_eq_true ht]
      exact hk
end Mine
set_option Elab.async false
namespace Mine
open PySem
local macro_rules | `(tactic| walk_at "w") => `(tactic| conv => whnf)

theorem all_okD {n : Nat} {b : Int} (qs : List Int) : (rz b qs).all (okD (n + 1)) = true := by
  simp only [rz, List.all_map, List.all_eq_true]
  intro q _
  exact okD_ints _ _
theorem okD_rz {b : Int} (qs : List Int) : okD 8 (.list (rz b qs)) = true := by simp only [okD]; exact all_okD qs
theorem eqDs_self_rz {b : Int} : ∀ qs : List Int, eqDs (rz b qs) (rz b qs) = true
  | [] => rfl
  | q :: qs => by
    have ih := eqDs_self_rz (b := b) qs
    simp only [rz, List.map_cons, eqDs] at ih ⊢
    rw [eqD_L, ih]; simp
theorem rz_get {b : Int} {qs : List Int} {k : Nat} {d : D} (h : (rz b qs)[k]? = some d) : k < qs.length ∧ d = L (dig b (qs.getD k 0)) := by
  simp only [rz, List.getElem?_map, Option.map_eq_some_iff] at h
  obtain ⟨q, hq, rfl⟩ := h
  have hlt := (List.getElem?_eq_some_iff.mp hq).1
  exact ⟨hlt, by simp [List.getD_eq_getElem?_getD, hq]⟩

theorem bk_step {g : Int} {qs : List Int} {k : Nat} (hk : k < qs.length) : bk g (qs.drop (qs.length - (k + 1))) = (qs.reverse.getD k 0 * (bk g (qs.drop (qs.length - k))).1 + (bk g (qs.drop (qs.length - k))).2, (bk g (qs.drop (qs.length - k))).1) := by
  have hj : qs.length - (k + 1) < qs.length := by omega
  rw [List.drop_eq_getElem_cons hj, show qs.length - (k + 1) + 1 = qs.length - k by omega]
  have e : qs.reverse.getD k 0 = qs[qs.length - (k + 1)] := by
    rw [List.getD_eq_getElem?_getD, List.getElem?_reverse hk, List.getElem?_eq_getElem (by omega)]
    simp only [Option.getD_some]
    congr 1; omega
  rw [e]; rfl
theorem rz_reverse {b : Int} (qs : List Int) : (rz b qs).reverse = rz b qs.reverse := by simp [rz]
theorem rz_drop {b : Int} (qs : List Int) (k : Nat) : (rz b qs).drop k = rz b (qs.drop k) := by simp [rz]
theorem rz_length {b : Int} (qs : List Int) : (rz b qs).length = qs.length := by simp [rz]
theorem rz_flat {b : Int} (qs : List Int) : (rz b qs).all flatL = true := by
  simp only [rz, List.all_map, List.all_eq_true]
  intro q _
  exact ints_flat _
theorem getD_mem {qs : List Int} {k : Nat} (h : k < qs.length) : qs.getD k 0 ∈ qs := by
  rw [List.getD_eq_getElem?_getD, List.getElem?_eq_getElem h]; simp

set_option maxHeartbeats 4000000 in
theorem t_law_11 {n : Nat} {ds K} (h : Φ (n + 1) 99 ds K) : wSs (Φ n) b_law_11 (retPost K) (startVars ds 14) := by
  obtain ⟨hn, ns, rfl, hl, hk⟩ := h
  walk_at "w"
  refine ⟨by omega, ns, 0, rfl, by omega, by omega, hl, fun c => ?_⟩
  walk_at "w"
  refine ⟨by omega, c, rfl, fun b b0 b1 => ?_⟩
  -- the end
  have fifth : ∀ (m : D) (xs ys qs : List Int) (g : Int) (u v w : Cell) (zs : List D) (x y : D) (σ : Vars), Row b xs → Row b ys → xs.length ≤ 200 → ys.length ≤ 200 → (dig b g).length ≤ 200 →
      qs = (eu (num b ys).toNat (num b xs) (num b ys)).1 → g = (eu (num b ys).toNat (num b xs) (num b ys)).2 →
      σ = [.val (L ns), .val (.int b), .val m, .own (L xs), .own (L ys), u, .own (.list [L xs, L ys]), .own (.tuple [.list zs, L (dig b g)]), .val x, .val y, v, .own (.list (rz b qs)), .own (L (dig b g)), w] →
      wSs (Φ n) (match b_law_11 with | .cons _ (.cons _ (.cons _ (.cons _ (.cons _ (.cons _ (.cons _ (.cons _ (.cons _ (.cons _ (.cons _ (.cons _ (.cons _ (.cons _ (.cons _ (.cons _ r))))))))))))))) => r | _ => .nil) (retPost K) σ := by
    rintro m xs ys qs g u v w zs x y σ hx hy hxl hyl lg hqs hg rfl
    walk_at "w"
    refine ⟨?_, ?_⟩
    · show _ ≤ 2 ^ 24; rw [ints_length]; omega
    walk_at "w"
    refine ⟨show 2 ≤ 2 ^ 24 by decide, ?_⟩
    refine ⟨okD_two' xs ys, okD_two' xs ys, ?_⟩
    refine br_ff (by rw [eqD_two']; rfl) ?_
    walk_at "w"
    refine ⟨by decide, ?_⟩
    refine ⟨by omega, b, ys, [], rfl, hy, ⟨b0, b1, Figs.nil, Trim.nil, by decide⟩, hyl, by decide, ?_⟩
    rw [show num b [] = 0 from rfl, eu_nought]
    walk_at "w"
    refine ⟨by decide, ?_⟩
    walk_at "w"
    refine ⟨show 2 ≤ 2 ^ 24 by decide, ?_⟩
    walk_at "w"
    rw [dig_num b0 hy.figs hy.trim]
    refine ⟨?_, ?_, ?_⟩
    · simp only [okD, List.all_cons, List.all_nil, Bool.and_true]; exact okD_ints _ _
    · simp only [okD, List.all_cons, List.all_nil, Bool.and_true]; exact okD_ints _ _
    refine br_ff (by simp only [eqD, eqDs, Bool.true_and, Bool.and_true]; rw [eqDs_ints]; simp [truth, rz, eqDs]) ?_
    walk_at "w"
    refine idxd (k := 0) rfl (by decide) ?_
    walk_at "w"
    refine idxd (k := 1) rfl (by decide) ?_
    walk_at "w"
    refine ⟨by omega, b, xs, ys, rfl, hx, hy, hxl, hyl, ?_⟩
    rw [← hqs, ← hg]
    walk_at "w"
    refine ⟨show 2 ≤ 2 ^ 24 by decide, ?_⟩
    have ok : okD 8 (.tuple [.list (rz b qs), L (dig b g)]) = true := by
      simp only [okD, List.all_cons, List.all_nil, Bool.and_true, Bool.and_eq_true]
      exact ⟨all_okD qs, okD_ints _ _⟩
    refine ⟨ok, ok, ?_⟩
    have e : eqD (.tuple [.list (rz b qs), L (dig b g)]) (.tuple [.list (rz b qs), L (dig b g)]) = true := by
      simp only [eqD, eqDs, Bool.and_true]
      rw [eqDs_self_rz, eqDs_ints]; simp
    rw [e]
    exact hk
  -- from the loop over what is kept on
  have fourth : ∀ (m : D) (xs ys qs : List Int) (g : Int) (u v w : Cell) (x y : D) (σ : Vars), Row b xs → Row b ys → xs.length ≤ 200 → ys.length ≤ 200 → (dig b g).length ≤ 200 → qs.length ≤ 8001 → (∀ q ∈ qs, 0 ≤ q ∧ q < b ^ 200) →
      qs = (eu (num b ys).toNat (num b xs) (num b ys)).1 → g = (eu (num b ys).toNat (num b xs) (num b ys)).2 →
      σ = [.val (L ns), .val (.int b), .val m, .own (L xs), .own (L ys), u, .own (.list [L xs, L ys]), .own (.tuple [.list (rz b qs), L (dig b g)]), .val x, .val y, v, .own (.list (rz b qs)), .own (L (dig b g)), w] →
      wSs (Φ n) (match b_law_11 with | .cons _ (.cons _ (.cons _ (.cons _ (.cons _ (.cons _ (.cons _ (.cons _ (.cons _ (.cons _ (.cons _ (.cons _ (.cons _ (.cons _ (.cons _ r)))))))))))))) => r | _ => .nil) (retPost K) σ := by
    rintro m xs ys qs g u v w x y σ hx hy hxl hyl lg ql hq hqs hg rfl
    walk_at "w"
    rw [rz_length]
    refine ⟨?_, ?_, ?_⟩
    · show _ < (2 ^ 62 : Int); omega
    · show -(2 ^ 62 : Int) ≤ _; omega
    refine ⟨fun k σ => ∃ zs w, zs.length = qs.length ∧ zs.drop k = (rz b qs).drop k ∧ σ = [.val (L ns), .val (.int b), .val m, .own (L xs), .own (L ys), u, .own (.list [L xs, L ys]), .own (.tuple [.list zs, L (dig b g)]), .val x, .val y, v, .own (.list (rz b qs)), .own (L (dig b g)), w], ⟨_, _, rz_length qs, rfl, rfl⟩, ?_, ?_⟩
    · rintro k σ d hd ⟨zs, w, hzl, hzd, rfl⟩
      obtain ⟨hkl, rfl⟩ := range_get hd
      have hkl' : k < qs.length := by omega
      have hz : zs[k]? = some (L (dig b (qs.getD k 0))) := by
        have h1 : (zs.drop k)[0]? = ((rz b qs).drop k)[0]? := by rw [hzd]
        simp only [List.getElem?_drop, Nat.add_zero] at h1
        rw [h1]
        simp [rz, List.getElem?_map, List.getElem?_eq_getElem hkl', List.getD_eq_getElem?_getD]
      obtain ⟨q0, q1⟩ := hq _ (getD_mem hkl')
      have dl := dig_len b0 q0 q1
      refine ⟨zs, _, _, k, rfl, rfl, hz, by omega, ?_, ?_⟩
      · show _ ≤ 2 ^ 24; rw [ints_length]; omega
      have hzl' : (zs.set k (.list (iz (dig b (qs.getD k 0)) ++ [.int 1]))).length = qs.length := by simp [hzl]
      have hzd' : (zs.set k (.list (iz (dig b (qs.getD k 0)) ++ [.int 1]))).drop (k + 1) = (rz b qs).drop (k + 1) := by
        rw [List.drop_set_of_lt (by omega), ← List.drop_drop, hzd, List.drop_drop]
      generalize zs.set k (.list (iz (dig b (qs.getD k 0)) ++ [.int 1])) = zs' at *
      walk_at "w"
      refine idxd (k := 0) rfl (by decide) ?_
      walk_at "w"
      have c1 : ∀ l : Nat, cut l ((k : Int) + 1) = k + 1 := fun l => by simp only [cut]; rw [if_neg (by omega)]; omega
      rw [c1, c1, hzd', rz_drop]
      refine ⟨okD_rz _, okD_rz _, ?_⟩
      refine br_ff (by simp only [eqD]; rw [eqDs_self_rz]; rfl) ?_
      walk_at "w"
      refine idxd (k := 1) rfl (by decide) ?_
      walk_at "w"
      refine ⟨okD_ints _ _, okD_ints _ _, ?_⟩
      refine br_ff (by rw [eqD_L]; simp [truth]) ?_
      walk_at "w"
      refine ⟨zs', _, hzl', ?_, rfl⟩
      rw [hzd', rz_drop]
    · rintro σ ⟨zs, w, hzl, hzd, rfl⟩
      exact fifth m xs ys qs g u v w zs x y _ hx hy hxl hyl lg hqs hg rfl
  -- from the way back on
  have third : ∀ (m : D) (xs ys qs : List Int) (g : Int) (u : Cell) (σ : Vars), Row b xs → Row b ys → xs.length ≤ 200 → ys.length ≤ 200 →
      qs = (eu (num b ys).toNat (num b xs) (num b ys)).1 → g = (eu (num b ys).toNat (num b xs) (num b ys)).2 →
      σ = [.val (L ns), .val (.int b), .val m, .own (L xs), .own (L ys), u, .own (.list [L xs, L ys]), .own (.tuple [.list (rz b qs), L (dig b g)]), .val (.int g), .val (.int 0), .unset, .unset, .unset, .unset] →
      wSs (Φ n) (match b_law_11 with | .cons _ (.cons _ (.cons _ (.cons _ (.cons _ (.cons _ (.cons _ (.cons _ (.cons _ (.cons _ (.cons _ r)))))))))) => r | _ => .nil) (retPost K) σ := by
    rintro m xs ys qs g u σ hx hy hxl hyl hqs hg rfl
    have nx := row_num_nonneg hx
    have ny := row_num_nonneg hy
    have lx := row_num_lt hx hxl
    have ly := row_num_lt hy hyl
    obtain ⟨p0, p1⟩ := mul_lt_pow b0 nx ny lx ly
    have tl := eu_len' (num b ys).toNat (20 * (200 + 200)) nx ny (pow_two b1 b0 p1)
    have hb := eu_back (num b ys).toNat (num b xs) (num b ys) ny (Nat.le_refl _)
    obtain ⟨e1, e2, e3, e4⟩ := eu_in (num b ys).toNat (num b xs) (num b ys) nx ny lx ly (Nat.le_refl _)
    rw [← hqs, ← hg] at hb e4
    rw [← hg] at e1 e2
    rw [← hqs] at e3 tl
    have lg := dig_len b0 e1 e2
    refine ⟨rz b qs, [L (dig b g)], .int g, .int 0, fun k x y => x = .int (bk g (qs.drop (qs.length - k))).1 ∧ y = .int (bk g (qs.drop (qs.length - k))).2, rfl, rfl, rfl, ?_, ?_, ?_, ?_⟩
    · simp [bk]
    · rintro k x y ⟨rfl, rfl⟩; exact ⟨rfl, rfl⟩
    · rintro k x y z hz ⟨rfl, rfl⟩
      rw [rz_reverse] at hz
      obtain ⟨hkl, rfl⟩ := rz_get hz
      rw [List.length_reverse] at hkl
      have hm : qs.reverse.getD k 0 ∈ qs := by
        have := getD_mem (qs := qs.reverse) (k := k) (by simpa using hkl)
        simpa using this
      have hstep := bk_step (g := g) hkl
      obtain ⟨q0, q1⟩ := e3 _ hm
      obtain ⟨h0, h1, l0, l1⟩ := e4 (qs.length - k) (by omega)
      have l2 := l1 (by omega)
      generalize qs.reverse.getD k 0 = q at *
      generalize hp : bk g (qs.drop (qs.length - k)) = P at *
      obtain ⟨hi, lo⟩ := P
      simp only at h0 h1 l0 l2
      have rq : Row b (dig b q) := Row.digk b0 b1 q0 q1 (by decide)
      have lq := dig_len b0 q0 q1
      walk_at "w"
      refine ⟨by omega, b, _, rfl, rq, ?_⟩
      walk_at "w"
      refine br_ff (by simpa [truth] using l2) ?_
      walk_at "w"
      refine ⟨by omega, b, _, rfl, b0, b1, by omega, ?_⟩
      rw [num_dig b0 q0]
      walk_at "w"
      refine ⟨mul_rows (i := 200) (j := 200) b0 b1 (by decide) (by decide) q0 h0 q1 h1, ?_⟩
      walk_at "w"
      rw [hstep]
      exact ⟨rfl, rfl⟩
    · rintro x y ⟨rfl, rfl⟩
      rw [rz_length, Nat.sub_self, List.drop_zero, hb]
      walk_at "w"
      refine ⟨by omega, b, xs, rfl, b0, b1, by omega, ?_⟩
      walk_at "w"
      refine br_ff (by simp [truth]) ?_
      walk_at "w"
      refine ⟨by omega, b, ys, rfl, b0, b1, by omega, ?_⟩
      walk_at "w"
      refine br_ff (by simp [truth]) ?_
      walk_at "w"
      refine ⟨_, _, rfl, rz_flat qs, ?_⟩
      walk_at "w"
      refine idxd (k := 1) rfl (by decide) ?_
      walk_at "w"
      rw [cpF_ints]
      exact fourth m xs ys qs g u _ _ _ _ _ hx hy hxl hyl lg tl e3 hqs hg rfl
  -- with the rows
  have last : ∀ (m : D) (xs ys : List Int) (u : Cell) (σ : Vars), Row b xs → Row b ys → xs.length ≤ 200 → ys.length ≤ 200 → σ = [.val (L ns), .val (.int b), .val m, .own (L xs), .own (L ys), u, .unset, .unset, .unset, .unset, .unset, .unset, .unset, .unset] →
      wSs (Φ n) (match b_law_11 with | .cons _ (.cons _ (.cons _ (.cons _ (.cons _ (.cons _ r))))) => r | _ => .nil) (retPost K) σ := by
    rintro m xs ys u σ hx hy hxl hyl rfl
    have nx := row_num_nonneg hx
    have ny := row_num_nonneg hy
    have lx := row_num_lt hx hxl
    have ly := row_num_lt hy hyl
    obtain ⟨p0, p1⟩ := mul_lt_pow b0 nx ny lx ly
    have tl := eu_len' (num b ys).toNat (20 * (200 + 200)) nx ny (pow_two b1 b0 p1)
    have hb := eu_back (num b ys).toNat (num b xs) (num b ys) ny (Nat.le_refl _)
    obtain ⟨e1, e2, e3, e4⟩ := eu_in (num b ys).toNat (num b xs) (num b ys) nx ny lx ly (Nat.le_refl _)
    walk_at "w"
    rw [cpF_ints, cpF_ints]
    refine ⟨show 2 ≤ 2 ^ 24 by decide, ?_⟩
    walk_at "w"
    refine idxd (k := 0) rfl (by decide) ?_
    walk_at "w"
    refine idxd (k := 1) rfl (by decide) ?_
    walk_at "w"
    refine ⟨by omega, b, xs, ys, rfl, hx, hy, hxl, hyl, ?_⟩
    obtain ⟨qs, hqs⟩ : ∃ qs, qs = (eu (num b ys).toNat (num b xs) (num b ys)).1 := ⟨_, rfl⟩
    obtain ⟨g, hg⟩ : ∃ g, g = (eu (num b ys).toNat (num b xs) (num b ys)).2 := ⟨_, rfl⟩
    have hqs' := hqs
    have hg' := hg
    rw [← hqs, ← hg] at hb e4
    rw [← hg] at e1 e2
    rw [← hqs] at e3 tl
    rw [← hqs, ← hg]
    have rg : Row b (dig b g) := Row.digk b0 b1 e1 e2 (by decide)
    have lg := dig_len b0 e1 e2
    walk_at "w"
    refine idxd (k := 0) rfl (by decide) ?_
    walk_at "w"
    refine idxd (k := 1) rfl (by decide) ?_
    walk_at "w"
    refine ⟨by omega, b, _, rfl, rg, ?_⟩
    walk_at "w"
    refine ⟨show 2 ≤ 2 ^ 24 by decide, ?_⟩
    refine ⟨okD_two' xs ys, okD_two' xs ys, ?_⟩
    refine br_ff (by rw [eqD_two']; rfl) ?_
    walk_at "w"
    refine idxd (k := 1) rfl (by decide) ?_
    walk_at "w"
    refine ⟨by omega, b, _, rfl, b0, b1, by omega, ?_⟩
    rw [num_dig b0 e1]
    exact third m xs ys qs g u _ hx hy hxl hyl hqs' hg' rfl
  -- with or without a third row
  have second : ∀ (m : D) (xs ys : List Int) (σ : Vars), Row b xs → Row b ys → xs.length ≤ 90 → ys.length ≤ 90 → σ = [.val (L ns), .val (.int b), .val m, .own (L xs), .own (L ys), .unset, .unset, .unset, .unset, .unset, .unset, .unset, .unset, .unset] →
      wSs (Φ n) (match b_law_11 with | .cons _ (.cons _ (.cons _ (.cons _ (.cons _ r)))) => r | _ => .nil) (retPost K) σ := by
    rintro m xs ys σ hx hy hxl hyl rfl
    walk_at "w"
    refine ⟨by omega, ns, 5, rfl, by omega, by omega, hl, fun c₅ => ?_⟩
    walk_at "w"
    refine ⟨by decide, ?_⟩
    walk_at "w"
    refine br_of (fun h1 => ?_) (fun h1 => ?_)
    · walk_at "w"
      refine ⟨by omega, ns, 6, b, 4, rfl, hl, by omega, by omega, b0, b1, by omega, by omega, fun zs hz hzl => ?_⟩
      walk_at "w"
      refine ⟨by omega, b, zs, rfl, b0, b1, by omega, ?_⟩
      have nz := row_num_nonneg hz
      have lz := row_num_lt hz hzl
      have z0 : 0 ≤ 1 + num b zs := by omega
      have z1 : 1 + num b zs < b ^ (90 + 1) := by rw [Int.add_comm]; exact sum_lt_pow b0 lz (by have := pow_mono (b := b) (by omega) (show 1 ≤ 90 by decide); have : b ^ 1 = b := Int.pow_one b; omega)
      have nx := row_num_nonneg hx
      have ny := row_num_nonneg hy
      have lx := row_num_lt hx hxl
      have ly := row_num_lt hy hyl
      obtain ⟨a0, a1⟩ := mul_lt_pow b0 z0 nx z1 lx
      obtain ⟨d0, d1⟩ := mul_lt_pow b0 z0 ny z1 ly
      walk_at "w"
      refine ⟨by omega, b, xs, rfl, b0, b1, by omega, ?_⟩
      walk_at "w"
      refine ⟨mul_rows (i := 91) (j := 90) b0 b1 (by decide) (by decide) z0 nx z1 lx, ?_⟩
      refine ⟨by omega, b, _, rfl, b0, a0, Int.lt_of_lt_of_le a1 (pow_mono (by omega) (by decide)), ?_⟩
      walk_at "w"
      refine ⟨by omega, b, ys, rfl, b0, b1, by omega, ?_⟩
      walk_at "w"
      refine ⟨mul_rows (i := 91) (j := 90) b0 b1 (by decide) (by decide) z0 ny z1 ly, ?_⟩
      refine ⟨by omega, b, _, rfl, b0, d0, Int.lt_of_lt_of_le d1 (pow_mono (by omega) (by decide)), ?_⟩
      have ga := dig_len b0 a0 a1
      have gd := dig_len b0 d0 d1
      exact last m (dig b ((1 + num b zs) * num b xs)) (dig b ((1 + num b zs) * num b ys)) _ _ (Row.digk b0 b1 a0 a1 (by decide)) (Row.digk b0 b1 d0 d1 (by decide)) (by omega) (by omega) rfl
    · exact last m xs ys _ _ hx hy (by omega) (by omega) rfl
  have first : ∀ (m : Int) (σ : Vars), 1 ≤ m → m ≤ 90 → σ = [.val (L ns), .val (.int b), .val (.int m), .unset, .unset, .unset, .unset, .unset, .unset, .unset, .unset, .unset, .unset, .unset] →
      wSs (Φ n) (match b_law_11 with | .cons _ (.cons _ (.cons _ r)) => r | _ => .nil) (retPost K) σ := by
    rintro m σ m0 m1 rfl
    walk_at "w"
    refine ⟨by omega, ns, 1, b, m, rfl, hl, by omega, by omega, b0, b1, by omega, by omega, fun xs hx hxl => ?_⟩
    walk_at "w"
    refine ⟨by omega, ns, 3, b, m, rfl, hl, by omega, by omega, b0, b1, by omega, by omega, fun ys hy hyl => ?_⟩
    walk_at "w"
    refine br_of (fun h1 => ?_) (fun h1 => ?_)
    · walk_at "w"
      refine ⟨by omega, b, xs, 4, rfl, hx, by decide, fun xs' hx' hxl' => ?_⟩
      walk_at "w"
      refine ⟨by omega, b, ys, 4, rfl, hy, by decide, fun ys' hy' hyl' => ?_⟩
      exact second (.int m) xs' ys' _ hx' hy' (by omega) (by omega) rfl
    · exact second (.int m) xs ys _ hx hy hxl hyl rfl
  walk_at "w"
  refine br_of (fun h1 => ?_) (fun h1 => ?_)
  · exact first 16 _ (by omega) (by omega) rfl
  · exact first 12 _ (by omega) (by omega) rfl
end Mine
set_option Elab.async false
set_option maxRecDepth 100000
namespace Mine
open PySem PySem.Calls PyProof.Rows

noncomputable def Ext (h h' : Heap) : Prop := ∀ b o, h.get? b = some o → h'.get? b = some o ∨ ((∀ vs, o.data ≠ .fields vs) ∧ ∃ sl, h'.get? b = some { o with slots := sl })

theorem Ext.refl (h : Heap) : Ext h h := fun _ _ e => .inl e
theorem Ext.of_keep {h h' : Heap} (k : ∀ b o, h.get? b = some o → h'.get? b = some o) : Ext h h' := fun b o e => .inl (k b o e)
theorem Ext.trans {h₁ h₂ h₃ : Heap} (x : Ext h₁ h₂) (y : Ext h₂ h₃) : Ext h₁ h₃ := by
  intro b o e
  rcases x b o e with e | ⟨hd, sl, e⟩
  · exact y b o e
  · rcases y b _ e with e' | ⟨_, sl', e'⟩
    · exact .inr ⟨hd, sl, e'⟩
    · exact .inr ⟨hd, sl', e'⟩
theorem Ext.push (h : Heap) (o : Obj) : Ext h (h.push o) := .of_keep fun _ _ e => Heap.get?_push_of_some o e
theorem Ext.fresh {h h' : Heap} (x : Ext h h') {a : Addr} (e : h'.get? a = none) : h.get? a = none := by
  cases hq : h.get? a with
  | none => rfl
  | some o => rcases x a o hq with q | ⟨_, _, q⟩ <;> rw [q] at e <;> cases e
theorem Ext.soft {h h' : Heap} (x : Ext h h') {b : Addr} {o : Obj} (e : h.get? b = some o) : ∃ sl, h'.get? b = some { o with slots := sl } := by
  rcases x b o e with q | ⟨_, sl, q⟩
  · exact ⟨o.slots, q⟩
  · exact ⟨sl, q⟩
theorem fresh_size (h : Heap) : h.get? h.objs.size = none := by
  cases hq : h.get? h.objs.size with
  | none => rfl
  | some o => exact absurd (Heap.lt_size hq) (Nat.lt_irrefl _)

theorem Ext.ns {h h' : Heap} (x : Ext h h') {a : Addr} {m : Str → Option Value} (e : h.Ns a m) : h'.Ns a m := by
  obtain ⟨o, es, ep, ho, hd, r⟩ := e
  rcases x a o ho with q | ⟨_, sl, q⟩
  · exact ⟨o, es, ep, q, hd, r⟩
  · exact ⟨_, es, ep, q, hd, r⟩

mutual
inductive Rp (h : Heap) : Value → D → List Addr → Prop
  | none : Rp h .none .none []
  | bool (b) : Rp h (.bool b) (.bool b) []
  | int (i t) : Rp h (.int i t) (.int i) []
  | str (x : Str) (t : Tok) : x.cps.size ≤ sizeLine → Rp h (.str x t) (.str x) []
  | list {a o vs n xs as} : h.get? a = some o → o.cls = .type "list" → o.dict = none → o.data = .seq vs n → vs.size ≤ sizeLine → Rps h vs.toList xs as → Rp h (.ref a) (.list xs) (a :: as)
  | tuple {a o vs n xs as} : h.get? a = some o → o.cls = .type "tuple" → o.dict = none → o.data = .seq vs n → vs.size ≤ sizeLine → Rps h vs.toList xs as → Rp h (.ref a) (.tuple xs) as
inductive Rps (h : Heap) : List Value → List D → List Addr → Prop
  | nil : Rps h [] [] []
  | cons {v vs d ds as bs} : Rp h v d as → Rps h vs ds bs → Rps h (v :: vs) (d :: ds) (as ++ bs)
end

mutual
theorem Rp.reads {h : Heap} : ∀ {v d as}, Rp h v d as → Reads h v d as
  | _, _, _, .none => .none
  | _, _, _, .bool b => .bool b
  | _, _, _, .int i t => .int i t
  | _, _, _, .str x t _ => .str x t
  | _, _, _, .list e c _ d _ r => .list e c d (Rps.reads r)
  | _, _, _, .tuple e c _ d _ r => .tuple e c d (Rps.reads r)
theorem Rps.reads {h : Heap} : ∀ {vs ds as}, Rps h vs ds as → ReadsAll h vs ds as
  | _, _, _, .nil => .nil
  | _, _, _, .cons a b => .cons (Rp.reads a) (Rps.reads b)
end

mutual
theorem Rp.mem {h : Heap} : ∀ {v d as}, Rp h v d as → ∀ a ∈ as, ∃ o vs n, h.get? a = some o ∧ o.cls = .type "list" ∧ o.dict = none ∧ o.data = .seq vs n ∧ vs.size ≤ sizeLine
  | _, _, _, .none, _, ha => nomatch ha
  | _, _, _, .bool _, _, ha => nomatch ha
  | _, _, _, .int _ _, _, ha => nomatch ha
  | _, _, _, .str _ _ _, _, ha => nomatch ha
  | _, _, _, .list e c di d sz r, a, ha => by
    rcases List.mem_cons.mp ha with rfl | ha
    · exact ⟨_, _, _, e, c, di, d, sz⟩
    · exact Rps.mem r a ha
  | _, _, _, .tuple _ _ _ _ _ r, a, ha => Rps.mem r a ha
theorem Rps.mem {h : Heap} : ∀ {vs ds as}, Rps h vs ds as → ∀ a ∈ as, ∃ o vs n, h.get? a = some o ∧ o.cls = .type "list" ∧ o.dict = none ∧ o.data = .seq vs n ∧ vs.size ≤ sizeLine
  | _, _, _, .nil, _, ha => nomatch ha
  | _, _, _, .cons x y, a, ha => by
    rcases List.mem_append.mp ha with ha | ha
    · exact Rp.mem x a ha
    · exact Rps.mem y a ha
end

noncomputable def StayBut (S : Addr → Prop) (h h' : Heap) : Prop :=
  (∀ b o, h.get? b = some o → ¬ S b → h'.get? b = some o ∨ ((∀ vs, o.data ≠ .fields vs) ∧ ∃ sl, h'.get? b = some { o with slots := sl })) ∧ ∀ b o, S b → h.get? b = some o → o.cls ≠ .type "tuple" ∨ ∀ vs n, o.data ≠ .seq vs n

theorem Ext.stay {h h' : Heap} (x : Ext h h') : StayBut (fun _ => False) h h' := ⟨fun b o e _ => x b o e, fun _ _ f => f.elim⟩

mutual
theorem Rp.stay {S : Addr → Prop} {h h' : Heap} (k : StayBut S h h') : ∀ {v d as}, Rp h v d as → (∀ a ∈ as, ¬ S a) → Rp h' v d as
  | _, _, _, .none, _ => .none
  | _, _, _, .bool b, _ => .bool b
  | _, _, _, .int i t, _ => .int i t
  | _, _, _, .str x t z, _ => .str x t z
  | _, _, _, .list e c di d sz r, hn => by
    rcases k.1 _ _ e (hn _ (.head _)) with q | ⟨_, sl, q⟩
    · exact .list q c di d sz (Rps.stay k r fun a ha => hn a (.tail _ ha))
    · exact .list q c di d sz (Rps.stay k r fun a ha => hn a (.tail _ ha))
  | _, _, _, .tuple (a := a) e c di d sz r, hn => by
    have hs : ¬ S a := fun hs => by
      rcases k.2 _ _ hs e with q | q
      · exact q c
      · exact q _ _ d
    rcases k.1 _ _ e hs with q | ⟨_, sl, q⟩
    · exact .tuple q c di d sz (Rps.stay k r hn)
    · exact .tuple q c di d sz (Rps.stay k r hn)
theorem Rps.stay {S : Addr → Prop} {h h' : Heap} (k : StayBut S h h') : ∀ {vs ds as}, Rps h vs ds as → (∀ a ∈ as, ¬ S a) → Rps h' vs ds as
  | _, _, _, .nil, _ => .nil
  | _, _, _, .cons x y, hn => .cons (Rp.stay k x fun a ha => hn a (List.mem_append_left _ ha)) (Rps.stay k y fun a ha => hn a (List.mem_append_right _ ha))
end
theorem Rp.ext {h h' : Heap} (x : Ext h h') {v d as} (r : Rp h v d as) : Rp h' v d as := Rp.stay x.stay r fun _ _ f => f
theorem Rps.ext {h h' : Heap} (x : Ext h h') {vs ds as} (r : Rps h vs ds as) : Rps h' vs ds as := Rps.stay x.stay r fun _ _ f => f

theorem Rps.length {h : Heap} : ∀ {vs ds as}, Rps h vs ds as → vs.length = ds.length
  | _, _, _, .nil => rfl
  | _, _, _, .cons _ y => by simp [Rps.length y]

theorem Rps.get {h : Heap} : ∀ {vs ds as}, Rps h vs ds as → ∀ {i : Nat} {d : D}, ds[i]? = some d → ∃ v bs, vs[i]? = some v ∧ Rp h v d bs ∧ List.Sublist bs as
  | _, _, _, .nil, i, d, e => by simp at e
  | _, _, _, .cons x y, 0, d, e => by
    simp only [List.getElem?_cons_zero, Option.some.injEq] at e
    subst e
    exact ⟨_, _, rfl, x, List.sublist_append_left _ _⟩
  | _, _, _, .cons x y, i + 1, d, e => by
    simp only [List.getElem?_cons_succ] at e
    obtain ⟨v, bs, h1, h2, h3⟩ := Rps.get y e
    exact ⟨v, bs, by simpa using h1, h2, h3.trans (List.sublist_append_right _ _)⟩

theorem Rp.imm {h : Heap} {v d as} (r : Rp h v d as) (hi : Mine.imm d = true) : as = [] := by
  cases r <;> first | rfl | cases hi
theorem Rp.anywhere {h h' : Heap} {v d as} (r : Rp h v d as) (hi : Mine.imm d = true) : Rp h' v d [] := by
  cases r <;> first | exact .none | exact .bool _ | exact .int _ _ | exact .str _ _ (by assumption) | cases hi
theorem Rps.flat {h : Heap} : ∀ {vs ds as}, Rps h vs ds as → Mine.flat ds = true → as = []
  | _, _, _, .nil, _ => rfl
  | _, _, _, .cons x y, hf => by
    simp only [Mine.flat, List.all_cons, Bool.and_eq_true] at hf
    rw [Rp.imm x hf.1, Rps.flat y hf.2]; rfl

theorem Rps.append {h : Heap} : ∀ {vs ds as ws es bs}, Rps h vs ds as → Rps h ws es bs → Rps h (vs ++ ws) (ds ++ es) (as ++ bs)
  | _, _, _, _, _, _, .nil, y => y
  | _, _, _, _, _, _, .cons x r, y => by
    rw [List.append_assoc]
    exact .cons x (Rps.append r y)

theorem Rps.sub {h : Heap} : ∀ {vs ds as}, Rps h vs ds as → ∀ i j, ∃ bs, Rps h ((vs.drop i).take j) ((ds.drop i).take j) bs ∧ List.Sublist bs as
  | _, _, _, .nil, i, j => ⟨[], by simpa using Rps.nil, List.Sublist.refl _⟩
  | _, _, _, .cons x y, 0, 0 => ⟨[], by simpa using Rps.nil, List.nil_sublist _⟩
  | _, _, _, .cons x y, 0, j + 1 => by
    obtain ⟨bs, h1, h2⟩ := Rps.sub y 0 j
    simp only [List.drop_zero] at h1
    exact ⟨_, by simpa using Rps.cons x h1, List.Sublist.append (List.Sublist.refl _) h2⟩
  | _, _, _, .cons x y, i + 1, j => by
    obtain ⟨bs, h1, h2⟩ := Rps.sub y i j
    exact ⟨bs, by simpa using h1, h2.trans (List.sublist_append_right _ _)⟩

theorem Rps.reverse {h : Heap} : ∀ {vs ds as}, Rps h vs ds as → ∃ bs, Rps h vs.reverse ds.reverse bs ∧ ∀ a, a ∈ bs ↔ a ∈ as
  | _, _, _, .nil => ⟨[], .nil, fun _ => Iff.rfl⟩
  | _, _, _, .cons (as := as) (bs := bs) x y => by
    obtain ⟨cs, h1, h2⟩ := Rps.reverse y
    refine ⟨cs ++ (as ++ []), ?_, fun a => ?_⟩
    · simp only [List.reverse_cons]
      exact Rps.append h1 (.cons x .nil)
    · simp only [List.append_nil, List.mem_append, h2]
      exact Or.comm

theorem Rp.type {s : Shared} {d : D} {v : Value} {as : List Addr} (r : Rp s.heap v d as) : s.TypeIs v (match d with | .none => "NoneType" | .bool _ => "bool" | .int _ => "int" | .str _ => "str" | .list _ => "list" | .tuple _ => "tuple" | .dict _ => "dict") := by
  cases r with
  | none => rfl
  | bool b => rfl
  | int i t => rfl
  | str x t z => rfl
  | list e c => exact ⟨_, e, c⟩
  | tuple e c => exact ⟨_, e, c⟩
end Mine
set_option Elab.async false
set_option maxRecDepth 100000
namespace Mine
open PySem PySem.Calls PyProof.Rows

structure Gx where
  p : Program
  w : World
  base : Heap
  mg : Str → Option Value
  mb : Str → Option Value

noncomputable def bltTab : List (Str × Value) := [("len", .builtin "len"), ("isinstance", .builtin "isinstance"), ("int", .type "int"), ("bool", .type "bool"), ("list", .type "list"),
  ("tuple", .type "tuple"), ("str", .type "str"), ("max", .builtin "max"), ("min", .builtin "min"), ("range", .type "range"), ("reversed", .type "reversed"), ("enumerate", .type "enumerate"), ("ValueError", .type "ValueError")]

structure Gd (g : Gx) : Prop where
  glb : g.base.Ns mainGlobals g.mg
  bns : g.base.Ns builtinsNs g.mb
  nolimit : g.base.NoLimit
  noseer : g.base.NoSeer
  tree : g.p.given.tree = none
  blt : ∀ x v, (x, v) ∈ bltTab → g.mg x = none ∧ g.mb x = some v

noncomputable def Step (g : Gx) (s s' : Shared) : Prop := ∃ h' tk, s' = { s with heap := h', toks := tk } ∧ Ext s.heap h' ∧ g.base.StaysIn h'

theorem Step.refl {g : Gx} {s : Shared} (h : g.base.StaysIn s.heap) : Step g s s := ⟨s.heap, s.toks, rfl, .refl _, h⟩
theorem Step.trans {g : Gx} {s₁ s₂ s₃ : Shared} (x : Step g s₁ s₂) (y : Step g s₂ s₃) : Step g s₁ s₃ := by
  obtain ⟨h, tk, rfl, e, _⟩ := x
  obtain ⟨h', tk', rfl, e', b'⟩ := y
  exact ⟨h', tk', rfl, e.trans e', b'⟩
theorem Step.ext {g : Gx} {s s' : Shared} (x : Step g s s') : Ext s.heap s'.heap := by obtain ⟨h, tk, rfl, e, _⟩ := x; exact e
theorem Step.stays {g : Gx} {s s' : Shared} (x : Step g s s') : g.base.StaysIn s'.heap := by obtain ⟨h, tk, rfl, _, b⟩ := x; exact b
theorem Step.toks {g : Gx} {s s' : Shared} (x : Step g s s') (tk : Nat) : Step g s { s' with toks := tk } := by
  obtain ⟨h, tk', rfl, e, b⟩ := x
  exact ⟨h, tk, rfl, e, b⟩
theorem Step.keep {g : Gx} {s s' : Shared} (x : Step g s s') {h' : Heap} (k : ∀ b o, s'.heap.get? b = some o → h'.get? b = some o) (tk : Nat) : Step g s { s' with heap := h', toks := tk } := by
  obtain ⟨h, tk', rfl, e, b⟩ := x
  exact ⟨h', tk, rfl, e.trans (.of_keep k), fun a o q => k a o (b a o q)⟩
theorem Step.push {g : Gx} {s s' : Shared} (x : Step g s s') (o : Obj) : Step g s { s' with heap := s'.heap.push o } := x.keep (fun _ _ e => Heap.get?_push_of_some o e) s'.toks

structure Room (A : Around) (n : Nat) (fr : List Env) : Prop where
  frames : A.frames = some fr
  depth : A.depth + n + 150 < recursionLimit
  units : A.units + 8 * n + 300 < cLine
  handled : A.handled = none

noncomputable abbrev mkEnv (name : Str) (sc : Scope) (L fa : Addr) (cd : Value) (cl : List (Str × Addr)) : Env :=
  { scope := sc, locals := L, globals := mainGlobals, cells := cl, qual := name ++ ".<locals>.", func := some fa, code := cd, frame := some L, builtins := builtinsNs }

structure Fm where
  name : Str
  L : Addr
  fa : Addr
  cd : Value
  cl : List (Str × Addr)
  outer : List Env
  H : Addr → Option Obj

noncomputable abbrev Fm.env (F : Fm) (sc : Scope) : Env := mkEnv F.name sc F.L F.fa F.cd F.cl

noncomputable def VarIs (env : Env) (h : Heap) (x : Str) (v : Value) : Prop :=
  (env.kindOf x = some .local ∧ ∃ m, h.Ns env.locals m ∧ m x = some v) ∨
  (env.kindOf x = some .cell ∧ ∃ c o, env.cells.lookup x = some c ∧ h.get? c = some o ∧ o.data = .cell (some v))

noncomputable def slots (sc : Scope) : List Str := (sc.names.filter fun p => p.2 == .local || p.2 == .cell).map (·.1)

structure Rel (g : Gx) (F : Fm) (sc : Scope) (h : Heap) (ρ : Vars) (fp : Nat → List Addr) : Prop where
  stays : g.base.StaysIn h
  held : ∀ b o, F.H b = some o → h.get? b = some o ∨ ((∀ vs, o.data ≠ .fields vs) ∧ ∃ sl, h.get? b = some { o with slots := sl })
  frames : h.FunFrames g.base (F.env sc :: F.outer)
  ns : ∃ m, h.Ns F.L m
  hL : F.H F.L = none
  cells : ∀ p ∈ F.cl, F.H p.2 = none ∧ g.base.get? p.2 = none ∧ ∃ o v, h.get? p.2 = some o ∧ o.data = .cell v
  cnd : (F.cl.map (·.2)).Nodup
  ccov : ∀ x, sc.names.lookup x = some .cell → ∃ c, F.cl.lookup x = some c
  len : ρ.length = (slots sc).length
  nd : (slots sc).Nodup
  vars : ∀ i d, (ρ[i]? = some (.val d) ∨ ρ[i]? = some (.own d)) → ∃ x v, (slots sc)[i]? = some x ∧ VarIs (F.env sc) h x v ∧ Rp h v d (fp i)
  nofp : ∀ i, (∀ d, ρ[i]? ≠ some (.val d) ∧ ρ[i]? ≠ some (.own d)) → fp i = []
  own : ∀ i d, ρ[i]? = some (.own d) → (fp i).Nodup ∧ (∀ a ∈ fp i, F.H a = none ∧ g.base.get? a = none) ∧ ∀ j, j ≠ i → ∀ a ∈ fp i, a ∉ fp j

theorem VarIs.ext {env : Env} {h h' : Heap} (x : Ext h h') {y : Str} {v : Value} (e : VarIs env h y v) : VarIs env h' y v := by
  rcases e with ⟨hk, m, hn, hv⟩ | ⟨hk, c, o, h1, h2, h3⟩
  · exact .inl ⟨hk, m, x.ns hn, hv⟩
  · obtain ⟨sl, q⟩ := x.soft h2; exact .inr ⟨hk, c, _, h1, q, h3⟩

theorem FunFrames.ext {h h' base : Heap} (x : Ext h h') {l : List Env} (hl : h.FunFrames base l) : h'.FunFrames base l :=
  hl.of_keeps fun b o ho _ => by
    rcases x b o ho with q | ⟨_, sl, q⟩
    · exact ⟨o, q, rfl⟩
    · exact ⟨_, q, rfl⟩

theorem Rel.ext {g : Gx} {F : Fm} {sc : Scope} {h h' : Heap} {ρ : Vars} {fp : Nat → List Addr} (R : Rel g F sc h ρ fp) (x : Ext h h') (hs : g.base.StaysIn h') : Rel g F sc h' ρ fp where
  stays := hs
  held := fun b o e => by
    rcases R.held b o e with q | ⟨hd, sl, q⟩
    · exact x b o q
    · rcases x b _ q with q' | ⟨_, sl', q'⟩
      · exact .inr ⟨hd, sl, q'⟩
      · exact .inr ⟨hd, sl', q'⟩
  frames := FunFrames.ext x R.frames
  ns := let ⟨m, e⟩ := R.ns; ⟨m, x.ns e⟩
  hL := R.hL
  cells := fun p hp => let ⟨a, b, o, v, e, d⟩ := R.cells p hp; let ⟨sl, q⟩ := x.soft e; ⟨a, b, _, v, q, d⟩
  cnd := R.cnd
  ccov := R.ccov
  len := R.len
  nd := R.nd
  vars := fun i d e => let ⟨y, v, a, b, c⟩ := R.vars i d e; ⟨y, v, a, b.ext x, c.ext x⟩
  nofp := R.nofp
  own := R.own

noncomputable def FgOk (ρ : Vars) (fp : Nat → List Addr) (h : Heap) (f : Fg) (as : List Addr) : Prop :=
  (∀ j d, ρ[j]? = some (.own d) → j ∉ f.u → ∀ a ∈ as, a ∉ fp j) ∧
  (f.sh = false → (∀ a ∈ as, h.get? a = none ∨ ∃ j ∈ f.u, a ∈ fp j) ∧ (f.u.Nodup → as.Nodup) ∧ ∀ j ∈ f.u, ∃ d, ρ[j]? = some (.own d))

theorem FgOk.nil {ρ : Vars} {fp : Nat → List Addr} {h : Heap} {f : Fg} (hu : f.sh = false → f.u = []) : FgOk ρ fp h f [] :=
  ⟨fun _ _ _ _ _ ha => (nomatch ha), fun hs => ⟨fun _ ha => (nomatch ha), fun _ => List.nodup_nil, fun j hj => by rw [hu hs] at hj; cases hj⟩⟩
theorem FgOk.ff {ρ : Vars} {fp : Nat → List Addr} {h : Heap} : FgOk ρ fp h ff [] := .nil fun _ => rfl

theorem Rel.fp_there {g : Gx} {F : Fm} {sc : Scope} {h : Heap} {ρ : Vars} {fp : Nat → List Addr} (R : Rel g F sc h ρ fp) (i : Nat) (a : Addr) (ha : a ∈ fp i) :
    ∃ o vs n, h.get? a = some o ∧ o.cls = .type "list" ∧ o.dict = none ∧ o.data = .seq vs n ∧ vs.size ≤ sizeLine := by
  by_cases hc : ∃ d, ρ[i]? = some (.val d) ∨ ρ[i]? = some (.own d)
  · obtain ⟨d, hd⟩ := hc
    obtain ⟨_, _, _, _, r⟩ := R.vars i d hd
    exact r.mem a ha
  · rw [R.nofp i fun d => ⟨fun q => hc ⟨d, .inl q⟩, fun q => hc ⟨d, .inr q⟩⟩] at ha
    cases ha

theorem FgOk.new {g : Gx} {F : Fm} {sc : Scope} {h : Heap} {ρ : Vars} {fp : Nat → List Addr} (R : Rel g F sc h ρ fp) {f : Fg} {as : List Addr} (hu : f.sh = false → f.u = [])
    (hn : ∀ a ∈ as, h.get? a = none) (hd : as.Nodup) : FgOk ρ fp h f as :=
  ⟨fun j d _ _ a ha q => (by obtain ⟨o, _, _, e, _⟩ := R.fp_there j a q; rw [hn a ha] at e; cases e),
   fun hs => ⟨fun a ha => .inl (hn a ha), fun _ => hd, fun j hj => by rw [hu hs] at hj; cases hj⟩⟩
theorem FgOk.back {ρ : Vars} {fp : Nat → List Addr} {h h' : Heap} (x : Ext h h') {f : Fg} {as : List Addr} (o : FgOk ρ fp h' f as) : FgOk ρ fp h f as :=
  ⟨o.1, fun hs => ⟨fun a ha => ((o.2 hs).1 a ha).imp x.fresh id, (o.2 hs).2⟩⟩
theorem FgOk.sub {ρ : Vars} {fp : Nat → List Addr} {h : Heap} {f : Fg} {as bs : List Addr} (o : FgOk ρ fp h f as) (k : List.Sublist bs as) : FgOk ρ fp h f bs :=
  ⟨fun j d hj hn a ha => o.1 j d hj hn a (k.subset ha), fun hs => ⟨fun a ha => (o.2 hs).1 a (k.subset ha), fun hn => ((o.2 hs).2.1 hn).sublist k, (o.2 hs).2.2⟩⟩

structure SpecF (g : Gx) (n : Nat) (name : Str) (ds : List D) (K : D → Bool → Prop) (fa : Addr) : Prop where
  named : g.mg name = some (.ref fa)
  fn : ∃ o fd, g.base.get? fa = some o ∧ o.data = .func fd
  run : ∀ (A : Around) (s : Shared) (vs : List Value) (as : List Addr) (outer : List Env) (Q E : Value → Shared → Prop), Room A n outer → g.base.StaysIn s.heap → s.heap.FunFrames g.base outer → Rps s.heap vs ds as →
    (∀ v s' d fr bs, K d fr → Step g s s' → Rp s'.heap v d bs → (fr = true → bs.Nodup ∧ ∀ a ∈ bs, s.heap.get? a = none) → Q v s') →
    wpAny (model g.p g.w) A (call (.ref fa) vs) Q E s

noncomputable def strip (h : Heap) : List Addr → Heap
  | [] => h
  | a :: l => (strip h l).update a fun o => { o with data := .freed }
structure IsExc (g : Gx) (x : Str) (C : Addr) : Prop where
  own : OwnClsQ x C [.type "ValueError", .type "Exception", .type "BaseException", .type "object"] "ValueError.__new__" g.mg g.base
  row : ∃ R o cd, OwnClsQ ("RowError" : Str) R [.type "ValueError", .type "Exception", .type "BaseException", .type "object"] "ValueError.__new__" g.mg g.base ∧ g.base.get? C = some o ∧ o.data = .cls cd ∧ cd.mro.contains (.ref R) = true

noncomputable def gone (g : Gx) (l : List Env) (h : Heap) : Heap := strip h (l.filterMap (·.frame) ++ (List.range h.objs.size).filter fun a => (g.base.get? a).isNone && (match h.get? a with | some o => (match o.data with | .fields _ => false | _ => true) | none => false))

noncomputable def Later (s s' : Shared) : Prop := ∃ h' tk, s' = { s with heap := h', toks := tk }
structure SpecX (g : Gx) (n : Nat) (name : Str) (ds : List D) (x : Str) (fa : Addr) : Prop where
  named : g.mg name = some (.ref fa)
  run : ∀ (A : Around) (s : Shared) (vs : List Value) (as : List Addr) (outer : List Env) (C : Addr) (Q E : Value → Shared → Prop), Room A n outer → g.base.StaysIn s.heap → s.heap.FunFrames g.base outer → Rps s.heap vs ds as → IsExc g x C →
    (∀ e a0 s', Later s s' → Heap.FlyingW (gone g outer s.heap) outer e (.ref C) a0 s'.heap → s.heap.UpToSlots s'.heap → E (.ref e) s') →
    wpAny (model g.p g.w) A (call (.ref fa) vs) Q E s

noncomputable def Spec (fname : Nat → Str) (g : Gx) (n f : Nat) (ds : List D) (K : D → Bool → Prop) : Prop :=
  if 1000 ≤ f then ∃ i t, g.mg (fname f) = some (.int i t) ∧ ds = [] ∧ K (.int i) true
  else if 500 ≤ f then ∃ (c : Nat) (C fa : Addr), K (.int (c : Int)) true ∧ IsExc g (fname c) C ∧ SpecX g n (fname (f - 500)) ds (fname c) fa
  else ∃ fa, SpecF g n (fname f) ds K fa

structure At (fname : Nat → Str) (g : Gx) (Φ : Calls) (n : Nat) (F : Fm) (sc : Scope) (A : Around) (s : Shared) (ρ : Vars) (fp : Nat → List Addr) : Prop where
  gd : Gd g
  fns : ∀ f ds K, Φ f ds K → Spec fname g n f ds K
  named : ∀ f, f < 1000 → fname f ≠ Str.empty → ∃ fa o fd, g.mg (fname f) = some (.ref fa) ∧ g.base.get? fa = some o ∧ o.data = .func fd
  kind : sc.kind = .function
  plain : sc.isGenerator = false ∧ sc.isCoroutine = false
  room : Room A n (F.env sc :: F.outer)
  rel : Rel g F sc s.heap ρ fp

section
variable {fname : Nat → Str} {g : Gx} {Φ : Calls} {n : Nat} {F : Fm} {sc : Scope} {A : Around} {s s' : Shared} {ρ : Vars} {fp : Nat → List Addr}
theorem At.step (T : At fname g Φ n F sc A s ρ fp) (x : Step g s s') : At fname g Φ n F sc A s' ρ fp := ⟨T.gd, T.fns, T.named, T.kind, T.plain, T.room, T.rel.ext x.ext x.stays⟩
theorem At.here (T : At fname g Φ n F sc A s ρ fp) : Step g s s := .refl T.rel.stays
end

noncomputable def SemE (fname : Nat → Str) (sc : Scope) (e : Expr) (x : X) : Prop :=
  ∀ (g : Gx) (Φ : Calls) (n : Nat) (F : Fm) (A : Around) (s : Shared) (ρ : Vars) (fp : Nat → List Addr) (K : D → Fg → Prop) (Q E : Value → Shared → Prop),
    At fname g Φ n F sc A s ρ fp → wE Φ ρ x K →
    (∀ v s' d f as, K d f → Step g s s' → Rp s'.heap v d as → FgOk ρ fp s.heap f as → Q v s') →
    wpAny (model g.p g.w) A (eval e (F.env sc)) Q E s

noncomputable def SemT (fname : Nat → Str) (sc : Scope) (e : Expr) (x : X) : Prop :=
  ∀ (g : Gx) (Φ : Calls) (n : Nat) (F : Fm) (A : Around) (s : Shared) (ρ : Vars) (fp : Nat → List Addr) (K : Bool → Prop) (Q : Bool → Shared → Prop) (E : Value → Shared → Prop),
    At fname g Φ n F sc A s ρ fp → wE Φ ρ x (fun d _ => K (truth d)) →
    (∀ b s', K b → Step g s s' → Q b s') →
    wpAny (model g.p g.w) A (isTrue e (F.env sc) (eval e (F.env sc))) Q E s

noncomputable def SemL (fname : Nat → Str) (sc : Scope) (es : List Expr) (xs : Xs) : Prop :=
  ∀ (g : Gx) (Φ : Calls) (n : Nat) (F : Fm) (A : Around) (s : Shared) (ρ : Vars) (fp : Nat → List Addr) (pos : Pos) (K : List D → Fg → Prop) (Q : List Value → Shared → Prop) (E : Value → Shared → Prop),
    At fname g Φ n F sc A s ρ fp → wL Φ ρ xs K →
    (∀ vs s' ds f as, K ds f → Step g s s' → Rps s'.heap vs ds as → FgOk ρ fp s.heap f as → Q vs s') →
    wpAny (model g.p g.w) A (spliced (backTo pos (starEach es (F.env sc)))) Q E s
end Mine
set_option Elab.async false
set_option maxRecDepth 100000
namespace Mine
open PySem PySem.Calls PyProof.Rows

section
variable {fname : Nat → Str} {g : Gx} {Φ : Calls} {n : Nat} {F : Fm} {sc : Scope} {A : Around} {s s' : Shared} {ρ : Vars} {fp : Nat → List Addr}

theorem sem_var {x : Str} {pos : Pos} {i : Nat} (hi : (slots sc)[i]? = some x) (hd : (x == ("__debug__" : Str)) = false) : SemE fname sc (.Name x pos) (.var i) := by
  intro g Φ n F A s ρ fp K Q E T h hQ
  conv at h => whnf
  have go : ∀ d f, (ρ[i]? = some (.val d) ∨ ρ[i]? = some (.own d)) → K d f → FgOk ρ fp s.heap f (fp i) → wpAny (model g.p g.w) A (eval (.Name x pos) (F.env sc)) Q E s := by
    intro d f hc hk hf
    obtain ⟨y, v, hy, hv, r⟩ := T.rel.vars i d hc
    rw [hi] at hy
    cases hy
    have q := hQ v s d f (fp i) hk T.here r hf
    rcases hv with ⟨hl, m, hn, hm⟩ | ⟨hl, c, o, h1, h2, h3⟩
    · exact wpAny_Name (wpAny_loadName_local T.kind hl hn hm q) hd
    · exact wpAny_Name (wpAny_loadName_cell T.kind hl h1 ⟨o, h2, h3⟩ q) hd
  split at h
  · rename_i d hc
    refine go d _ (.inl hc) h ⟨fun j e hj _ a ha q => ?_, fun hs => ?_⟩
    · by_cases hij : j = i
      · subst hij; rw [hc] at hj; cases hj
      · exact (T.rel.own j e hj).2.2 i (Ne.symm hij) a q ha
    · have hi : imm d = true := by simpa using hs
      obtain ⟨_, _, _, _, r⟩ := T.rel.vars i d (.inl hc)
      rw [r.imm hi]
      exact ⟨fun _ ha => (nomatch ha), fun _ => List.nodup_nil, fun _ hj => (nomatch hj)⟩
  · rename_i d hc
    refine go d _ (.inr hc) h ⟨fun j e hj hn a ha q => ?_, fun _ => ⟨fun a ha => ?_, fun _ => (T.rel.own i d hc).1, fun j hj => ?_⟩⟩
    · by_cases hij : j = i
      · subst hij
        by_cases hm : imm d = true
        · obtain ⟨_, _, _, _, r⟩ := T.rel.vars j d (.inr hc)
          rw [r.imm hm] at ha; cases ha
        · simp [hm] at hn
      · exact (T.rel.own j e hj).2.2 i (Ne.symm hij) a q ha
    · by_cases hm : imm d = true
      · obtain ⟨_, _, _, _, r⟩ := T.rel.vars i d (.inr hc)
        rw [r.imm hm] at ha; cases ha
      · exact .inr ⟨i, by simp [hm], ha⟩
    · by_cases hm : imm d = true
      · simp [hm] at hj
      · simp [hm] at hj; subst hj; exact ⟨d, hc⟩
  · exact h.elim

theorem sem_int {i : Int} {k : Nat} {pos : Pos} : SemE fname sc (.Constant (.int i) k pos) (.int i) := by
  intro g Φ n F A s ρ fp K Q E T h hQ
  conv at h => whnf
  exact wpAny_Constant_int (hQ _ _ _ _ [] h (T.here.toks _) (.int _ _) .ff)
theorem sem_str {x : Str} {k : Nat} {pos : Pos} (hz : x.cps.size ≤ sizeLine) : SemE fname sc (.Constant (.str x) k pos) (.str x) := by
  intro g Φ n F A s ρ fp K Q E T h hQ
  conv at h => whnf
  exact wpAny_Constant_str (hQ _ _ _ _ [] h (T.here.toks _) (.str _ _ hz) .ff)
theorem sem_bool {b : Bool} {k : Nat} {pos : Pos} : SemE fname sc (.Constant (.bool b) k pos) (.bool b) := by
  intro g Φ n F A s ρ fp K Q E T h hQ
  conv at h => whnf
  exact wpAny_Constant_bool (hQ _ _ _ _ [] h T.here (.bool _) .ff)
theorem sem_none {k : Nat} {pos : Pos} : SemE fname sc (.Constant .none k pos) .none := by
  intro g Φ n F A s ρ fp K Q E T h hQ
  conv at h => whnf
  exact wpAny_Constant_none (hQ _ _ _ _ [] h T.here .none .ff)

theorem sem_glob {x : Str} {pos : Pos} {i : Nat} (hx : sc.names.lookup x = some .globalImplicit) (hn : fname (1000 + i) = x) (hd : (x == ("__debug__" : Str)) = false) : SemE fname sc (.Name x pos) (.glob i) := by
  intro g Φ n F A s ρ fp K Q E T h hQ
  conv at h => whnf
  have q := T.fns _ _ _ h
  unfold Spec at q
  rw [if_pos (by omega)] at q
  obtain ⟨j, t, hm, _, _, hk⟩ := q
  rw [hn] at hm
  exact Name_function_global T.kind hx (loadGlobal_global (T.gd.glb.keeps T.rel.stays) hm (hQ _ _ _ _ [] hk T.here (.int _ _) .ff)) hd

theorem blt_name {x : Str} {v : Value} {pos : Pos} {Q E : Value → Shared → Prop} (T : At fname g Φ n F sc A s ρ fp) (hx : sc.names.lookup x = some .globalImplicit) (hb : (x, v) ∈ bltTab) (hd : (x == ("__debug__" : Str)) = false) (h : Q v s) :
    wpAny (model g.p g.w) A (eval (.Name x pos) (F.env sc)) Q E s :=
  Name_function_global T.kind hx (loadGlobal_builtin (T.gd.glb.keeps T.rel.stays) (T.gd.blt x v hb).1 (T.gd.bns.keeps T.rel.stays) (T.gd.blt x v hb).2 h) hd

noncomputable def opOf : Op → Operator
  | .add => .Add
  | .sub => .Sub
  | .mul => .Mult
  | .fdiv => .FloorDiv
  | .mod => .Mod
  | .pow => .Pow

theorem intBits_le {a : Int} {k : Nat} (h : a.natAbs < 2 ^ k) : Builtin.Int.intBits a ≤ k := by
  unfold Builtin.Int.intBits
  split
  · omega
  · rename_i hz
    have h0 : a.natAbs ≠ 0 := fun q => hz (by simp [Int.natAbs_eq_zero.mp q])
    have := (Nat.log2_lt h0).mpr h
    omega
theorem mulOk_fits {a b : Int} (h : mulOk a b) : IntMulOk a b := by
  rcases h with (h | h) | ⟨h, h'⟩
  · exact .of_left (intBits_le h)
  · exact .of_right (intBits_le h)
  · exact .of_bits (Nat.le_trans (intBits_le h) (by decide)) (Nat.le_trans (intBits_le h') (by decide))

theorem At.noLimit (T : At fname g Φ n F sc A s ρ fp) : s.heap.NoLimit := T.gd.nolimit.keeps T.rel.stays

theorem At.pylong (T : At fname g Φ n F sc A s ρ fp) : PylongRoom (model g.p g.w) A s :=
  PylongRoom.of T.noLimit (by have := T.room.depth; unfold Builtin.pylongFrames; omega)
    (SeerAt.of (T.gd.noseer.keeps T.rel.stays) T.gd.tree T.room.frames T.plain.1 T.plain.2 rfl rfl)

theorem Rps.rep {h : Heap} {vs : List Value} {ds : List D} (r : Rps h vs ds []) : ∀ k : Nat, Rps h (List.replicate k vs).flatten (List.replicate k ds).flatten []
  | 0 => .nil
  | k + 1 => by
    simp only [List.replicate_succ, List.flatten_cons]
    exact Rps.append r (Rps.rep r k)

theorem new_list {vs : List Value} {ds : List D} {as : List Addr} {h : Heap} (r : Rps h vs ds as) (hz : vs.length ≤ sizeLine) (e : Nat) :
    Rp (h.push { cls := .type "list", data := .seq vs.toArray e }) (.ref h.objs.size) (.list ds) (h.objs.size :: as) :=
  .list (Heap.get?_push_size _ rfl) rfl rfl rfl (by simpa using hz) (by simpa using Rps.ext (Ext.push _ _) r)

theorem FgOk.cons {h h' : Heap} {f : Fg} {as : List Addr} (R : Rel g F sc h ρ fp) (x : Ext h h') (hf : FgOk ρ fp h f as) {a : Addr} (ha : h'.get? a = none) (hm : ∀ b ∈ as, h'.get? b ≠ none) : FgOk ρ fp h f (a :: as) := by
  have ha' := x.fresh ha
  have hnf : ∀ j, a ∉ fp j := fun j q => by obtain ⟨o, _, _, e, _⟩ := R.fp_there j a q; rw [ha'] at e; cases e
  refine ⟨fun j d hj hn b hb => ?_, fun hs => ⟨fun b hb => ?_, fun hn => ?_, (hf.2 hs).2.2⟩⟩
  · rcases List.mem_cons.mp hb with rfl | hb
    · exact hnf j
    · exact hf.1 j d hj hn b hb
  · rcases List.mem_cons.mp hb with rfl | hb
    · exact .inl ha'
    · exact (hf.2 hs).1 b hb
  · exact List.nodup_cons.mpr ⟨fun q => hm a q ha, (hf.2 hs).2.1 hn⟩

theorem FgOk.append {h h' : Heap} {f k : Fg} {as bs : List Addr} (R : Rel g F sc h ρ fp) (x : Ext h h') (hf : FgOk ρ fp h f as) (hk : FgOk ρ fp h' k bs) (hm : ∀ a ∈ as, h'.get? a ≠ none) : FgOk ρ fp h ⟨f.sh || k.sh, f.u ++ k.u⟩ (as ++ bs) := by
  have hk' := hk.back x
  refine ⟨fun j d hj hn b hb => ?_, fun hs => ?_⟩
  · rcases List.mem_append.mp hb with hb | hb
    · exact hf.1 j d hj (fun q => hn (List.mem_append_left _ q)) b hb
    · exact hk.1 j d hj (fun q => hn (List.mem_append_right _ q)) b hb
  · have hs' : f.sh = false ∧ k.sh = false := by simpa using hs
    obtain ⟨f1, f2, f3⟩ := hf.2 hs'.1
    obtain ⟨k1, k2, k3⟩ := hk.2 hs'.2
    refine ⟨fun b hb => ?_, fun hn => ?_, fun j hj => ?_⟩
    · rcases List.mem_append.mp hb with hb | hb
      · exact (f1 b hb).imp id fun ⟨j, hj, q⟩ => ⟨j, List.mem_append_left _ hj, q⟩
      · exact (((hk'.2 hs'.2).1) b hb).imp id fun ⟨j, hj, q⟩ => ⟨j, List.mem_append_right _ hj, q⟩
    · obtain ⟨n1, n2, n3⟩ := List.nodup_append.mp hn
      refine List.nodup_append.mpr ⟨f2 n1, k2 n2, fun a ha b hb hab => ?_⟩
      subst hab
      rcases k1 a hb with q | ⟨j, hj, q⟩
      · exact hm a ha q
      · obtain ⟨o, _, _, e, _⟩ := R.fp_there j a q
        rcases f1 a ha with q' | ⟨i, hi, q'⟩
        · rw [q'] at e; cases e
        · obtain ⟨d, hd⟩ := f3 i hi
          exact (R.own i d hd).2.2 j (fun ij => n3 i hi j hj ij.symm) a q' q
    · rcases List.mem_append.mp hj with hj | hj
      · exact f3 j hj
      · exact k3 j hj

theorem Rps.there {h : Heap} {vs ds as} (r : Rps h vs ds as) : ∀ a ∈ as, h.get? a ≠ Option.none := fun a ha q => by
  obtain ⟨o, _, _, e, _⟩ := r.mem a ha
  rw [q] at e; cases e
theorem Rp.there {h : Heap} {v d as} (r : Rp h v d as) : ∀ a ∈ as, h.get? a ≠ Option.none := fun a ha q => by
  obtain ⟨o, _, _, e, _⟩ := r.mem a ha
  rw [q] at e; cases e

theorem cp_ok {h h' : Heap} {f : Fg} {as : List Addr} {vs : List Value} {ds : List D} (R : Rel g F sc h ρ fp) (x : Ext h h') (r : Rps h' vs ds as) (hf : FgOk ρ fp h ⟨true, f.u⟩ as) {a : Addr} (ha : h'.get? a = none) : FgOk ρ fp h (cpF ds f) (a :: as) := by
  unfold cpF
  split
  · rename_i hfl
    rw [r.flat hfl]
    exact FgOk.cons R x (.nil fun _ => rfl) ha (fun _ hb => (nomatch hb))
  · exact FgOk.cons R x hf ha r.there

theorem FgOk.shared {h : Heap} {f : Fg} {as : List Addr} (o : FgOk ρ fp h f as) : FgOk ρ fp h ⟨true, f.u⟩ as := ⟨o.1, fun q => (nomatch q)⟩
theorem bin_rule {op : Op} {v w : Value} {x y : D} {f k : Fg} {as bs : List Addr} {s₂ : Shared} {K : D → Fg → Prop} {Q E : Value → Shared → Prop} (T : At fname g Φ n F sc A s ρ fp) (st : Step g s s₂)
    (h : binK op x f y k K) (r1 : Rp s₂.heap v x as) (r2 : Rp s₂.heap w y bs) (fo1 : FgOk ρ fp s.heap f as) (fo2 : FgOk ρ fp s.heap k bs)
    (hQ : ∀ v s' d f as, K d f → Step g s s' → Rp s'.heap v d as → FgOk ρ fp s.heap f as → Q v s') : wpAny (model g.p g.w) A (binaryOp (opOf op) v w) Q E s₂ := by
  unfold binK at h
  split at h
  · cases r1; cases r2; exact P.add_int (hQ _ _ _ _ [] h (st.toks _) (.int _ _) .ff)
  · cases r1; cases r2; exact P.sub_int (hQ _ _ _ _ [] h (st.toks _) (.int _ _) .ff)
  · cases r1; cases r2; exact P.mul_int (hQ _ _ _ _ [] h.2 (st.toks _) (.int _ _) .ff) (mulOk_fits h.1)
  · cases r1; cases r2
    exact floordiv_int h.1 (hQ _ _ _ _ [] h.2 (st.toks _) (.int _ _) .ff) (.inr ((T.step st).pylong))
  · cases r1; cases r2; exact mod_int' h.1 (hQ _ _ _ _ [] h.2 (st.toks _) (.int _ _) .ff)
  · cases r1; cases r2
    refine pow_int h.1 ?_ (hQ _ _ _ _ [] h.2.2.2 (st.toks _) (.int _ _) .ff)
    rename_i a b t u
    have h2 := intBits_le h.2.2.1
    have h3 := h.2.1
    have h4 := h.1
    have h5 : (Builtin.Int.intBits a : Int) * b ≤ 64 * 1000 := Int.mul_le_mul (by omega) (by omega) (by omega) (by omega)
    omega
  · cases r1 with
    | list e1 c1 d1 q1 z1 i1 =>
      cases r2 with
      | list e2 c2 d2 q2 z2 i2 =>
        rename_i xs ys a o vs en as' b o' ws en' bs'
        obtain ⟨cls, dd, data, sl⟩ := o
        obtain ⟨cls', dd', data', sl'⟩ := o'
        simp only at c1 q1 c2 q2 d1 d2
        subst c1 q1 c2 q2 d1 d2
        have hsz : vs.size + ws.size ≤ sizeLine := by
          have l1 := i1.length; have l2 := i2.length
          simp only [Array.length_toList] at l1 l2
          rw [l1, l2]; exact h.1
        refine concat_meets ⟨_, e1, rfl⟩ ⟨_, e2, rfl⟩ noFill_list_add seq_list_add PySem.F.slot_list_add PySem.F.entry_list_add (PySem.F.args_list_add_2 _ _) (list_addW a b vs ws en en' none none sl sl' hsz) ⟨e1, e2, ?_⟩
        have i3 := i1.append i2
        have e3 : (vs ++ ws) = (vs.toList ++ ws.toList).toArray := by simp
        refine hQ _ _ _ _ (s₂.heap.objs.size :: (as' ++ bs')) h.2 (st.keep (fun _ _ e => Heap.get?_push_of_some _ e) _) ?_ ?_
        · show Rp (s₂.heap.push { cls := Value.type "list", data := Data.seq (vs ++ ws) }) (.ref s₂.heap.objs.size) (.list (xs ++ ys)) _
          rw [e3]
          exact new_list i3 (by simpa using hsz) 0
        · refine cp_ok (f := ⟨true, f.u ++ k.u⟩) T.rel st.ext i3 ⟨fun j d hj hn c hc => ?_, fun q => (nomatch q)⟩ (fresh_size _)
          rcases List.mem_append.mp hc with hc | hc
          · exact fo1.1 j d hj (fun q => hn (List.mem_append_left _ q)) c (.tail _ hc)
          · exact fo2.1 j d hj (fun q => hn (List.mem_append_right _ q)) c (.tail _ hc)
  · cases r2
    cases r1 with
    | list e1 c1 d1 q1 z1 i1 =>
      rename_i xs x u a o vs en as'
      obtain ⟨cls, dd, data, sl⟩ := o
      simp only at c1 q1 d1
      subst c1 q1 d1
      obtain ⟨hfl, hhi, hlo, hz, hk⟩ := h
      have e0 := i1.flat hfl
      subst e0
      have hl : vs.size = xs.length := by simpa using i1.length
      have hz' : vs.size * x.toNat ≤ 2 ^ 24 := by rw [hl]; exact hz
      have hhi' : x < 2 ^ 63 := hhi
      have hlo' : -(2 ^ 63 : Int) ≤ x := hlo
      refine wpAny_binaryOp_repeat_ref (T := "list") (U := "int") (by decide) ⟨_, e1, rfl⟩ (fun s' => typeIs_int s' x u) noFill_list_mul PySem.F.fills_int_mul PySem.F.slot_int_rmul repeat_list PySem.F.slot_int_index.lookup
        (call_meets PySem.F.slot_int_rmul (typeIs_int _ x u) PySem.F.entry_int_rmul (PySem.F.args_int_rmul_2 _ _) (lm_int_rmul_list_any x u a vs en none sl)
          ⟨e1, rfl, ⟨_, e1, rfl⟩, call_meets PySem.F.slot_list_mul ⟨_, e1, rfl⟩ PySem.F.entry_list_mul (PySem.F.args_list_mul_2 _ _)
            (lm_list_mul_any a vs en none sl x u (by simp [Builtin.List.listFitsIndex]; omega) (by omega) (by simp [Builtin.List.listTooLong, sizeLine]; omega))
            ⟨e1, ?_⟩⟩)
      rw [listMul_foldl_if]
      have i3 := i1.rep x.toNat
      refine hQ _ _ _ _ [s₂.heap.objs.size] hk (st.keep (fun _ _ e => Heap.get?_push_of_some _ e) _) (new_list i3 ?_ 0) (FgOk.cons T.rel st.ext (.nil fun _ => rfl) (fresh_size _) (fun _ hb => (nomatch hb)))
      have hq : (List.replicate x.toNat vs.toList).flatten.length = x.toNat * vs.size := by simp
      rw [hq, Nat.mul_comm]; exact hz'
  · exact h.elim

theorem sem_bin {op : Op} {l r : Expr} {a b : X} {pos : Pos} (ha : SemE fname sc l a) (hb : SemE fname sc r b) : SemE fname sc (.BinOp l (opOf op) r pos) (.bin op a b) := by
  intro g Φ n F A s ρ fp K Q E T h hQ
  conv at h => whnf
  refine wpAny_BinOp (ha g Φ n F A s ρ fp _ _ E T h fun v s₁ x f as hk st r1 fo => hb g Φ n F A s₁ ρ fp _ _ E (T.step st) hk fun w s₂ y k bs hk' st' r2 fo' => ?_)
  exact bin_rule T (st.trans st') hk' (r1.ext st'.ext) r2 fo (fo'.back st.ext) hQ

theorem sem_neg {e : Expr} {a : X} {pos : Pos} (ha : SemE fname sc e a) : SemE fname sc (.UnaryOp .USub e pos) (.neg a) := by
  intro g Φ n F A s ρ fp K Q E T h hQ
  conv at h => whnf
  refine wpAny_UnaryOp (ha g Φ n F A s ρ fp _ _ E T h fun v s₁ x f as hk st r1 fo => ?_)
  split at hk
  · cases r1; exact P.neg_int (hQ _ _ _ _ [] hk (st.toks _) (.int _ _) .ff)
  · exact hk.elim
end
end Mine
set_option Elab.async false
set_option maxRecDepth 100000
namespace Mine
open PySem PySem.Calls PyProof.Rows

section
variable {fname : Nat → Str} {g : Gx} {Φ : Calls} {n : Nat} {F : Fm} {sc : Scope} {A : Around} {s s' : Shared} {ρ : Vars} {fp : Nat → List Addr}

theorem line_lt {k : Nat} (h : k ≤ sizeLine) : (k : Int) < 2 ^ 63 := by
  have : sizeLine = 16777216 := by decide
  omega

theorem truthy_rule {v : Value} {d : D} {as : List Addr} {Q : Bool → Shared → Prop} {E : Value → Shared → Prop} (r : Rp s.heap v d as) (h : ∀ tk, Q (truth d) { s with toks := tk }) :
    wpAny (model g.p g.w) A (truthy v) Q E s := by
  cases r with
  | none => exact PyProof.Rows.truthy_none (h s.toks)
  | bool b => exact wpAny_truthy_bool (h s.toks)
  | int i t => exact P.truthy_int (h s.toks)
  | str x t hz =>
    refine P.truthy_str ?_ ?_
    · have := line_lt hz
      show ¬ (x.cps.size : Int) ≥ 2 ^ 63
      omega
    · have e : ((x.length : Int) != 0) = truth (.str x) := by
        show ((x.cps.size : Int) != 0) = (x.cps.size != 0)
        rw [Bool.eq_iff_iff]; simp
      rw [e]; exact h _
  | @list a o vs en xs as' e c di dt sz i =>
    have hl : vs.size = xs.length := by simpa using i.length
    have e' : (!vs.isEmpty) = truth (.list xs) := by
      unfold Array.isEmpty; rw [hl]; cases xs <;> rfl
    refine wpAny_truthy_list ⟨_, e, c, _, dt⟩ (line_lt sz) ?_
    rw [e']; exact h _
  | @tuple a o vs en xs as' e c di dt sz i =>
    have hl : vs.size = xs.length := by simpa using i.length
    have e' : (!vs.isEmpty) = truth (.tuple xs) := by
      unfold Array.isEmpty; rw [hl]; cases xs <;> rfl
    refine truthy_tuple ⟨_, e, c, _, dt⟩ (line_lt sz) ?_
    rw [e']; exact h _

noncomputable def cmOf : Cm → CmpOp
  | .eq => .Eq
  | .ne => .NotEq
  | .lt => .Lt
  | .le => .LtE
  | .gt => .Gt
  | .ge => .GtE
  | .is => .Is
  | .isnt => .IsNot
  | .isin => .In
  | .notin => .NotIn

mutual
theorem eqD_eqv : ∀ x y : D, PyData.eqv x y = eqD x y
  | .none, y => by cases y <;> simp [PyData.eqv, eqD]
  | .bool _, y => by cases y <;> simp [PyData.eqv, eqD]
  | .int _, y => by cases y <;> simp [PyData.eqv, eqD]
  | .str _, y => by cases y <;> simp [PyData.eqv, eqD]
  | .list xs, y => by cases y <;> simp [PyData.eqv, eqD, eqDs_eqv xs]
  | .tuple xs, y => by cases y <;> simp [PyData.eqv, eqD, eqDs_eqv xs]
  | .dict _, y => by cases y <;> simp [PyData.eqv, eqD]
theorem eqDs_eqv : ∀ xs ys : List D, PyData.eqvAll xs ys = eqDs xs ys
  | [], ys => by cases ys <;> simp [PyData.eqvAll, eqDs]
  | x :: xs, [] => by simp [PyData.eqvAll, eqDs]
  | x :: xs, y :: ys => by simp [PyData.eqvAll, eqDs, eqD_eqv x y, eqDs_eqv xs ys]
end

theorem lays_of {xs : List D} {k : Nat} (h : ∀ x ∈ xs, x.canLay0 = true ∧ x.depth ≤ k) : PyData.canLayAll0 xs = true ∧ PyData.depthAll xs ≤ k := by
  induction xs with
  | nil => simp [PyData.canLayAll0, PyData.depthAll]
  | cons x xs ih =>
    have h1 := h x (.head _)
    have h2 := ih fun y hy => h y (.tail _ hy)
    simp only [PyData.canLayAll0, PyData.depthAll, h1.1, h2.1, Bool.and_self, true_and]
    exact Nat.max_le.mpr ⟨h1.2, h2.2⟩
theorem okD_lays : ∀ (k : Nat) (d : D), okD k d = true → d.canLay0 = true ∧ d.depth ≤ k
  | k, .none, _ => by simp [PyData.canLay0, PyData.depth]
  | k, .bool _, _ => by simp [PyData.canLay0, PyData.depth]
  | k, .int _, _ => by simp [PyData.canLay0, PyData.depth]
  | k, .str x, h => by
    have h' : PyData.strOk x = true := by cases k <;> simpa [okD, PyData.strOk] using h
    simp [PyData.canLay0, PyData.depth, h']
  | 0, .list _, h => by simp [okD] at h
  | 0, .tuple _, h => by simp [okD] at h
  | 0, .dict _, h => by simp [okD] at h
  | k + 1, .dict _, h => by simp [okD] at h
  | k + 1, .list xs, h => by
    simp only [okD, List.all_eq_true] at h
    have := lays_of fun x hx => okD_lays k x (h x hx)
    simp only [PyData.canLay0, PyData.depth]
    exact ⟨this.1, Nat.succ_le_succ this.2⟩
  | k + 1, .tuple xs, h => by
    simp only [okD, List.all_eq_true] at h
    have := lays_of fun x hx => okD_lays k x (h x hx)
    simp only [PyData.canLay0, PyData.depth]
    exact ⟨this.1, Nat.succ_le_succ this.2⟩
theorem okD_shaped {d : D} (h : okD 8 d = true) : SeqAt.shaped d = true := by
  have := okD_lays 8 d h
  unfold SeqAt.shaped
  rw [this.1, Bool.true_and, decide_eq_true_eq]
  omega

theorem cmp_rule {op : Cm} {v w : Value} {x y : D} {as bs : List Addr} {K : Bool → Prop} {Q E : Value → Shared → Prop} (hu : A.units + 64 < cLine)
    (h : cmpK op x y K) (r1 : Rp s.heap v x as) (r2 : Rp s.heap w y bs) (hQ : ∀ b tk, K b → Q (.bool b) { s with toks := tk }) : wpAny (model g.p g.w) A (compareOp (cmOf op) v w) Q E s := by
  unfold cmpK at h
  split at h
  · cases r1; cases r2; exact P.eq_int (hQ _ s.toks h)
  · cases r1; cases r2; refine P.ne_int ?_
    rename_i a b _ _
    have e : (a != b) = decide (a ≠ b) := by rw [Bool.eq_iff_iff]; simp
    rw [e]; exact hQ _ s.toks h
  · cases r1; cases r2; exact P.lt_int (hQ _ s.toks h)
  · cases r1; cases r2; exact P.le_int (hQ _ s.toks h)
  · cases r1; cases r2; exact P.gt_int (hQ _ s.toks h)
  · cases r1; cases r2; exact P.ge_int (hQ _ s.toks h)
  · refine SeqAt.compareEq_shaped r1.reads r2.reads (okD_shaped h.1) (okD_shaped h.2.1) hu ?_
    rw [eqD_eqv]; exact hQ _ s.toks h.2.2
  · refine SeqAt.compareNe_shaped r1.reads r2.reads (okD_shaped h.1) (okD_shaped h.2.1) hu ?_
    rw [eqD_eqv]; exact hQ _ s.toks h.2.2
  · cases r2
    cases r1 <;> refine wpAny_is_plain rfl ?_ <;> first | exact hQ _ s.toks h | (rename_i p q; cases p <;> cases q <;> exact hQ _ s.toks h)
  · cases r2
    cases r1 <;> refine wpAny_is_plain rfl ?_ <;> first | exact hQ _ s.toks h | (rename_i p q; cases p <;> cases q <;> exact hQ _ s.toks h)
  · cases r2
    cases r1 <;> refine wpAny_isNot_plain rfl ?_ <;> first | exact hQ _ s.toks h | (rename_i p q; cases p <;> cases q <;> exact hQ _ s.toks h)
  · cases r2
    cases r1 <;> refine wpAny_isNot_plain rfl ?_ <;> first | exact hQ _ s.toks h | (rename_i p q; cases p <;> cases q <;> exact hQ _ s.toks h)
  · exact h.elim

theorem At.units (T : At fname g Φ n F sc A s ρ fp) : A.units + 64 < cLine := by have := T.room.units; omega

theorem sem_test {e : Expr} {a : X} (ha : SemE fname sc e a) (hp : ∀ env whole, isTrue e env whole = (do let v ← whole; standAt e.pos; holding [v] (truthy v))) : SemT fname sc e a := by
  intro g Φ n F A s ρ fp K Q E T h hQ
  refine wpAny_isTrue_value (ha g Φ n F A s ρ fp _ _ E T h fun v s₁ d f as hk st r fo => truthy_rule r fun tk => hQ _ _ hk (st.toks tk)) (hp _ _)

theorem sem_not {e : Expr} {a : X} {pos : Pos} (ha : SemE fname sc e a) : SemE fname sc (.UnaryOp .Not e pos) (.not a) := by
  intro g Φ n F A s ρ fp K Q E T h hQ
  conv at h => whnf
  exact wpAny_UnaryOp (ha g Φ n F A s ρ fp _ _ E T h fun v s₁ x f as hk st r1 fo => not_of (truthy_rule r1 fun tk => hQ _ _ _ _ [] hk (st.toks tk) (.bool _) .ff))
theorem sem_not_t {e : Expr} {a : X} {pos : Pos} (ha : SemT fname sc e a) : SemT fname sc (.UnaryOp .Not e pos) (.not a) := by
  intro g Φ n F A s ρ fp K Q E T h hQ
  conv at h => whnf
  exact wpAny_isTrue_Not (ha g Φ n F A s ρ fp (fun b => K (!b)) _ E T h fun b s₁ hk st => hQ _ _ hk st)

theorem sem_ite {t b o : Expr} {x y z : X} {pos : Pos} (ht : SemT fname sc t x) (hb : SemE fname sc b y) (ho : SemE fname sc o z) : SemE fname sc (.IfExp t b o pos) (.ite x y z) := by
  intro g Φ n F A s ρ fp K Q E T h hQ
  conv at h => whnf
  refine wpAny_IfExp (ht g Φ n F A s ρ fp (fun r => br r (wE Φ ρ y K) (wE Φ ρ z K)) _ E T h fun r s₁ hk st => ?_)
  cases r
  · exact ho g Φ n F A s₁ ρ fp _ _ E (T.step st) hk fun v s' d f as hk st' r fo => hQ _ _ _ _ _ hk (st.trans st') r (fo.back st.ext)
  · exact hb g Φ n F A s₁ ρ fp _ _ E (T.step st) hk fun v s' d f as hk st' r fo => hQ _ _ _ _ _ hk (st.trans st') r (fo.back st.ext)

theorem marks_false {op : Cm} {r : Expr} (h : op ≠ .isin ∧ op ≠ .notin) : behindInMarks (cmOf op) r = false := by
  cases r <;> first | rfl | (cases op <;> first | rfl | exact absurd rfl h.1 | exact absurd rfl h.2 | (simp [behindInMarks, cmOf]))

theorem sem_cmp {op : Cm} {l r : Expr} {a b : X} {pos : Pos} (ha : SemE fname sc l a) (hb : SemE fname sc r b) (hm : behindInMarks (cmOf op) r = false) : SemE fname sc (.Compare l [cmOf op] [r] pos) (.cmp op a b) := by
  intro g Φ n F A s ρ fp K Q E T h hQ
  conv at h => whnf
  exact wpAny_Compare1 (ha g Φ n F A s ρ fp _ _ E T h fun v s₁ x f as hk st r1 fo => hb g Φ n F A s₁ ρ fp _ _ E (T.step st) hk fun w s₂ y k bs hk' st' r2 fo' =>
    cmp_rule T.units hk' (r1.ext st'.ext) r2 fun b tk hk => hQ _ _ _ _ [] hk ((st.trans st').toks tk) (.bool _) .ff) hm
theorem sem_cmp_t {op : Cm} {l r : Expr} {a b : X} {pos : Pos} (ha : SemE fname sc l a) (hb : SemE fname sc r b) (hm : behindInMarks (cmOf op) r = false) : SemT fname sc (.Compare l [cmOf op] [r] pos) (.cmp op a b) := by
  intro g Φ n F A s ρ fp K Q E T h hQ
  conv at h => whnf
  exact wpAny_isTrue_Compare1 (ha g Φ n F A s ρ fp _ _ E T h fun v s₁ x f as hk st r1 fo => hb g Φ n F A s₁ ρ fp _ _ E (T.step st) hk fun w s₂ y k bs hk' st' r2 fo' =>
    cmp_rule T.units hk' (r1.ext st'.ext) r2 fun b tk hk => wpAny_truthy_bool (hQ _ _ hk ((st.trans st').toks tk))) hm
end
end Mine
set_option Elab.async false
set_option maxRecDepth 100000
namespace Mine
open PySem PySem.Calls PyProof.Rows

section
variable {fname : Nat → Str} {g : Gx} {Φ : Calls} {n : Nat} {F : Fm} {sc : Scope} {A : Around} {s s' : Shared} {ρ : Vars} {fp : Nat → List Addr}

theorem last_marks {o1 o2 : CmpOp} {r1 r2 : Expr} (h : behindInMarks o2 r2 = false) : lastMarks [o1, o2] [r1, r2] = false := by
  simpa [lastMarks] using h

theorem sem_cmp2 {o1 o2 : Cm} {l r r' : Expr} {a b c : X} {pos : Pos} (ha : SemE fname sc l a) (hb : SemE fname sc r b) (hc : SemE fname sc r' c) (hm : behindInMarks (cmOf o2) r' = false) :
    SemE fname sc (.Compare l [cmOf o1, cmOf o2] [r, r'] pos) (.cmp2 o1 o2 a b c) := by
  intro g Φ n F A s ρ fp K Q E T h hQ
  conv at h => whnf
  refine Compare_chain (ha g Φ n F A s ρ fp _ _ E T h fun v s₁ x f as hk st r1 fo => chain_link (hb g Φ n F A s₁ ρ fp _ _ E (T.step st) hk fun w s₂ y k bs hk' st' r2 fo' =>
    cmp_rule T.units hk' (r1.ext st'.ext) r2 fun t tk hk => wpAny_truthy_bool ?_)) (last_marks hm)
  have st₂ := (st.trans st').toks tk
  cases t
  · exact hQ _ _ _ _ [] hk st₂ (.bool _) .ff
  · exact chain_last (hc g Φ n F A _ ρ fp _ _ E (T.step st₂) hk fun u s₃ z k' cs hk' st₃ r3 fo' =>
      cmp_rule T.units hk' (r2.ext st₃.ext) r3 fun t tk hk => hQ _ _ _ _ [] hk ((st₂.trans st₃).toks tk) (.bool _) .ff)
theorem sem_cmp2_t {o1 o2 : Cm} {l r r' : Expr} {a b c : X} {pos : Pos} (ha : SemE fname sc l a) (hb : SemE fname sc r b) (hc : SemE fname sc r' c) (hm : behindInMarks (cmOf o2) r' = false) :
    SemT fname sc (.Compare l [cmOf o1, cmOf o2] [r, r'] pos) (.cmp2 o1 o2 a b c) := by
  intro g Φ n F A s ρ fp K Q E T h hQ
  conv at h => whnf
  refine isTrue_chain (ha g Φ n F A s ρ fp _ _ E T h fun v s₁ x f as hk st r1 fo => test_link (hb g Φ n F A s₁ ρ fp _ _ E (T.step st) hk fun w s₂ y k bs hk' st' r2 fo' =>
    cmp_rule T.units hk' (r1.ext st'.ext) r2 fun t tk hk => wpAny_truthy_bool ?_)) (last_marks hm)
  have st₂ := (st.trans st').toks tk
  cases t
  · exact hQ _ _ hk st₂
  · exact test_last (hc g Φ n F A _ ρ fp _ _ E (T.step st₂) hk fun u s₃ z k' cs hk' st₃ r3 fo' =>
      cmp_rule T.units hk' (r2.ext st₃.ext) r3 fun t tk hk => wpAny_truthy_bool (hQ _ _ hk ((st₂.trans st₃).toks tk)))

noncomputable def wB : Bool → Calls → Vars → Xs → (D → Fg → Prop) → Prop
  | true => wAnd
  | false => wOr
noncomputable def bopOf : Bool → BoolOp
  | true => .And
  | false => .Or
noncomputable abbrev bX : Bool → Xs → X
  | true => .and
  | false => .or

noncomputable def SemB (fname : Nat → Str) (i : Bool) (sc : Scope) (es : List Expr) (xs : Xs) : Prop :=
  ∀ (g : Gx) (Φ : Calls) (n : Nat) (F : Fm) (A : Around) (s : Shared) (ρ : Vars) (fp : Nat → List Addr) (pos : Pos) (K : D → Fg → Prop) (Q : Value → Shared → Prop) (E : Value → Shared → Prop),
    At fname g Φ n F sc A s ρ fp → wB i Φ ρ xs K →
    (∀ v s' d f as, K d f → Step g s s' → Rp s'.heap v d as → FgOk ρ fp s.heap f as → Q v s') →
    wpAny (model g.p g.w) A (boolOp pos (bopOf i) (evalEach es (F.env sc))) Q E s
noncomputable def SemBT (fname : Nat → Str) (i : Bool) (sc : Scope) (es : List Expr) (xs : Xs) : Prop :=
  ∀ (g : Gx) (Φ : Calls) (n : Nat) (F : Fm) (A : Around) (s : Shared) (ρ : Vars) (fp : Nat → List Addr) (K : Bool → Prop) (Q : Bool → Shared → Prop) (E : Value → Shared → Prop),
    At fname g Φ n F sc A s ρ fp → wB i Φ ρ xs (fun d _ => K (truth d)) → (∀ b s', K b → Step g s s' → Q b s') →
    wpAny (model g.p g.w) A (allTrue (bopOf i) es (F.env sc)) Q E s

theorem sem_b1 {i : Bool} {e : Expr} {x : X} (h : SemE fname sc e x) : SemB fname i sc [e] (.cons x .nil) := by
  intro g Φ n F A s ρ fp pos K Q E T hw hQ
  have hw' : wE Φ ρ x K := by cases i <;> exact hw
  exact h g Φ n F A s ρ fp K Q E T hw' hQ
theorem sem_b2 {i : Bool} {e e' : Expr} {es : List Expr} {x y : X} {xs : Xs} (h : SemE fname sc e x) (hr : SemB fname i sc (e' :: es) (.cons y xs)) : SemB fname i sc (e :: e' :: es) (.cons x (.cons y xs)) := by
  intro g Φ n F A s ρ fp pos K Q E T hw hQ
  have hw' : wE Φ ρ x fun d f => if truth d = i then wB i Φ ρ (.cons y xs) K else K d f := by
    cases i
    · have : wE Φ ρ x fun d f => br (truth d) (K d f) (wOr Φ ρ (.cons y xs) K) := hw
      have e : (fun (d : D) (f : Fg) => if truth d = false then wB false Φ ρ (.cons y xs) K else K d f) = fun d f => br (truth d) (K d f) (wOr Φ ρ (.cons y xs) K) := by
        funext d f; cases truth d <;> rfl
      rw [e]; exact this
    · have : wE Φ ρ x fun d f => br (truth d) (wAnd Φ ρ (.cons y xs) K) (K d f) := hw
      have e : (fun (d : D) (f : Fg) => if truth d = true then wB true Φ ρ (.cons y xs) K else K d f) = fun d f => br (truth d) (wAnd Φ ρ (.cons y xs) K) (K d f) := by
        funext d f; cases truth d <;> rfl
      rw [e]; exact this
  show wpAny (model g.p g.w) A (do
    let v ← eval e (F.env sc)
    standAt pos
    let t ← holding [v] (truthy v)
    match bopOf i, t with
    | .And, false | .Or, true => pure v
    | _, _ => boolOp pos (bopOf i) (evalEach (e' :: es) (F.env sc))) Q E s
  refine wpAny_bind (h g Φ n F A s ρ fp _ _ E T hw' fun v s₁ d f as hk st r fo => wpAny_bind (wpAny_standAt (wpAny_bind (wpAny_holding (truthy_rule r fun tk => ?_)))))
  have st₁ := st.toks tk
  cases i <;> cases ht : truth d <;> simp only [ht, bopOf, if_true, if_false, Bool.false_eq_true, Bool.true_eq_false] at hk ⊢
  · exact hr g Φ n F A _ ρ fp pos K Q E (T.step st₁) hk fun v' s' d' f' as' hk' st' r' fo' => hQ _ _ _ _ _ hk' (st₁.trans st') r' (fo'.back st₁.ext)
  · exact wpAny_pure (hQ _ _ _ _ _ hk st₁ r fo)
  · exact wpAny_pure (hQ _ _ _ _ _ hk st₁ r fo)
  · exact hr g Φ n F A _ ρ fp pos K Q E (T.step st₁) hk fun v' s' d' f' as' hk' st' r' fo' => hQ _ _ _ _ _ hk' (st₁.trans st') r' (fo'.back st₁.ext)

theorem sem_bool_op {i : Bool} {es : List Expr} {xs : Xs} {pos : Pos} (h : SemB fname i sc es xs) : SemE fname sc (.BoolOp (bopOf i) es pos) (bX i xs) := by
  intro g Φ n F A s ρ fp K Q E T hw hQ
  have hw' : wB i Φ ρ xs K := by cases i <;> exact hw
  exact h g Φ n F A s ρ fp pos K Q E T hw' hQ

theorem sem_bt1 {i : Bool} {e : Expr} {x : X} (h : SemT fname sc e x) : SemBT fname i sc [e] (.cons x .nil) := by
  intro g Φ n F A s ρ fp K Q E T hw hQ
  have hw' : wE Φ ρ x (fun d _ => K (truth d)) := by cases i <;> exact hw
  cases i
  · refine wpAny_allTrue_Or_cons (h g Φ n F A s ρ fp K _ E T hw' fun b s' hk st => ?_)
    cases b
    · exact wpAny_allTrue_Or_nil (hQ _ _ hk st)
    · exact hQ _ _ hk st
  · refine wpAny_allTrue_And_cons (h g Φ n F A s ρ fp K _ E T hw' fun b s' hk st => ?_)
    cases b
    · exact hQ _ _ hk st
    · exact wpAny_allTrue_And_nil (hQ _ _ hk st)
theorem sem_bt2 {i : Bool} {e e' : Expr} {es : List Expr} {x y : X} {xs : Xs} (h : SemT fname sc e x) (hr : SemBT fname i sc (e' :: es) (.cons y xs)) : SemBT fname i sc (e :: e' :: es) (.cons x (.cons y xs)) := by
  intro g Φ n F A s ρ fp K Q E T hw hQ
  cases i
  · have hw' : wE Φ ρ x fun d _ => (fun b => if b then K true else wOr Φ ρ (.cons y xs) fun d _ => K (truth d)) (truth d) := by
      have : wE Φ ρ x fun d f => br (truth d) (K (truth d)) (wOr Φ ρ (.cons y xs) fun d _ => K (truth d)) := hw
      have e : (fun (d : D) (_ : Fg) => (fun b => if b then K true else wOr Φ ρ (.cons y xs) fun d _ => K (truth d)) (truth d)) = fun d f => br (truth d) (K (truth d)) (wOr Φ ρ (.cons y xs) fun d _ => K (truth d)) := by
        funext d f; cases truth d <;> rfl
      rw [e]; exact this
    refine wpAny_allTrue_Or_cons (h g Φ n F A s ρ fp (fun b => if b then K true else wOr Φ ρ (.cons y xs) fun d _ => K (truth d)) _ E T hw' fun b s' hk st => ?_)
    cases b
    · exact hr g Φ n F A _ ρ fp K Q E (T.step st) hk fun b s'' hk st' => hQ _ _ hk (st.trans st')
    · exact hQ _ _ hk st
  · have hw' : wE Φ ρ x fun d _ => (fun b => if b then wAnd Φ ρ (.cons y xs) fun d _ => K (truth d) else K false) (truth d) := by
      have : wE Φ ρ x fun d f => br (truth d) (wAnd Φ ρ (.cons y xs) (fun d _ => K (truth d))) (K (truth d)) := hw
      have e : (fun (d : D) (_ : Fg) => (fun b => if b then wAnd Φ ρ (.cons y xs) fun d _ => K (truth d) else K false) (truth d)) = fun d f => br (truth d) (wAnd Φ ρ (.cons y xs) (fun d _ => K (truth d))) (K (truth d)) := by
        funext d f; cases truth d <;> rfl
      rw [e]; exact this
    refine wpAny_allTrue_And_cons (h g Φ n F A s ρ fp (fun b => if b then wAnd Φ ρ (.cons y xs) fun d _ => K (truth d) else K false) _ E T hw' fun b s' hk st => ?_)
    cases b
    · exact hQ _ _ hk st
    · exact hr g Φ n F A _ ρ fp K Q E (T.step st) hk fun b s'' hk st' => hQ _ _ hk (st.trans st')
theorem sem_bool_op_t {i : Bool} {es : List Expr} {xs : Xs} {pos : Pos} (h : SemBT fname i sc es xs) : SemT fname sc (.BoolOp (bopOf i) es pos) (bX i xs) := by
  intro g Φ n F A s ρ fp K Q E T hw hQ
  have hw' : wB i Φ ρ xs (fun d _ => K (truth d)) := by cases i <;> exact hw
  exact wpAny_isTrue_BoolOp (h g Φ n F A s ρ fp K Q E T hw' hQ)

theorem sem_ite_t {t b o : Expr} {x y z : X} {pos : Pos} (ht : SemT fname sc t x) (hb : SemT fname sc b y) (ho : SemT fname sc o z) : SemT fname sc (.IfExp t b o pos) (.ite x y z) := by
  intro g Φ n F A s ρ fp K Q E T h hQ
  conv at h => whnf
  show wpAny (model g.p g.w) A (do
    if ← isTrue t (F.env sc) (eval t (F.env sc)) then isTrue b (F.env sc) (eval b (F.env sc)) else isTrue o (F.env sc) (eval o (F.env sc))) Q E s
  refine wpAny_bind (ht g Φ n F A s ρ fp (fun r => br r (wE Φ ρ y (fun d _ => K (truth d))) (wE Φ ρ z (fun d _ => K (truth d)))) _ E T h fun r s₁ hk st => ?_)
  cases r
  · exact ho g Φ n F A s₁ ρ fp K _ E (T.step st) hk fun b s' hk st' => hQ _ _ hk (st.trans st')
  · exact hb g Φ n F A s₁ ρ fp K _ E (T.step st) hk fun b s' hk st' => hQ _ _ hk (st.trans st')

noncomputable def noStar : Expr → Bool
  | .Starred _ _ => false
  | _ => true
theorem starEach_cons {e : Expr} {r : List Expr} {env : Env} (h : noStar e = true) : starEach (e :: r) env = (false, eval e env) :: starEach r env := by
  cases e <;> first | rfl | cases h

theorem sem_nil : SemL fname sc [] .nil := by
  intro g Φ n F A s ρ fp pos K Q E T h hQ
  conv at h => whnf
  exact args_nil (hQ _ _ _ _ [] h T.here .nil .ff)
theorem sem_cons {e : Expr} {es : List Expr} {x : X} {xs : Xs} (hs : noStar e = true) (he : SemE fname sc e x) (hr : SemL fname sc es xs) : SemL fname sc (e :: es) (.cons x xs) := by
  intro g Φ n F A s ρ fp pos K Q E T h hQ
  conv at h => whnf
  exact args_cons (he g Φ n F A s ρ fp _ _ E T h fun v s₁ d f as hk st r fo => hr g Φ n F A s₁ ρ fp pos _ _ E (T.step st) hk fun vs s₂ ds k bs hk' st' r' fo' =>
    hQ _ _ _ _ _ hk' (st.trans st') (.cons (r.ext st'.ext) r') (FgOk.append T.rel st.ext fo fo' r.there)) (starEach_cons hs)

theorem sem_list {es : List Expr} {xs : Xs} {pos : Pos} (h : SemL fname sc es xs) : SemE fname sc (.List es pos) (.list xs) := by
  intro g Φ n F A s ρ fp K Q E T hw hQ
  conv at hw => whnf
  refine wpAny_List (h g Φ n F A s ρ fp pos _ _ E T hw fun vs s₁ ds f as hk st r fo => ⟨?_, ?_⟩)
  · rw [r.length]; exact hk.1
  · exact hQ _ _ _ _ _ hk.2 (st.push _) (new_list r (by rw [r.length]; exact hk.1) 0) (FgOk.cons T.rel st.ext fo (fresh_size _) r.there)
theorem sem_tup {es : List Expr} {xs : Xs} {k : Nat} {pos : Pos} (h : SemL fname sc es xs) : SemE fname sc (.Tuple es k pos) (.tup xs) := by
  intro g Φ n F A s ρ fp K Q E T hw hQ
  conv at hw => whnf
  refine wpAny_Tuple (h g Φ n F A s ρ fp pos _ _ E T hw fun vs s₁ ds f as hk st r fo => ⟨?_, ?_⟩)
  · rw [r.length]; exact hk.1
  · exact hQ _ _ _ _ _ hk.2 (st.push _) (.tuple (Heap.get?_push_size _ rfl) rfl rfl rfl (by rw [List.size_toArray, r.length]; exact hk.1) (by simpa using Rps.ext (Ext.push _ _) r)) fo
end
end Mine
set_option Elab.async false
set_option maxRecDepth 100000
namespace Mine
open PySem PySem.Calls PyProof.Rows

section
variable {fname : Nat → Str} {g : Gx} {Φ : Calls} {n : Nat} {F : Fm} {sc : Scope} {A : Around} {s s' : Shared} {ρ : Vars} {fp : Nat → List Addr}

theorem imm_ok {h h' : Heap} {v : Value} {d : D} {as : List Addr} {f : Fg} (r : Rp h v d as) (hi : imm d = true) (hf : f.sh = false → f.u = []) : FgOk ρ fp h' f as := by
  rw [r.imm hi]; exact .nil hf

theorem sem_call {x : Str} {np pos : Pos} {e : Expr} {es : List Expr} {xs : Xs} {f : Nat} (hx : sc.names.lookup x = some .globalImplicit) (hn : fname f = x) (hf : f < 500) (hne : x ≠ Str.empty) (hd : (x == ("__debug__" : Str)) = false)
    (hs : noStar e = true) (ha : SemL fname sc (e :: es) xs) : SemE fname sc (.Call (.Name x np) (e :: es) [] pos) (.call f xs) := by
  intro g Φ n F A s ρ fp K Q E T h hQ
  conv at h => whnf
  obtain ⟨fa, o, fd, hmg, hb, hdat⟩ := T.named f (by omega) (by rw [hn]; exact hne)
  rw [hn] at hmg
  refine wpAny_Call_ofName (Name_function_global T.kind hx (loadGlobal_global (T.gd.glb.keeps T.rel.stays) hmg ?_) hd)
  refine callWith_def hdat (ha g Φ n F A s ρ fp pos _ _ E T h fun vs s₁ ds f' as hk st r fo => ⟨st.stays _ _ hb, ?_⟩) (starEach_cons hs)
  have q := T.fns _ _ _ hk
  unfold Spec at q
  rw [if_neg (by omega), if_neg (by omega)] at q
  obtain ⟨fa', q⟩ := q
  have e := q.named
  rw [hn, hmg] at e
  cases e
  refine q.run A s₁ vs as _ Q E T.room st.stays (T.step st).rel.frames r fun v s' d fr bs hk st' r' hfr => hQ _ _ _ _ _ hk (st.trans st') r' ?_
  refine FgOk.back st.ext ?_
  split
  · rename_i hi; exact imm_ok r' hi fun _ => rfl
  · split
    · rename_i hfr'
      have := hfr hfr'
      exact FgOk.new (T.step st).rel (fun _ => rfl) this.2 this.1
    · refine ⟨fun j d hj hu => ?_, fun q => (nomatch q)⟩
      exact absurd (List.mem_range.mpr (by rw [List.getElem?_eq_some_iff] at hj; exact hj.1)) hu

theorem blt1 {x : Str} {id : String} {np pos : Pos} {e : Expr} {a : X} {K : D → Fg → Prop} {Q E : Value → Shared → Prop} (T : At fname g Φ n F sc A s ρ fp) (hx : sc.names.lookup x = some .globalImplicit)
    (hb : (x, .builtin id) ∈ bltTab) (hd : (x == ("__debug__" : Str)) = false) (hs : noStar e = true) (he : SemE fname sc e a) (h : wE Φ ρ a K)
    (hQ : ∀ v s' d f as, K d f → Step g s s' → Rp s'.heap v d as → FgOk ρ fp s.heap f as → wpAny (model g.p g.w) A (call (.builtin id) [v]) Q E s') :
    wpAny (model g.p g.w) A (eval (.Call (.Name x np) [e] [] pos) (F.env sc)) Q E s :=
  wpAny_Call_ofName (blt_name T hx hb hd (callWith_builtin1 (args_cons (he g Φ n F A s ρ fp _ _ E T h fun v s' d f as hk st r fo => args_nil (hQ v s' d f as hk st r fo)) (starEach_cons hs)) (starEach_cons hs) rfl))
theorem typ1 {x : Str} {id : String} {np pos : Pos} {e : Expr} {a : X} {K : D → Fg → Prop} {Q E : Value → Shared → Prop} (T : At fname g Φ n F sc A s ρ fp) (hx : sc.names.lookup x = some .globalImplicit)
    (hb : (x, .type id) ∈ bltTab) (hd : (x == ("__debug__" : Str)) = false) (hs : noStar e = true) (he : SemE fname sc e a) (h : wE Φ ρ a K)
    (hQ : ∀ v s' d f as, K d f → Step g s s' → Rp s'.heap v d as → FgOk ρ fp s.heap f as → wpAny (model g.p g.w) A (call (.type id) [v]) Q E s') :
    wpAny (model g.p g.w) A (eval (.Call (.Name x np) [e] [] pos) (F.env sc)) Q E s :=
  wpAny_Call_ofName (blt_name T hx hb hd (callWith_type1 (args_cons (he g Φ n F A s ρ fp _ _ E T h fun v s' d f as hk st r fo => args_nil (hQ v s' d f as hk st r fo)) (starEach_cons hs)) (starEach_cons hs) rfl))
theorem blt2 {x : Str} {id : String} {np pos : Pos} {e e' : Expr} {a b : X} {K : D → Fg → D → Fg → Prop} {Q E : Value → Shared → Prop} (T : At fname g Φ n F sc A s ρ fp) (hx : sc.names.lookup x = some .globalImplicit)
    (hb : (x, .builtin id) ∈ bltTab) (hd : (x == ("__debug__" : Str)) = false) (hs : noStar e = true) (hs' : noStar e' = true) (he : SemE fname sc e a) (he' : SemE fname sc e' b) (h : wE Φ ρ a fun x f => wE Φ ρ b fun y k => K x f y k)
    (hQ : ∀ v w s' d f as d' f' bs, K d f d' f' → Step g s s' → Rp s'.heap v d as → Rp s'.heap w d' bs → wpAny (model g.p g.w) A (call (.builtin id) [v, w]) Q E s') :
    wpAny (model g.p g.w) A (eval (.Call (.Name x np) [e, e'] [] pos) (F.env sc)) Q E s :=
  wpAny_Call_ofName (blt_name T hx hb hd (callWith_builtin1 (args_cons (he g Φ n F A s ρ fp _ _ E T h fun v s₁ d f as hk st r fo =>
    args_cons (he' g Φ n F A s₁ ρ fp _ _ E (T.step st) hk fun w s₂ d' f' bs hk' st' r' fo' => args_nil (hQ v w s₂ d f as d' f' bs hk' (st.trans st') (r.ext st'.ext) r')) (starEach_cons hs')) (starEach_cons hs)) (starEach_cons hs)
      (by rw [starEach_cons hs']; rfl)))

theorem sem_len {np pos : Pos} {e : Expr} {a : X} (hx : sc.names.lookup ("len" : Str) = some .globalImplicit) (hs : noStar e = true) (he : SemE fname sc e a) : SemE fname sc (.Call (.Name "len" np) [e] [] pos) (.len a) := by
  intro g Φ n F A s ρ fp K Q E T h hQ
  conv at h => whnf
  refine blt1 (id := "len") T hx (by simp [bltTab]) (by decide) hs he h fun v s' d f as hk st r fo => ?_
  cases r with
  | @list a o vs en xs as' e c di dt sz i =>
    have hl : vs.size = xs.length := by simpa using i.length
    refine PySem.Calls.call_len_list ⟨_, e, c, _, dt⟩ (line_lt sz) ?_
    rw [hl]; exact hQ _ _ _ _ [] hk (st.toks _) (.int _ _) .ff
  | @tuple a o vs en xs as' e c di dt sz i =>
    have hl : vs.size = xs.length := by simpa using i.length
    refine len_tuple ⟨_, e, c, _, dt⟩ (line_lt sz) ?_
    rw [hl]; exact hQ _ _ _ _ [] hk (st.toks _) (.int _ _) .ff
  | str x t z =>
    refine P.len_str ?_ (hQ _ _ _ _ [] hk (st.toks _) (.int _ _) .ff)
    have := line_lt z
    show ¬ (x.cps.size : Int) ≥ 2 ^ 63
    omega
  | _ => exact hk.elim

noncomputable def tyName : Ty → String
  | .int => "int"
  | .bool => "bool"
  | .list => "list"
  | .tuple => "tuple"
  | .str => "str"

theorem isi_rule {t : Ty} {v : Value} {d : D} {as : List Addr} {Q E : Value → Shared → Prop} (r : Rp s.heap v d as) (h : ∀ tk, Q (.bool (isTy t d)) { s with toks := tk }) : wpAny (model g.p g.w) A (call (.builtin "isinstance") [v, .type (tyName t)]) Q E s := by
  cases r with
  | none => cases t <;> first | exact IsiPair.NoneType_int (h _) | exact IsiPair.NoneType_bool (h _) | exact IsiPair.NoneType_list (h _) | exact IsiPair.NoneType_tuple (h _) | exact IsiPair.NoneType_str (h _)
  | bool b => cases t <;> first | exact IsiPair.bool_int (h s.toks) | exact IsiPair.bool_bool (h s.toks) | exact IsiPair.bool_list (h _) | exact IsiPair.bool_tuple (h _) | exact IsiPair.bool_str (h _)
  | int i u => cases t <;> first | exact IsiPair.int_int (h s.toks) | exact IsiPair.int_bool (h _) | exact IsiPair.int_list (h _) | exact IsiPair.int_tuple (h _) | exact IsiPair.int_str (h _)
  | str x u z => cases t <;> first | exact IsiPair.str_int (h _) | exact IsiPair.str_bool (h _) | exact IsiPair.str_list (h _) | exact IsiPair.str_tuple (h _) | exact IsiPair.str_str (h s.toks)
  | list e c => cases t <;> first | exact IsiPair.list_int e c (h _) | exact IsiPair.list_bool e c (h _) | exact IsiPair.list_list e c (h s.toks) | exact IsiPair.list_tuple e c (h _) | exact IsiPair.list_str e c (h _)
  | tuple e c => cases t <;> first | exact IsiPair.tuple_int e c (h _) | exact IsiPair.tuple_bool e c (h _) | exact IsiPair.tuple_list e c (h _) | exact IsiPair.tuple_tuple e c (h s.toks) | exact IsiPair.tuple_str e c (h _)

theorem sem_isinst {np tp pos : Pos} {e : Expr} {a : X} {t : Ty} (hx : sc.names.lookup ("isinstance" : Str) = some .globalImplicit) (ht : sc.names.lookup (Str.ofString (tyName t)) = some .globalImplicit) (hs : noStar e = true) (he : SemE fname sc e a) :
    SemE fname sc (.Call (.Name "isinstance" np) [e, .Name (tyName t) tp] [] pos) (.isinst a t) := by
  intro g Φ n F A s ρ fp K Q E T h hQ
  conv at h => whnf
  refine wpAny_Call_ofName (blt_name (v := .builtin "isinstance") T hx (by simp [bltTab]) (by decide) (callWith_builtin1 (args_cons (he g Φ n F A s ρ fp _ _ E T h fun v s₁ d f as hk st r fo => ?_) (starEach_cons hs)) (starEach_cons hs) rfl))
  have hb : (Str.ofString (tyName t), Value.type (tyName t)) ∈ bltTab := by cases t <;> simp [bltTab, tyName]
  refine args_cons (blt_name (T.step st) ht hb (by cases t <;> decide) (args_nil ?_)) rfl
  exact isi_rule r fun tk => hQ _ _ _ _ [] hk (st.toks tk) (.bool _) .ff

theorem sem_max {np pos : Pos} {e e' : Expr} {a b : X} (hx : sc.names.lookup ("max" : Str) = some .globalImplicit) (hs : noStar e = true) (hs' : noStar e' = true) (he : SemE fname sc e a) (he' : SemE fname sc e' b) :
    SemE fname sc (.Call (.Name "max" np) [e, e'] [] pos) (.max a b) := by
  intro g Φ n F A s ρ fp K Q E T h hQ
  conv at h => whnf
  refine blt2 (K := fun x _ y _ => match x, y with | .int m, .int n => K (.int (if n > m then n else m)) ff | _, _ => False) (id := "max") T hx (by simp [bltTab]) (by decide) hs hs' he he' h fun v w s' d f as d' f' bs hk st r r' => ?_
  split at hk
  · cases r; cases r'
    refine max_two_ints T.room.handled fun h' tk kp => ?_
    split <;> rename_i hc <;> first | rw [if_pos hc] at hk | rw [if_neg hc] at hk
    all_goals exact hQ _ _ _ _ [] hk (st.keep kp tk) (.int _ _) .ff
  · exact hk.elim
theorem sem_listOf {np pos : Pos} {e : Expr} {a : X} (hx : sc.names.lookup ("list" : Str) = some .globalImplicit) (hs : noStar e = true) (he : SemE fname sc e a) : SemE fname sc (.Call (.Name "list" np) [e] [] pos) (.listOf a) := by
  intro g Φ n F A s ρ fp K Q E T h hQ
  conv at h => whnf
  refine typ1 (id := "list") T hx (by simp [bltTab]) (by decide) hs he h fun v s' d f as hk st r fo => ?_
  cases r with
  | @list a o vs en xs as' e c di dt sz i =>
    refine call_list_seq a (.inl rfl) e c dt (fun h' c' kp hn => ?_) sz
    have st' := st.keep kp s'.toks
    refine hQ _ _ _ _ (s'.heap.objs.size :: as') hk st' (.list hn rfl rfl rfl sz (i.ext (.of_keep kp))) ?_
    exact cp_ok (f := f) T.rel st.ext i ((fo.sub (List.sublist_cons_self _ _)).shared) (fresh_size _)
  | _ => exact hk.elim

theorem sem_intOf {np pos : Pos} {e : Expr} {a : X} (hx : sc.names.lookup ("int" : Str) = some .globalImplicit) (hs : noStar e = true) (he : SemE fname sc e a) : SemE fname sc (.Call (.Name "int" np) [e] [] pos) (.intOf a) := by
  intro g Φ n F A s ρ fp K Q E T h hQ
  conv at h => whnf
  refine typ1 (id := "int") T hx (by simp [bltTab]) (by decide) hs he h fun v s' d f as hk st r fo => ?_
  cases r with
  | bool b => exact call_int_bool (hQ _ _ _ _ [] hk (st.toks _) (.int _ _) .ff)
  | int i t => exact call_int_int (hQ _ _ _ _ [] hk st (.int _ _) .ff)
  | _ => exact hk.elim
end
end Mine
set_option Elab.async false
set_option maxRecDepth 100000
namespace Mine
open PySem PySem.Calls PyProof.Rows

section
variable {fname : Nat → Str} {g : Gx} {Φ : Calls} {n : Nat} {F : Fm} {sc : Scope} {A : Around} {s s' : Shared} {ρ : Vars} {fp : Nat → List Addr}

noncomputable def noSlice : Expr → Bool
  | .Slice .. => false
  | _ => true
theorem subscripted_plain {e : Expr} (h : noSlice e = true) (o i : Value) : subscripted e false o i = operate [o, i] (getItem o i) := by
  cases e <;> first | rfl | cases h

theorem line63 : (wordLid : Int) = 2 ^ 63 := rfl

theorem sem_idx {e i : Expr} {a k : X} {pos : Pos} (hi : noSlice i = true) (he : SemE fname sc e a) (hk : SemE fname sc i k) : SemE fname sc (.Subscript e i pos) (.idx a k) := by
  intro g Φ n F A s ρ fp K Q E T h hQ
  conv at h => whnf
  refine Subscript_ (he g Φ n F A s ρ fp _ _ E T h fun v s₁ x f as hk' st r fo => hk g Φ n F A s₁ ρ fp _ _ E (T.step st) hk' fun w s₂ y f' bs h' st' r' fo' => ?_)
  have st₂ := st.trans st'
  have r₂ := r.ext st'.ext
  unfold idxK at h'
  split at h'
  · rename_i xs j
    cases r'
    obtain ⟨h1, h2, h3, z, hz, hK⟩ := h'
    rw [line63] at h1 h2
    cases r₂ with
    | @list b o vs en _ as' e1 c di dt sz it =>
      obtain ⟨u, cs, hu, ru, hsub⟩ := it.get hz
      have hl : vs.size = xs.length := by simpa using it.length
      have hu' : vs[(place xs.length j).toNat]? = some u := by simpa using hu
      have hend := hQ u _ z _ cs hK st₂ ru (by
        split
        · rename_i hi; exact imm_ok ru hi fun _ => rfl
        · exact fo.sub (hsub.trans (List.sublist_cons_self _ _)))
      refine tail_any (T := "list") ⟨_, e1, c⟩ slot_list_getitem.lookup ?_ (subscripted_plain hi _ _)
      by_cases hneg : j < 0
      · rw [place, if_pos hneg] at h3 hu'
        exact wpAny_getItem_list_neg ⟨_, e1, c, _, dt⟩ hneg (by rw [hl]; omega) h1 (by rw [hl]; exact hu') hend
      · rw [place, if_neg hneg] at h3 hu'
        exact wpAny_getItem_list ⟨_, e1, c, _, dt⟩ h3 h2 hu' hend
  · rename_i xs j
    cases r'
    obtain ⟨h1, h2, h3, z, hz, hK⟩ := h'
    rw [line63] at h1 h2
    cases r₂ with
    | @tuple b o vs en _ as' e1 c di dt sz it =>
      obtain ⟨u, cs, hu, ru, hsub⟩ := it.get hz
      have hl : vs.size = xs.length := by simpa using it.length
      have hu' : vs[(place xs.length j).toNat]? = some u := by simpa using hu
      have hend := hQ u _ z _ cs hK st₂ ru (by
        split
        · rename_i hi; exact imm_ok ru hi fun _ => rfl
        · exact fo.sub hsub)
      refine tail_any (T := "tuple") ⟨_, e1, c⟩ slot_tuple_getitem.lookup ?_ (subscripted_plain hi _ _)
      have hlt : (place xs.length j).toNat < xs.length := by
        rw [List.getElem?_eq_some_iff] at hz; exact hz.1
      refine PyProof.Rows.getItem_tuple (j := (place xs.length j).toNat) ⟨_, e1, c, _, dt⟩ h1 h2 ?_ hu' hend
      rw [hl]
      unfold seqIndex?
      unfold place at h3 hlt ⊢
      split <;> rename_i hc <;> simp only [hc, if_true, if_false] at h3 hlt ⊢
      all_goals (first | (rw [if_pos (by omega)]) | (rw [if_neg (by omega)]) | (simp; omega))
  · exact h'.elim

theorem clip_cut (n : Nat) (k : Int) : clipAt n k = min (cut n k) n := by
  unfold clipAt cut
  split <;> omega

theorem pick_upto (items : Array Value) (k : Int) : slicePick items none (some k) none = (items.toList.take (cut items.size k)).toArray := by
  rw [slicePick_plain]
  simp only [Option.elim, List.drop_zero, Nat.sub_zero, clip_cut]
  congr 1
  rw [List.take_eq_take_iff]
  simp
theorem pick_from (items : Array Value) (k : Int) : slicePick items (some k) none none = (items.toList.drop (cut items.size k)).toArray := by
  rw [slicePick_plain]
  simp only [Option.elim, clip_cut]
  congr 1
  by_cases h : cut items.size k ≤ items.size
  · rw [Nat.min_eq_left h, List.take_of_length_le (by simp)]
  · rw [Nat.min_eq_right (by omega)]
    simp
    omega

theorem new_pick {vs : Array Value} {xs : List D} {as bs : List Addr} {ws : List Value} {ys : List D} {s₂ : Shared} {f : Fg} {K : D → Fg → Prop} {Q : Value → Shared → Prop} (T : At fname g Φ n F sc A s ρ fp) (st : Step g s s₂) {o : Obj}
    (i : Rps s₂.heap ws ys bs) (hf : FgOk ρ fp s.heap ⟨true, f.u⟩ bs) (hz : ws.length ≤ sizeLine) (hK : K (.list ys) (cpF ys f))
    (hQ : ∀ v s' d f as, K d f → Step g s s' → Rp s'.heap v d as → FgOk ρ fp s.heap f as → Q v s') :
    Q (.ref (s₂.heap.push o).objs.size) { s₂ with heap := (s₂.heap.push o).push { cls := .type "list", data := .seq ws.toArray } } := by
  have st' := st.push o
  exact hQ _ _ _ _ ((s₂.heap.push o).objs.size :: bs) hK (st'.push _) (new_list (i.ext (Ext.push _ _)) hz 0)
    (cp_ok (f := f) T.rel st'.ext (i.ext (Ext.push _ _)) hf (fresh_size _))

theorem sem_upto {e i : Expr} {a k : X} {p pos : Pos} (he : SemE fname sc e a) (hk : SemE fname sc i k) : SemE fname sc (.Subscript e (.Slice none (some i) none p) pos) (.upto a k) := by
  intro g Φ n F A s ρ fp K Q E T h hQ
  conv at h => whnf
  refine Subscript_ (he g Φ n F A s ρ fp _ _ E T h fun v s₁ x f as hk' st r fo => wpAny_Slice (wpAny_pure (hk g Φ n F A s₁ ρ fp _ _ E (T.step st) hk' fun w s₂ y f' bs h' st' r' fo' => wpAny_pure ?_)))
  have st₂ := st.trans st'
  have r₂ := r.ext st'.ext
  split at h'
  · rename_i xs j
    cases r'
    cases r₂ with
    | @list b o vs en _ as' e1 c di dt sz it =>
      have hl : vs.size = xs.length := by simpa using it.length
      refine tail_any (T := "list") ⟨_, Heap.get?_push_of_some _ e1, c⟩ slot_list_getitem.lookup ?_ rfl
      refine wpAny_getItem_list_slice (l := b) ⟨_, Heap.get?_push_of_some _ e1, c, _, dt⟩ (Heap.IsSliceOf.new ..) .none (.int _ _) .none (by simp) ?_ sz
      rw [pick_upto, hl]
      obtain ⟨cs, hr, hsub⟩ := it.sub 0 (cut xs.length j)
      simp only [List.drop_zero] at hr
      exact new_pick (vs := vs) (xs := xs) (as := as') T st₂ hr ((fo.sub (hsub.trans (List.sublist_cons_self _ _))).shared) (Nat.le_trans (List.length_take_le' _ _) (by simpa using sz)) h' hQ
  · exact h'.elim

theorem sem_from {e i : Expr} {a k : X} {p pos : Pos} (he : SemE fname sc e a) (hk : SemE fname sc i k) : SemE fname sc (.Subscript e (.Slice (some i) none none p) pos) (.from a k) := by
  intro g Φ n F A s ρ fp K Q E T h hQ
  conv at h => whnf
  refine Subscript_ (he g Φ n F A s ρ fp _ _ E T h fun v s₁ x f as hk' st r fo => wpAny_Slice (hk g Φ n F A s₁ ρ fp _ _ E (T.step st) hk' fun w s₂ y f' bs h' st' r' fo' => wpAny_pure (wpAny_pure ?_)))
  have st₂ := st.trans st'
  have r₂ := r.ext st'.ext
  split at h'
  · rename_i xs j
    cases r'
    cases r₂ with
    | @list b o vs en _ as' e1 c di dt sz it =>
      have hl : vs.size = xs.length := by simpa using it.length
      refine tail_any (T := "list") ⟨_, Heap.get?_push_of_some _ e1, c⟩ slot_list_getitem.lookup ?_ rfl
      refine wpAny_getItem_list_slice (l := b) ⟨_, Heap.get?_push_of_some _ e1, c, _, dt⟩ (Heap.IsSliceOf.new ..) (.int _ _) .none .none (by simp) ?_ sz
      rw [pick_from, hl]
      obtain ⟨cs, hr, hsub⟩ := it.sub (cut xs.length j) xs.length
      rw [List.take_of_length_le (by simp; omega), List.take_of_length_le (by simp)] at hr
      exact new_pick (vs := vs) (xs := xs) (as := as') T st₂ hr ((fo.sub (hsub.trans (List.sublist_cons_self _ _))).shared) (by simp; omega) h' hQ
  · exact h'.elim
end
end Mine
set_option Elab.async false
set_option maxRecDepth 100000
set_option linter.unusedVariables false
namespace Mine
open PySem PySem.Calls PyProof.Rows

noncomputable def FlowIs (F : Fm) (h : Heap) : Fl → Flow → Prop
  | .next, .next => True
  | .brk, .brk => True
  | .cont, .cont => True
  | .ret d fr, .ret v => ∃ as, Rp h v d as ∧ (fr = true → as.Nodup ∧ ∀ a ∈ as, F.H a = none)
  | _, _ => False

theorem Later.refl (s : Shared) : Later s s := ⟨s.heap, s.toks, rfl⟩
theorem Later.trans {s₁ s₂ s₃ : Shared} (x : Later s₁ s₂) (y : Later s₂ s₃) : Later s₁ s₃ := by
  obtain ⟨h, tk, rfl⟩ := x; obtain ⟨h', tk', rfl⟩ := y; exact ⟨h', tk', rfl⟩
theorem Step.later {g : Gx} {s s' : Shared} (x : Step g s s') : Later s s' := by obtain ⟨h, tk, rfl, _⟩ := x; exact ⟨h, tk, rfl⟩

noncomputable def SemS (fname : Nat → Str) (sc : Scope) (st : Stmt) (x : S) : Prop :=
  ∀ (g : Gx) (Φ : Calls) (n : Nat) (F : Fm) (A : Around) (s : Shared) (ρ : Vars) (fp : Nat → List Addr) (Q : Fl → Vars → Prop) (R : Flow → Shared → Prop) (E : Value → Shared → Prop),
    At fname g Φ n F sc A s ρ fp → wS Φ x Q ρ →
    (∀ fl fl' s' ρ' fp', Q fl ρ' → FlowIs F s'.heap fl fl' → Later s s' → Rel g F sc s'.heap ρ' fp' → R fl' s') →
    wpAny (model g.p g.w) A (exec st (F.env sc)) R E s
noncomputable def SemSs (fname : Nat → Str) (sc : Scope) (st : List Stmt) (x : Ss) : Prop :=
  ∀ (g : Gx) (Φ : Calls) (n : Nat) (F : Fm) (A : Around) (s : Shared) (ρ : Vars) (fp : Nat → List Addr) (Q : Fl → Vars → Prop) (R : Flow → Shared → Prop) (E : Value → Shared → Prop),
    At fname g Φ n F sc A s ρ fp → wSs Φ x Q ρ →
    (∀ fl fl' s' ρ' fp', Q fl ρ' → FlowIs F s'.heap fl fl' → Later s s' → Rel g F sc s'.heap ρ' fp' → R fl' s') →
    wpAny (model g.p g.w) A (execs st (F.env sc)) R E s

theorem dem_get : ∀ (u : List Nat) (ρ : Vars) (j : Nat), (∀ d, (dem ρ u)[j]? = some (.own d) → ρ[j]? = some (.own d) ∧ j ∉ u) ∧ (∀ d, (dem ρ u)[j]? = some (.val d) → ρ[j]? = some (.val d) ∨ ρ[j]? = some (.own d)) ∧
    (∀ d, (ρ[j]? = some (.val d) ∨ ρ[j]? = some (.own d)) → (dem ρ u)[j]? = some (.val d) ∨ (dem ρ u)[j]? = some (.own d)) ∧ (dem ρ u).length = ρ.length
  | [], ρ, j => ⟨fun d h => ⟨h, fun q => (nomatch q)⟩, fun d h => .inl h, fun d h => h, rfl⟩
  | i :: u, ρ, j => by
    unfold dem
    split
    · rename_i d hi
      obtain ⟨h1, h2, h3, h4⟩ := dem_get u (ρ.set i (.val d)) j
      have hlt : i < ρ.length := by rw [List.getElem?_eq_some_iff] at hi; exact hi.1
      by_cases hij : j = i
      · subst hij
        have e : (ρ.set j (.val d))[j]? = some (.val d) := by simp [hlt]
        refine ⟨fun e' h => ?_, fun e' h => ?_, fun e' h => ?_, by simpa using h4⟩
        · have := (h1 e' h).1; rw [e] at this; cases this
        · rcases h2 e' h with q | q <;> rw [e] at q <;> cases q
          exact .inr hi
        · have hd : e' = d := by rcases h with q | q <;> rw [hi] at q <;> cases q; rfl
          subst hd
          exact h3 e' (.inl e)
      · have e : (ρ.set i (.val d))[j]? = ρ[j]? := by simp [List.getElem?_set, Ne.symm hij]
        rw [e] at h1 h2 h3
        refine ⟨fun e' h => ⟨(h1 e' h).1, fun q => ?_⟩, h2, h3, by simpa using h4⟩
        rcases List.mem_cons.mp q with q | q
        · exact hij q
        · exact (h1 e' h).2 q
    · rename_i hno
      obtain ⟨h1, h2, h3, h4⟩ := dem_get u ρ j
      refine ⟨fun e' h => ⟨(h1 e' h).1, fun q => ?_⟩, h2, h3, h4⟩
      rcases List.mem_cons.mp q with q | q
      · subst q; exact hno _ (h1 e' h).1
      · exact (h1 e' h).2 q

section
variable {fname : Nat → Str} {g : Gx} {Φ : Calls} {n : Nat} {F : Fm} {sc : Scope} {A : Around} {s s' : Shared} {ρ : Vars} {fp : Nat → List Addr} {h h' : Heap}

theorem Rel.dem (R : Rel g F sc h ρ fp) (u : List Nat) : Rel g F sc h (dem ρ u) fp where
  stays := R.stays
  held := R.held
  frames := R.frames
  ns := R.ns
  hL := R.hL
  cells := R.cells
  cnd := R.cnd
  ccov := R.ccov
  len := (dem_get u ρ 0).2.2.2.trans R.len
  nd := R.nd
  vars := fun i d e => R.vars i d (by
    rcases e with e | e
    · exact (dem_get u ρ i).2.1 d e
    · exact .inr ((dem_get u ρ i).1 d e).1)
  nofp := fun i e => R.nofp i fun d => ⟨fun q => by rcases (dem_get u ρ i).2.2.1 d (.inl q) with q | q; exact (e d).1 q; exact (e d).2 q, fun q => by rcases (dem_get u ρ i).2.2.1 d (.inr q) with q | q; exact (e d).1 q; exact (e d).2 q⟩
  own := fun i d e => R.own i d ((dem_get u ρ i).1 d e).1

noncomputable def Priv (F : Fm) (b : Addr) : Prop := b = F.L ∨ ∃ p ∈ F.cl, b = p.2

structure Stored (F : Fm) (sc : Scope) (h h' : Heap) (x : Str) (v : Value) : Prop where
  is : VarIs (F.env sc) h' x v
  oth : ∀ y w, y ≠ x → VarIs (F.env sc) h y w → VarIs (F.env sc) h' y w
  keep : ∀ b o, h.get? b = some o → ¬ Priv F b → h'.get? b = some o
  ns : ∃ m, h'.Ns F.L m
  cells : ∀ p ∈ F.cl, ∃ o v, h'.get? p.2 = some o ∧ o.data = .cell v

theorem Rel.privData (R : Rel g F sc h ρ fp) {b : Addr} (hb : Priv F b) {o : Obj} (e : h.get? b = some o) : ∀ vs n, o.data ≠ .seq vs n := by
  intro vs k hd
  rcases hb with rfl | ⟨p, hp, rfl⟩
  · obtain ⟨m, o', es, ep, ho, hd', _⟩ := R.ns
    rw [e] at ho; cases ho; rw [hd] at hd'; cases hd'
  · obtain ⟨_, _, o', v, ho, hd'⟩ := R.cells p hp
    rw [e] at ho; cases ho; rw [hd] at hd'; cases hd'

theorem Rel.stayBut (R : Rel g F sc h ρ fp) (k : ∀ b o, h.get? b = some o → ¬ Priv F b → h'.get? b = some o) : StayBut (Priv F) h h' :=
  ⟨fun b o e hb => .inl (k b o e hb), fun b o hb e => .inr (R.privData hb e)⟩
theorem Rel.rpStay (R : Rel g F sc h ρ fp) (k : ∀ b o, h.get? b = some o → ¬ Priv F b → h'.get? b = some o) {v d as} (r : Rp h v d as) : Rp h' v d as :=
  r.stay (R.stayBut k) fun a ha hb => by
    obtain ⟨o, vs, m, e, _, _, hd, _⟩ := r.mem a ha
    exact R.privData hb e vs m hd

theorem FunFrames.data {base : Heap} (k : ∀ b o, h.get? b = some o → (∀ vs, o.data ≠ .fields vs) → ∃ o', h'.get? b = some o' ∧ ∀ vs, o'.data ≠ .fields vs) : ∀ {l : List Env}, h.FunFrames base l → h'.FunFrames base l
  | [], _ => trivial
  | env :: l, hl => by
    obtain ⟨hk, ⟨L, o, hf, hn, ho, hd⟩, hr⟩ := hl
    obtain ⟨o', ho', hd'⟩ := k L o ho hd
    exact ⟨hk, ⟨L, o', hf, hn, ho', hd'⟩, FunFrames.data k hr⟩

theorem Rel.baseL (R : Rel g F sc h ρ fp) : g.base.get? F.L = none := by
  obtain ⟨_, ⟨L, o, hf, hn, _⟩, _⟩ := R.frames
  cases hf; exact hn

theorem slots_ne {xs : List Str} (nd : xs.Nodup) {i j : Nat} {x y : Str} (hx : xs[i]? = some x) (hy : xs[j]? = some y) (h : j ≠ i) : y ≠ x := by
  rw [List.getElem?_eq_some_iff] at hx hy
  obtain ⟨hi, hx⟩ := hx
  obtain ⟨hj, hy⟩ := hy
  intro e
  have pw := List.pairwise_iff_getElem.mp nd
  rcases Nat.lt_or_gt_of_ne h with q | q
  · exact pw j i hj hi q (by rw [hx, hy, e])
  · exact pw i j hi hj q (by rw [hx, hy, e])

theorem Rel.put (R : Rel g F sc h ρ fp) {x : Str} {i : Nat} {v : Value} {d : D} {as : List Addr} {c : Cell} (hx : (slots sc)[i]? = some x) (S : Stored F sc h h' x v) (r : Rp h v d as) (hc : c = .val d ∨ c = .own d)
    (hown : ∀ j e, j ≠ i → ρ[j]? = some (.own e) → ∀ a ∈ as, a ∉ fp j) (hnew : c = .own d → as.Nodup ∧ (∀ a ∈ as, F.H a = none ∧ g.base.get? a = none) ∧ ∀ j, j ≠ i → ∀ a ∈ as, a ∉ fp j) :
    Rel g F sc h' (ρ.set i c) (fun j => if j = i then as else fp j) := by
  have hlt : i < ρ.length := by rw [R.len]; rw [List.getElem?_eq_some_iff] at hx; exact hx.1
  have hi : (ρ.set i c)[i]? = some c := by simp [hlt]
  have hj : ∀ j, j ≠ i → (ρ.set i c)[j]? = ρ[j]? := fun j hne => by simp [List.getElem?_set, Ne.symm hne]
  refine ⟨fun b o e => S.keep b o (R.stays b o e) ?_, fun b o e => ?_, FunFrames.data (fun b o e hd => ?_) R.frames, S.ns, R.hL, fun p hp => ?_, R.cnd, R.ccov, by simpa using R.len, R.nd, fun j e he => ?_, fun j e => ?_, fun j e he => ?_⟩
  · rintro (rfl | ⟨p, hp, rfl⟩)
    · rw [R.baseL] at e; cases e
    · rw [(R.cells p hp).2.1] at e; cases e
  · have hb : ¬ Priv F b := by
      rintro (rfl | ⟨p, hp, rfl⟩)
      · rw [R.hL] at e; cases e
      · rw [(R.cells p hp).1] at e; cases e
    rcases R.held b o e with q | ⟨hd, sl, q⟩
    · exact .inl (S.keep b o q hb)
    · exact .inr ⟨hd, sl, S.keep b _ q hb⟩
  · by_cases hb : Priv F b
    · rcases hb with rfl | ⟨p, hp, rfl⟩
      · obtain ⟨m, o', es, ep, ho, hd', _⟩ := S.ns
        exact ⟨o', ho, fun vs q => by rw [hd'] at q; cases q⟩
      · obtain ⟨o', w, ho, hd'⟩ := S.cells p hp
        exact ⟨o', ho, fun vs q => by rw [hd'] at q; cases q⟩
    · exact ⟨o, S.keep b o e hb, hd⟩
  · obtain ⟨a, b, _⟩ := R.cells p hp
    exact ⟨a, b, S.cells p hp⟩
  · by_cases hne : j = i
    · subst hne
      rw [hi] at he
      have he' : e = d := by rcases hc with q | q <;> rcases he with p | p <;> rw [q] at p <;> cases p <;> rfl
      subst he'
      rw [if_pos rfl]
      exact ⟨x, v, hx, S.is, R.rpStay S.keep r⟩
    · rw [hj j hne] at he
      rw [if_neg hne]
      obtain ⟨y, w, hy, hv, hr⟩ := R.vars j e he
      exact ⟨y, w, hy, S.oth y w (slots_ne R.nd hx hy hne) hv, R.rpStay S.keep hr⟩
  · by_cases hne : j = i
    · subst hne
      rw [hi] at e
      rcases hc with q | q
      · exact absurd (congrArg some q) (e d).1
      · exact absurd (congrArg some q) (e d).2
    · rw [hj j hne] at e
      rw [if_neg hne]; exact R.nofp j e
  · by_cases hne : j = i
    · subst hne
      rw [hi] at he
      have hcd : c = .own d := by
        rcases hc with q | q
        · rw [q] at he; cases he
        · exact q
      have q := hnew hcd
      simp only [if_true]
      refine ⟨q.1, q.2.1, fun k hk a ha => ?_⟩
      rw [if_neg hk]; exact q.2.2 k hk a ha
    · rw [hj j hne] at he
      simp only [if_neg hne]
      obtain ⟨o1, o2, o3⟩ := R.own j e he
      refine ⟨o1, o2, fun k hk a ha => ?_⟩
      by_cases hki : k = i
      · rw [if_pos hki]; exact fun q => hown j e hne he a q ha
      · rw [if_neg hki]; exact o3 k hk a ha

theorem mem_of_look : ∀ {l : List (Str × Addr)} {u : Str} {k : Addr}, l.lookup u = some k → (u, k) ∈ l
  | [], _, _, e => by cases e
  | (z, w) :: r, u, k, e => by
    rw [List.lookup_cons] at e
    by_cases h : (u == z) = true
    · simp only [h] at e; cases e; rw [beq_iff_eq.mp h]; exact .head _
    · simp only [h] at e; exact .tail _ (mem_of_look e)

theorem cells_ne (nd : (F.cl.map (·.2)).Nodup) : ∀ {x y : Str} {c c' : Addr}, F.cl.lookup x = some c → F.cl.lookup y = some c' → y ≠ x → c' ≠ c := by
  have key : ∀ (l : List (Str × Addr)), (l.map (·.2)).Nodup → ∀ {x y : Str} {c c' : Addr}, l.lookup x = some c → l.lookup y = some c' → y ≠ x → c' ≠ c := by
    intro l
    induction l with
    | nil => intro _ x y c c' h; cases h
    | cons p r ih =>
      obtain ⟨z, w⟩ := p
      intro nd x y c c' hx hy hne
      simp only [List.map_cons, List.nodup_cons] at nd
      have memOf : ∀ {u : Str} {k : Addr}, r.lookup u = some k → k ∈ r.map (·.2) := by
        intro u k hk
        exact List.mem_map.mpr ⟨(u, k), mem_of_look hk, rfl⟩
      rw [List.lookup_cons] at hx hy
      by_cases h1 : (x == z) = true
      · simp only [h1] at hx
        cases hx
        by_cases h2 : (y == z) = true
        · exact absurd ((beq_iff_eq.mp h2).trans (beq_iff_eq.mp h1).symm) hne
        · simp only [h2] at hy
          intro q; subst q; exact nd.1 (memOf hy)
      · simp only [h1] at hx
        by_cases h2 : (y == z) = true
        · simp only [h2] at hy
          cases hy
          intro q; subst q; exact nd.1 (memOf hx)
        · simp only [h2] at hy
          exact ih nd.2 hx hy hne
  intro x y c c' h1 h2 h3
  exact key F.cl nd h1 h2 h3

theorem store0 {x : Str} {i : Nat} {v : Value} {R : Unit → Shared → Prop} {E : Value → Shared → Prop} (hkd : sc.kind = .function) (Rl : Rel g F sc s.heap ρ fp) (hk : sc.names.lookup x = some .local ∨ sc.names.lookup x = some .cell)
    (hR : ∀ h' tk, Stored F sc s.heap h' x v → R () { s with heap := h', toks := tk }) : wpAny (model g.p g.w) A (storeName (F.env sc) x v) R E s := by
  rcases hk with hk | hk
  · obtain ⟨m, hn⟩ := Rl.ns
    have hp : ((F.env sc).scope.kind == .class || ((F.env sc).scope.kind == .module && (F.env sc).locals != (F.env sc).globals)) = false := by
      show (sc.kind == .class || (sc.kind == .module && F.L != mainGlobals)) = false
      rw [hkd]; rfl
    refine wpAny_storeName_local hk hn (fun h' hn' hs => hR h' _ ?_) hp
    have keep : ∀ b o, s.heap.get? b = some o → ¬ Priv F b → h'.get? b = some o := fun b o e hb => (hs.2 b fun q => hb (.inl q)).trans e
    have hcl : ∀ p ∈ F.cl, p.2 ≠ F.L := fun p hp q => by
      obtain ⟨_, _, o, w, ho, hd⟩ := Rl.cells p hp
      obtain ⟨o', es, ep, ho', hd', _⟩ := hn
      rw [q, ho'] at ho; cases ho; rw [hd'] at hd; cases hd
    refine ⟨.inl ⟨hk, _, hn', by simp⟩, fun y w hne hv => ?_, keep, ⟨_, hn'⟩, fun p hp => ?_⟩
    · rcases hv with ⟨hl, m', hm', hv'⟩ | ⟨hl, c, o, h1, h2, h3⟩
      · refine .inl ⟨hl, _, hn', ?_⟩
        rw [if_neg hne]
        obtain ⟨o, es, ep, ho, hd, _, hf⟩ := hn
        obtain ⟨o', es', ep', ho', hd', _, hf'⟩ := hm'
        rw [show (F.env sc).locals = F.L from rfl, ho] at ho'
        cases ho'
        rw [hd] at hd'; cases hd'
        rw [← hf, hf', hv']
      · exact .inr ⟨hl, c, o, h1, (hs.2 c (hcl _ (mem_of_look h1))).trans h2, h3⟩
    · obtain ⟨_, _, o, w, ho, hd⟩ := Rl.cells p hp
      exact ⟨o, w, (hs.2 p.2 (hcl p hp)).trans ho, hd⟩
  · obtain ⟨c, hc⟩ := Rl.ccov x hk
    obtain ⟨_, _, o, v₀, ho, hd⟩ := Rl.cells _ (mem_of_look hc)
    refine wpAny_storeName_cell hkd hk hc ⟨o, ho, hd⟩ fun h' hn' hs => hR h' s.toks ?_
    obtain ⟨o', ho', hd'⟩ := hn'
    have keep : ∀ b o, s.heap.get? b = some o → ¬ Priv F b → h'.get? b = some o := fun b o e hb => (hs.2 b fun q => hb (.inr ⟨_, mem_of_look hc, q⟩)).trans e
    have hcL : c ≠ F.L := fun q => by
      obtain ⟨m, o2, es, ep, ho2, hd2, _⟩ := Rl.ns
      rw [← q, ho] at ho2; cases ho2; rw [hd] at hd2; cases hd2
    obtain ⟨m, hn⟩ := Rl.ns
    refine ⟨.inr ⟨hk, c, o', hc, ho', hd'⟩, fun y w hne hv => ?_, keep, ⟨m, hn.sameBut hs (Ne.symm hcL)⟩, fun p hp => ?_⟩
    · rcases hv with ⟨hl, m', hm', hv'⟩ | ⟨hl, c', o2, h1, h2, h3⟩
      · exact .inl ⟨hl, m', Heap.Ns.sameBut hm' hs (Ne.symm hcL), hv'⟩
      · exact .inr ⟨hl, c', o2, h1, (hs.2 c' (cells_ne Rl.cnd hc h1 hne)).trans h2, h3⟩
    · by_cases q : p.2 = c
      · rw [q]; exact ⟨o', _, ho', hd'⟩
      · obtain ⟨_, _, o2, w, ho2, hd2⟩ := Rl.cells p hp
        exact ⟨o2, w, (hs.2 p.2 q).trans ho2, hd2⟩

theorem store_rule {x : Str} {i : Nat} {v : Value} {R : Unit → Shared → Prop} {E : Value → Shared → Prop} (T : At fname g Φ n F sc A s ρ fp) (hk : sc.names.lookup x = some .local ∨ sc.names.lookup x = some .cell)
    (hR : ∀ h' tk, Stored F sc s.heap h' x v → R () { s with heap := h', toks := tk }) : wpAny (model g.p g.w) A (storeName (F.env sc) x v) R E s :=
  store0 (i := i) T.kind T.rel hk hR

theorem Rel.asg {s₀ : Shared} (R₀ : Rel g F sc s₀.heap ρ fp) (R : Rel g F sc h ρ fp) (x : Ext s₀.heap h) {y : Str} {i : Nat} {v : Value} {d : D} {f : Fg} {as : List Addr} (hx : (slots sc)[i]? = some y) (S : Stored F sc h h' y v) (r : Rp h v d as) (fo : FgOk ρ fp s₀.heap f as) :
    Rel g F sc h' (Mine.asg ρ i d f) (fun j => if j = i then as else fp j) := by
  unfold Mine.asg
  split
  · rename_i hi
    have e := r.imm hi
    subst e
    exact R.put hx S r (.inl rfl) (fun _ _ _ _ _ ha => (nomatch ha)) fun q => (nomatch q)
  · split
    · rename_i hf
      have q := fo.2 hf.1
      rw [hf.2] at q
      have fresh : ∀ a ∈ as, s₀.heap.get? a = none := fun a ha => by
        rcases q.1 a ha with q | ⟨j, hj, _⟩
        · exact q
        · cases hj
      have hdis : ∀ j, ∀ a ∈ as, a ∉ fp j := fun j a ha q => by
        obtain ⟨o, _, _, e, _⟩ := R₀.fp_there j a q
        rw [fresh a ha] at e; cases e
      refine R.put hx S r (.inr rfl) (fun j _ _ _ => hdis j) fun _ => ⟨q.2.1 List.nodup_nil, fun a ha => ⟨?_, ?_⟩, fun j _ => hdis j⟩
      · cases hq : F.H a with
        | none => rfl
        | some o => rcases R₀.held a o hq with e | ⟨_, _, e⟩ <;> rw [fresh a ha] at e <;> cases e
      · cases hq : g.base.get? a with
        | none => rfl
        | some o => have e := R₀.stays a o hq; rw [fresh a ha] at e; cases e
    · refine (R.dem f.u).put hx S r (.inl rfl) (fun j e _ hj a ha => ?_) fun q => (nomatch q)
      have := (dem_get f.u ρ j).1 e hj
      exact fo.1 j e this.1 this.2 a ha

noncomputable def noComp : Expr → Bool
  | .ListComp .. | .SetComp .. | .DictComp .. => false
  | _ => true
theorem swaps_no {e : Expr} (h : noComp e = true) (t : Option Expr) (l : Nat) (env : Env) : swapsWith e t l env = pure false := by
  cases e <;> first | rfl | cases h

theorem sem_assign {x : Str} {p pos : Pos} {e : Expr} {a : X} {i : Nat} (hx : (slots sc)[i]? = some x) (hk : sc.names.lookup x = some .local ∨ sc.names.lookup x = some .cell) (hn : noComp e = true) (he : SemE fname sc e a) :
    SemS fname sc (.Assign [.Name x p] e pos) (.assign i a) := by
  intro g Φ n F A s ρ fp Q R E T h hR
  conv at h => whnf
  refine wpAny_Assign_Name (he g Φ n F A s ρ fp _ _ E T h fun v s₁ d f as hq st r fo => store_rule (i := i) (T.step st) hk fun h' tk S => ?_) (swaps_no hn _ _ _)
  have R' := Rel.asg T.rel (T.step st).rel st.ext hx S r fo
  exact hR _ _ _ _ _ hq trivial (st.later.trans ⟨_, _, rfl⟩) R'

theorem not_interactive (T : At fname g Φ n F sc A s ρ fp) : interactive (F.env sc) = false := by
  show (sc.kind == .module && _) = false
  rw [T.kind]; rfl

theorem sem_expr {e : Expr} {a : X} {pos : Pos} (hn : noComp e = true) (he : SemE fname sc e a) : SemS fname sc (.Expr e pos) (.expr a) := by
  intro g Φ n F A s ρ fp Q R E T h hR
  conv at h => whnf
  exact wpAny_Expr_any (he g Φ n F A s ρ fp _ _ E T h fun v s₁ d f as hq st r fo => hR .next .next s₁ _ fp hq trivial st.later (T.step st).rel) (not_interactive T) (swaps_no hn _ _ _)

theorem sem_if {t : Expr} {b o : List Stmt} {x : X} {y z : Ss} {pos : Pos} (ht : SemT fname sc t x) (hb : SemSs fname sc b y) (ho : SemSs fname sc o z) : SemS fname sc (.If t b o pos) (.ite x y z) := by
  intro g Φ n F A s ρ fp Q R E T h hR
  conv at h => whnf
  refine wpAny_If (ht g Φ n F A s ρ fp (fun r => br r (wSs Φ y Q ρ) (wSs Φ z Q ρ)) _ E T h fun r s₁ hk st => ?_)
  cases r
  · exact ho g Φ n F A s₁ ρ fp Q R E (T.step st) hk fun fl fl' s' ρ' fp' a b c d => hR fl fl' s' ρ' fp' a b (st.later.trans c) d
  · exact hb g Φ n F A s₁ ρ fp Q R E (T.step st) hk fun fl fl' s' ρ' fp' a b c d => hR fl fl' s' ρ' fp' a b (st.later.trans c) d

theorem sem_ret {e : Expr} {a : X} {pos : Pos} (he : SemE fname sc e a) : SemS fname sc (.Return (some e) pos) (.ret a) := by
  intro g Φ n F A s ρ fp Q R E T h hR
  conv at h => whnf
  refine wpAny_Return_some (he g Φ n F A s ρ fp _ _ E T h fun v s₁ d f as hq st r fo => hR _ (.ret v) s₁ _ fp hq ⟨as, r, fun hfr => ?_⟩ st.later (T.step st).rel)
  have hfr' : f.sh = false ∧ f.u.Nodup := by simpa using hfr
  obtain ⟨q1, q2, q3⟩ := fo.2 hfr'.1
  refine ⟨q2 hfr'.2, fun a ha => ?_⟩
  rcases q1 a ha with q | ⟨j, hj, q⟩
  · cases hq : F.H a with
    | none => rfl
    | some o => rcases T.rel.held a o hq with e | ⟨_, _, e⟩ <;> rw [q] at e <;> cases e
  · obtain ⟨d', hd'⟩ := q3 j hj
    exact ((T.rel.own j d' hd').2.1 a q).1

theorem sem_snil : SemSs fname sc [] .nil := by
  intro g Φ n F A s ρ fp Q R E T h hR
  conv at h => whnf
  exact wpAny_execs_nil (hR _ _ _ _ fp h trivial (.refl s) T.rel)
theorem At.rel' (T : At fname g Φ n F sc A s ρ fp) {ρ' : Vars} {fp' : Nat → List Addr} (R : Rel g F sc s'.heap ρ' fp') : At fname g Φ n F sc A s' ρ' fp' := ⟨T.gd, T.fns, T.named, T.kind, T.plain, T.room, R⟩
theorem sem_scons {st : Stmt} {r : List Stmt} {x : S} {y : Ss} (hs : SemS fname sc st x) (hr : SemSs fname sc r y) : SemSs fname sc (st :: r) (.cons x y) := by
  intro g Φ n F A s ρ fp Q R E T h hR
  conv at h => whnf
  refine wpAny_execs_cons (hs g Φ n F A s ρ fp _ _ E T h fun fl fl' s' ρ' fp' hq hf hl hrel => ?_)
  cases fl with
  | next =>
    cases fl' with
    | next => exact hr g Φ n F A s' ρ' fp' Q R E (T.rel' hrel) hq fun fl fl' s'' ρ'' fp'' a b c d => hR fl fl' s'' ρ'' fp'' a b (hl.trans c) d
    | _ => exact hf.elim
  | brk => cases fl' with
    | brk => exact hR _ _ _ _ _ hq trivial hl hrel
    | _ => exact hf.elim
  | cont => cases fl' with
    | cont => exact hR _ _ _ _ _ hq trivial hl hrel
    | _ => exact hf.elim
  | ret d fr => cases fl' with
    | ret v => exact hR _ _ _ _ _ hq hf hl hrel
    | _ => exact hf.elim
end
end Mine
set_option Elab.async false
set_option maxRecDepth 100000
set_option linter.unusedVariables false
namespace Mine
open PySem PySem.Calls PyProof.Rows

section
variable {fname : Nat → Str} {g : Gx} {Φ : Calls} {n : Nat} {F : Fm} {sc : Scope} {A : Around} {s s' : Shared} {ρ : Vars} {fp : Nat → List Addr} {h h' : Heap}

theorem append_heap {l : Addr} {x : Value} {o : Obj} {vs : Array Value} {k : Nat} {Q E : Value → Shared → Prop} (ho : s.heap.get? l = some o) (hc : o.cls = .type "list") (hd : o.data = .seq vs k) (hz : vs.size ≤ sizeLine)
    (hQ : Q .none { s with heap := s.heap.update l (Obj.mapSeq (·.push x)) }) : wpAny (model g.p g.w) A (call (.builtin "list.append") [.ref l, x]) Q E s := by
  refine wpAny_call_entry slot_list_append ⟨o, ho, hc⟩ entry_list_append ?_ (args_list_append _ _)
  show wpAny _ _ (updateSeq l (·.push x) >>= fun _ => ret .none) _ _ s
  exact wpAny_bind (wpAny_updateSeq ho hd (wpAny_pure ⟨.none, rfl, hQ⟩) hz (by simp; omega))

theorem Rel.mutate (R : Rel g F sc h ρ fp) {i : Nat} {a : Addr} {as as' : List Addr} {xs xs' : List D} {o' : Obj} {vs' : Array Value} {k' : Nat} (hi : ρ[i]? = some (.own (.list xs))) (hf : fp i = a :: as)
    (hs : Heap.SameBut a h h') (ho' : h'.get? a = some o') (hc : o'.cls = .type "list") (hdi : o'.dict = none) (hd : o'.data = .seq vs' k') (hz : vs'.size ≤ sizeLine) (r : Rps h vs'.toList xs' as')
    (hnd : (a :: as').Nodup) (hH : ∀ b ∈ as', F.H b = none ∧ g.base.get? b = none) (hdis : ∀ j, j ≠ i → ∀ b ∈ as', b ∉ fp j) :
    Rel g F sc h' (ρ.set i (.own (.list xs'))) (fun j => if j = i then a :: as' else fp j) := by
  obtain ⟨o1, o2, o3⟩ := R.own i _ hi
  obtain ⟨x, v, hx, hv, rv⟩ := R.vars i _ (.inr hi)
  have hva : v = .ref a := by rw [hf] at rv; cases rv; rfl
  have hlt : i < ρ.length := by rw [List.getElem?_eq_some_iff] at hi; exact hi.1
  have hi' : (ρ.set i (.own (.list xs')))[i]? = some (.own (.list xs')) := by simp [hlt]
  have hj : ∀ j, j ≠ i → (ρ.set i (.own (.list xs')))[j]? = ρ[j]? := fun j hne => by simp [Ne.symm hne]
  obtain ⟨ob, vb, kb, eb, cb, db, qb, zb⟩ := R.fp_there i a (by rw [hf]; exact .head _)
  have hLa : F.L ≠ a := fun q => by
    obtain ⟨m, o2, es, ep, ho2, hd2, _⟩ := R.ns
    rw [q, eb] at ho2; cases ho2; rw [qb] at hd2; cases hd2
  have hca : ∀ p ∈ F.cl, p.2 ≠ a := fun p hp q => by
    obtain ⟨_, _, o2, w, ho2, hd2⟩ := R.cells p hp
    rw [q, eb] at ho2; cases ho2; rw [qb] at hd2; cases hd2
  have sb : StayBut (· = a) h h' := ⟨fun b o e hb => .inl ((hs.2 b hb).trans e), fun b o hb e => .inl (by
    rw [show b = a from hb, eb] at e; cases e; rw [cb]; decide)⟩
  have vs_ok : ∀ y w, VarIs (F.env sc) h y w → VarIs (F.env sc) h' y w := by
    intro y w hv
    rcases hv with ⟨hl, m, hm, hv⟩ | ⟨hl, c, o2, h1, h2, h3⟩
    · exact .inl ⟨hl, m, Heap.Ns.sameBut hm hs hLa, hv⟩
    · exact .inr ⟨hl, c, o2, h1, (hs.2 c (hca _ (mem_of_look h1))).trans h2, h3⟩
  have hHa := o2 a (by rw [hf]; exact .head _)
  refine ⟨fun b o e => (hs.2 b fun q => ?_).trans (R.stays b o e), fun b o e => ?_, FunFrames.data (fun b o e hd' => ?_) R.frames, ?_, R.hL, fun p hp => ?_, R.cnd, R.ccov, by simpa using R.len, R.nd, fun j e he => ?_, fun j e => ?_, fun j e he => ?_⟩
  · rw [q, hHa.2] at e; cases e
  · have hb : b ≠ a := fun q => by rw [q, hHa.1] at e; cases e
    rw [hs.2 b hb]; exact R.held b o e
  · by_cases hb : b = a
    · subst hb; exact ⟨o', ho', fun vs q => by rw [hd] at q; cases q⟩
    · exact ⟨o, (hs.2 b hb).trans e, hd'⟩
  · obtain ⟨m, hm⟩ := R.ns; exact ⟨m, hm.sameBut hs hLa⟩
  · obtain ⟨c1, c2, o2, w, c3, c4⟩ := R.cells p hp
    exact ⟨c1, c2, o2, w, (hs.2 p.2 (hca p hp)).trans c3, c4⟩
  · by_cases hne : j = i
    · subst hne
      rw [hi'] at he
      have : e = .list xs' := by rcases he with q | q <;> cases q; rfl
      subst this
      rw [if_pos rfl]
      refine ⟨x, v, hx, vs_ok x v hv, ?_⟩
      rw [hva]
      refine .list ho' hc hdi hd hz (r.stay sb fun b hb q => ?_)
      rw [show b = a from q] at hb
      exact (List.nodup_cons.mp hnd).1 hb
    · rw [hj j hne] at he
      rw [if_neg hne]
      obtain ⟨y, w, hy, hv', hr⟩ := R.vars j e he
      refine ⟨y, w, hy, vs_ok y w hv', hr.stay sb fun b hb q => ?_⟩
      rw [show b = a from q] at hb
      exact o3 j hne a (by rw [hf]; exact .head _) hb
  · by_cases hne : j = i
    · subst hne; rw [hi'] at e; exact absurd rfl (e (.list xs')).2
    · rw [hj j hne] at e; rw [if_neg hne]; exact R.nofp j e
  · by_cases hne : j = i
    · subst hne
      simp only [if_true]
      refine ⟨hnd, fun b hb => ?_, fun k hk b hb => ?_⟩
      · rcases List.mem_cons.mp hb with rfl | hb
        · exact hHa
        · exact hH b hb
      · rw [if_neg hk]
        rcases List.mem_cons.mp hb with rfl | hb
        · exact o3 k hk b (by rw [hf]; exact .head _)
        · exact hdis k hk b hb
    · rw [hj j hne] at he
      simp only [if_neg hne]
      obtain ⟨p1, p2, p3⟩ := R.own j e he
      refine ⟨p1, p2, fun k hk b hb => ?_⟩
      by_cases hki : k = i
      · rw [if_pos hki]
        intro q
        rcases List.mem_cons.mp q with rfl | q
        · exact p3 i (Ne.symm hne) b hb (by rw [hf]; exact .head _)
        · exact hdis j hne b q hb
      · rw [if_neg hki]; exact p3 k hk b hb

theorem load_var {x : Str} {v : Value} {pos : Pos} {Q E : Value → Shared → Prop} (T : At fname g Φ n F sc A s ρ fp) (hv : VarIs (F.env sc) s.heap x v) (hd : (x == ("__debug__" : Str)) = false) (h : Q v s) : wpAny (model g.p g.w) A (eval (.Name x pos) (F.env sc)) Q E s := by
  rcases hv with ⟨hl, m, hn, hm⟩ | ⟨hl, c, o, h1, h2, h3⟩
  · exact wpAny_Name (wpAny_loadName_local T.kind hl hn hm h) hd
  · exact wpAny_Name (wpAny_loadName_cell T.kind hl h1 ⟨o, h2, h3⟩ h) hd

theorem sem_append {x : Str} {p apos pos epos : Pos} {e : Expr} {a : X} {i : Nat} (hx : (slots sc)[i]? = some x) (hd : (x == ("__debug__" : Str)) = false) (hl : (apos.endLine == pos.line) = true) (hs : noStar e = true) (he : SemE fname sc e a) :
    SemS fname sc (.Expr (.Call (.Attribute (.Name x p) "append" apos) [e] [] pos) epos) (.append i a) := by
  intro g Φ n F A s ρ fp Q R E T h hR
  conv at h => whnf
  split at h
  · rename_i xs hi
    obtain ⟨y, v, hy, hv, r⟩ := T.rel.vars i _ (.inr hi)
    rw [hx] at hy; cases hy
    refine wpAny_Expr_any ?_ (not_interactive T) (swaps_no rfl _ _ _)
    refine wpAny_Call_append rfl ?_ hl ?_ ?_
    · rw [starEach_cons hs]; rfl
    · rw [starEach_cons hs]; rfl
    · refine load_var T hv hd ?_
      generalize hfp : fp i = fi at r
      cases r with
      | @list b o vs en _ as' e1 c di dt sz it =>
        refine ⟨b, vs, rfl, ⟨o, en, e1, c, di, dt⟩, he g Φ n F A s ρ fp _ _ E T h fun w s₁ d f bs hk st rw' fo => ?_⟩
        obtain ⟨hsh, hu, hz, hQ⟩ := hk
        obtain ⟨sl', e1'⟩ := st.ext.soft e1
        have hl' : vs.size = xs.length := by simpa using it.length
        have hz' : vs.size + 1 ≤ sizeLine := by rw [hl']; exact hz
        refine append_heap e1' c dt (Nat.le_of_succ_le hz') ?_
        have R₁ := (T.step st).rel
        obtain ⟨k', hd'⟩ := Obj.data_mapSeq (o := { o with slots := sl' }) dt (·.push w)
        have ho' := Heap.get?_update_self (Obj.mapSeq (·.push w)) e1' (by
          obtain ⟨oc, od, odt, osl⟩ := o; simp only at dt; subst dt; rfl)
        have q := fo.2 hsh
        rw [hu] at q
        have fresh : ∀ a ∈ bs, s.heap.get? a = none := fun a ha => by
          rcases q.1 a ha with q | ⟨j, hj, _⟩
          · exact q
          · cases hj
        have hdis : ∀ j, ∀ a ∈ bs, a ∉ fp j := fun j a ha q => by
          obtain ⟨o, _, _, e, _⟩ := T.rel.fp_there j a q
          rw [fresh a ha] at e; cases e
        obtain ⟨o1, o2, o3⟩ := T.rel.own i _ hi
        rw [hfp] at o1 o2 o3
        have nd : (b :: (as' ++ (bs ++ []))).Nodup := by
          rw [List.append_nil]
          obtain ⟨n1, n2⟩ := List.nodup_cons.mp o1
          refine List.nodup_cons.mpr ⟨fun q => ?_, List.nodup_append.mpr ⟨n2, q.2.1 List.nodup_nil, fun a ha a' ha' hab => ?_⟩⟩
          · rcases List.mem_append.mp q with q | q
            · exact n1 q
            · exact hdis i b q (by rw [hfp]; exact .head _)
          · subst hab; exact hdis i a ha' (by rw [hfp]; exact .tail _ ha)
        have R₂ := R₁.mutate hi hfp (Heap.SameBut.update _ _ _) ho' (by cases o; cases c; simp only at dt; subst dt; rfl) (by cases o; cases di; simp only at dt; subst dt; rfl) hd' (by simpa using hz')
          (xs' := xs ++ [d]) (by simpa using Rps.append (it.ext st.ext) (.cons rw' .nil)) nd (fun a ha => ?_) (fun j hj a ha => ?_)
        · exact hR .next .next _ _ _ hQ trivial (st.later.trans ⟨_, _, rfl⟩) R₂
        · rw [List.append_nil] at ha
          rcases List.mem_append.mp ha with ha | ha
          · exact o2 a (.tail _ ha)
          · refine ⟨?_, ?_⟩
            · cases hq : F.H a with
              | none => rfl
              | some o => rcases T.rel.held a o hq with e | ⟨_, _, e⟩ <;> rw [fresh a ha] at e <;> cases e
            · cases hq : g.base.get? a with
              | none => rfl
              | some o => have e := T.rel.stays a o hq; rw [fresh a ha] at e; cases e
        · rw [List.append_nil] at ha
          rcases List.mem_append.mp ha with ha | ha
          · exact o3 j hj a (.tail _ ha)
          · exact hdis j a ha
  · exact h.elim
end
end Mine
set_option Elab.async false
set_option maxRecDepth 100000
set_option linter.unusedVariables false
namespace Mine
open PySem PySem.Calls PyProof.Rows

section
variable {fname : Nat → Str} {g : Gx} {Φ : Calls} {n : Nat} {F : Fm} {sc : Scope} {A : Around} {s s' : Shared} {ρ : Vars} {fp : Nat → List Addr} {h h' : Heap}

theorem sem_while {t : Expr} {b : List Stmt} {x : X} {y : Ss} {pos : Pos} (ht : SemT fname sc t x) (hb : SemSs fname sc b y) : SemS fname sc (.While t b [] pos) (.whil x y) := by
  intro g Φ n F A s ρ fp Q R E T h hR
  conv at h => whnf
  obtain ⟨I, ⟨k, hk⟩, hI⟩ := h
  refine wpAny_While (codeAny_whileLoop (fun k s' => ∃ σ fp', I k σ ∧ Later s s' ∧ Rel g F sc s'.heap σ fp') (fun k s' hs => ?_) k ⟨ρ, fp, hk, .refl s, T.rel⟩)
  obtain ⟨σ, fp', hσ, hl, hrel⟩ := hs
  have T' := T.rel' hrel
  have hw := hI k σ hσ
  rw [wT] at hw
  refine ht g Φ n F A s' σ fp' (fun r => br r (wSs Φ y (fun fl τ => match fl with | .next | .cont => ∃ m, m < k ∧ I m τ | .brk => Q .next τ | .ret d fr => Q (.ret d fr) τ) σ) (Q .next σ)) _ _ T' hw fun r s₁ hr st => ?_
  cases r
  · exact wpAny_execs_nil (hR .next .next _ _ _ hr trivial (hl.trans st.later) (T'.step st).rel)
  · refine hb g Φ n F A s₁ σ fp' _ _ _ (T'.step st) hr fun fl fl' s₂ ρ₂ fp₂ hq hf hl₂ hr₂ => ?_
    have hl₃ := hl.trans (st.later.trans hl₂)
    cases fl with
    | next => cases fl' with
      | next => obtain ⟨m, hm, hIm⟩ := hq; exact ⟨m, hm, ρ₂, fp₂, hIm, hl₃, hr₂⟩
      | _ => exact hf.elim
    | cont => cases fl' with
      | cont => obtain ⟨m, hm, hIm⟩ := hq; exact ⟨m, hm, ρ₂, fp₂, hIm, hl₃, hr₂⟩
      | _ => exact hf.elim
    | brk => cases fl' with
      | brk => exact hR .next .next _ _ _ hq trivial hl₃ hr₂
      | _ => exact hf.elim
    | ret d fr => cases fl' with
      | ret v => exact hR _ _ _ _ _ hq hf hl₃ hr₂
      | _ => exact hf.elim

theorem Rel.fieldsBut (R : Rel g F sc h ρ fp) {I : Addr} (hI : ∃ o vs, h.get? I = some o ∧ o.data = .fields vs) (hH : F.H I = none) (hB : g.base.get? I = none) (k : ∀ b o, b ≠ I → h.get? b = some o → h'.get? b = some o) : Rel g F sc h' ρ fp := by
  obtain ⟨oI, vI, eI, dI⟩ := hI
  have ne : ∀ {b : Addr} {o : Obj}, h.get? b = some o → (∀ vs, o.data ≠ .fields vs) → b ≠ I := fun e hd q => by
    subst q; rw [eI] at e; cases e; exact hd _ dI
  have kn : ∀ b o, h.get? b = some o → (∀ vs, o.data ≠ .fields vs) → h'.get? b = some o := fun b o e hd => k b o (ne e hd) e
  have sb : StayBut (· = I) h h' := ⟨fun b o e hb => .inl (k b o hb e), fun b o hb e => .inr fun vs m q => by
    rw [show b = I from hb, eI] at e; cases e; rw [dI] at q; cases q⟩
  have rp : ∀ {v d as}, Rp h v d as → Rp h' v d as := fun r => r.stay sb fun a ha q => by
    obtain ⟨o, vs, m, e, _, _, hd, _⟩ := r.mem a ha
    exact ne e (fun vs' q' => by rw [hd] at q'; cases q') q
  have nsk : ∀ {m}, h.Ns F.L m → h'.Ns F.L m := fun hn => by
    obtain ⟨o, es, ep, ho, hd, r⟩ := hn
    exact ⟨o, es, ep, kn _ _ ho (fun vs q => by rw [hd] at q; cases q), hd, r⟩
  refine ⟨fun b o e => k b o (fun q => ?_) (R.stays b o e), fun b o e => ?_, FunFrames.data (fun b o e hd => ⟨o, kn b o e hd, hd⟩) R.frames, ?_, R.hL, fun p hp => ?_, R.cnd, R.ccov, R.len, R.nd, fun i d e => ?_, R.nofp, R.own⟩
  · rw [q, hB] at e; cases e
  · have hb : b ≠ I := fun q => by rw [q, hH] at e; cases e
    rcases R.held b o e with q | ⟨hd, sl, q⟩
    · exact .inl (k b o hb q)
    · exact .inr ⟨hd, sl, k b _ hb q⟩
  · obtain ⟨m, hm⟩ := R.ns; exact ⟨m, nsk hm⟩
  · obtain ⟨c1, c2, o, w, c3, c4⟩ := R.cells p hp
    exact ⟨c1, c2, o, w, kn _ _ c3 (fun vs q => by rw [c4] at q; cases q), c4⟩
  · obtain ⟨y, v, hy, hv, r⟩ := R.vars i d e
    refine ⟨y, v, hy, ?_, rp r⟩
    rcases hv with ⟨hl, m, hm, hv⟩ | ⟨hl, c, o, h1, h2, h3⟩
    · exact .inl ⟨hl, m, nsk hm, hv⟩
    · exact .inr ⟨hl, c, o, h1, kn _ _ h2 (fun vs q => by rw [h3] at q; cases q), h3⟩

noncomputable def Mut (F : Fm) (ρ : Vars) (fp : Nat → List Addr) (b : Addr) : Prop := Priv F b ∨ ∃ j d, ρ[j]? = some (.own d) ∧ b ∈ fp j

theorem Rel.mutH (R : Rel g F sc h ρ fp) {b : Addr} (hm : Mut F ρ fp b) : F.H b = none := by
  rcases hm with (rfl | ⟨p, hp, rfl⟩) | ⟨j, d, hj, hb⟩
  · exact R.hL
  · exact (R.cells p hp).1
  · exact ((R.own j d hj).2.1 b hb).1
theorem Rel.freeze (R : Rel g F sc h ρ fp) : ∃ H', (∀ b o, H' b = some o ↔ h.get? b = some o ∧ ¬ Mut F ρ fp b) ∧ (∀ b, H' b = none → F.H b = none) ∧ Rel g { F with H := H' } sc h ρ fp := by
  classical
  refine ⟨fun b => if Mut F ρ fp b then none else h.get? b, fun b o => ?_, fun b hb => ?_, ?_⟩
  · by_cases hm : Mut F ρ fp b
    · simp [hm]
    · simp [hm]
  · by_cases hm : Mut F ρ fp b
    · exact R.mutH hm
    · simp only [hm, if_false] at hb
      cases hq : F.H b with
      | none => rfl
      | some o => rcases R.held b o hq with e | ⟨_, _, e⟩ <;> rw [hb] at e <;> cases e
  · refine ⟨R.stays, fun b o e => ?_, R.frames, R.ns, ?_, fun p hp => ?_, R.cnd, R.ccov, R.len, R.nd, R.vars, R.nofp, fun i d e => ?_⟩
    · by_cases hm : Mut F ρ fp b
      · simp [hm] at e
      · simp only [hm, if_false] at e; exact .inl e
    · exact if_pos (.inl (.inl rfl))
    · obtain ⟨c1, c2, c3⟩ := R.cells p hp
      exact ⟨if_pos (.inl (.inr ⟨p, hp, rfl⟩)), c2, c3⟩
    · obtain ⟨o1, o2, o3⟩ := R.own i d e
      exact ⟨o1, fun a ha => ⟨if_pos (.inr ⟨i, d, e, ha⟩), (o2 a ha).2⟩, o3⟩

theorem Rel.thaw {H' : Addr → Option Obj} (R : Rel g { F with H := H' } sc h ρ fp) (hH : ∀ b, H' b = none → F.H b = none) (hh : ∀ b o, F.H b = some o → ∃ o', H' b = some o' ∧ (o' = o ∨ ((∀ vs, o.data ≠ .fields vs) ∧ ∃ sl, o' = { o with slots := sl }))) : Rel g F sc h ρ fp := by
  refine ⟨R.stays, fun b o e => ?_, R.frames, R.ns, hH _ R.hL, fun p hp => ?_, R.cnd, R.ccov, R.len, R.nd, R.vars, R.nofp, fun i d e => ?_⟩
  · obtain ⟨o', e', ho⟩ := hh b o e
    rcases ho with rfl | ⟨hd, sl, rfl⟩
    · exact R.held b _ e'
    · rcases R.held b _ e' with q | ⟨_, sl', q⟩
      · exact .inr ⟨hd, sl, q⟩
      · exact .inr ⟨hd, sl', q⟩
  · obtain ⟨c1, c2, c3⟩ := R.cells p hp
    exact ⟨hH _ c1, c2, c3⟩
  · obtain ⟨o1, o2, o3⟩ := R.own i d e
    exact ⟨o1, fun a ha => ⟨hH _ (o2 a ha).1, (o2 a ha).2⟩, o3⟩

structure Source (g : Gx) (A : Around) (I : Addr) (ds : List D) (St : Nat → Heap → Prop) (Z : List Addr) : Prop where
  there : ∀ k h, St k h → ∃ o vs, h.get? I = some o ∧ o.data = .fields vs
  lists : ∀ k h, St k h → ∀ z ∈ Z, ∃ o vs n, h.get? z = some o ∧ o.data = .seq vs n
  frame : ∀ k h h' (M : Addr → Prop), St k h → StayBut M h h' → ¬ M I → (∀ z ∈ Z, ¬ M z) → St k h'
  item : ∀ k (s : Shared) (Q : Option Value → Shared → Prop) (E : Value → Shared → Prop) (d : D), ds[k]? = some d → St k s.heap →
    (∀ v h' tk as, Rp h' v d as → (∀ a ∈ as, a ∈ Z) → St (k + 1) h' → (∀ b o, b ≠ I → s.heap.get? b = some o → h'.get? b = some o) → Q (some v) { s with heap := h', toks := tk }) →
    wpAny (model g.p g.w) A (pyNext (.ref I)) Q E s
  done : ∀ (s : Shared) (Q : Option Value → Shared → Prop) (E : Value → Shared → Prop), St ds.length s.heap →
    (∀ h' tk, (∀ b o, b ≠ I → s.heap.get? b = some o → h'.get? b = some o) → Q none { s with heap := h', toks := tk }) → wpAny (model g.p g.w) A (pyNext (.ref I)) Q E s

theorem for_rule {I : Addr} {ds : List D} {St : Nat → Heap → Prop} {Z : List Addr} {x : Str} {p : Pos} {i : Nat} {body : List Stmt} {y : Ss} {Inv : Nat → Vars → Prop} {Q : Fl → Vars → Prop} {R : Flow → Shared → Prop} {E : Value → Shared → Prop} {s₀ : Shared}
    (Sr : Source g A I ds St Z) (T : At fname g Φ n F sc A s ρ fp) (hl0 : Later s₀ s) (hI : Inv 0 ρ) (st : St 0 s.heap) (hdis : ∀ j d, ρ[j]? = some (.own d) → ∀ z ∈ Z, z ∉ fp j) (hH : F.H I = none) (hB : g.base.get? I = none)
    (hx : (slots sc)[i]? = some x) (hk : sc.names.lookup x = some .local ∨ sc.names.lookup x = some .cell) (hbody : SemSs fname sc body y)
    (hturn : ∀ k σ d, ds[k]? = some d → Inv k σ → wSs Φ y (fun fl τ => match fl with | .next | .cont => Inv (k + 1) τ | .brk => Q .next τ | .ret d fr => Q (.ret d fr) τ) (asg σ i d ⟨true, []⟩))
    (hend : ∀ σ, Inv ds.length σ → Q .next σ)
    (hR : ∀ fl fl' s' ρ' fp', Q fl ρ' → FlowIs F s'.heap fl fl' → Later s₀ s' → Rel g F sc s'.heap ρ' fp' → R fl' s') :
    codeAny (model g.p g.w) A (.forLoop (.Name x p) (.ref I) body [] (F.env sc)) (fun r s' => match r with | .ok f => R f s' | .error e => cameBackBy (model g.p g.w) A (F.env sc) E e s') s := by
  refine codeAny_forLoop (fun m s' => ∃ k σ fp', m = ds.length - k ∧ k ≤ ds.length ∧ Inv k σ ∧ Later s₀ s' ∧ Rel g F sc s'.heap σ fp' ∧ St k s'.heap ∧ ∀ j d, σ[j]? = some (.own d) → ∀ z ∈ Z, z ∉ fp' j)
    (fun m s' hs => ?_) ds.length ⟨0, ρ, fp, rfl, Nat.zero_le _, hI, hl0, T.rel, st, hdis⟩
  obtain ⟨k, σ, fp', rfl, hkl, hσ, hl, hrel, hst, hds⟩ := hs
  by_cases hlt : k < ds.length
  · refine Sr.item k s' _ _ ds[k] (by simp [hlt]) hst fun v h₁ tk as rv hz hst₁ hkeep => ?_
    have R₁ := hrel.fieldsBut (Sr.there k _ hst) hH hB hkeep
    have T₁ : At fname g Φ n F sc A { s' with heap := h₁, toks := tk } σ fp' := T.rel' R₁
    refine wpAny_assign_Name (store_rule (i := i) T₁ hk fun h₂ tk₂ S => ?_)
    have fo : FgOk σ fp' h₁ ⟨true, []⟩ as := ⟨fun j d hj _ a ha q => hds j d hj a (hz a ha) q, fun q => (nomatch q)⟩
    have R₂ := Rel.asg (s₀ := { s' with heap := h₁, toks := tk }) R₁ R₁ (.refl _) (d := ds[k]) (f := ⟨true, []⟩) hx S rv fo
    generalize hfp₂ : (fun j => if j = i then as else fp' j) = fp₂ at R₂
    -- what the store left alone
    have sb₂ : StayBut (Priv F) h₁ h₂ := R₁.stayBut S.keep
    have hI2 : ¬ Priv F I := fun q => by
      obtain ⟨o, vs, e, hd⟩ := Sr.there _ _ hst₁
      rcases q with rfl | ⟨p, hp, rfl⟩
      · obtain ⟨m, o2, es, ep, ho2, hd2, _⟩ := R₁.ns
        rw [e] at ho2; cases ho2; rw [hd] at hd2; cases hd2
      · obtain ⟨_, _, o2, w, ho2, hd2⟩ := R₁.cells p hp
        rw [e] at ho2; cases ho2; rw [hd] at hd2; cases hd2
    have hZ2 : ∀ z ∈ Z, ¬ Priv F z := fun z hz q => by
      obtain ⟨o, vs, m, e, hd⟩ := Sr.lists _ _ hst₁ z hz
      exact R₁.privData q e vs m hd
    have hst₂ := Sr.frame _ _ _ _ hst₁ sb₂ hI2 hZ2
    -- the own cells after the store are own cells before it
    have hown₂ : ∀ j d, (asg σ i ds[k] ⟨true, []⟩)[j]? = some (.own d) → ∀ z ∈ Z, z ∉ fp₂ j := by
      intro j d hj z hz
      have key : j ≠ i ∧ σ[j]? = some (.own d) := by
        have hil : i < σ.length := by rw [hrel.len]; rw [List.getElem?_eq_some_iff] at hx; exact hx.1
        unfold asg at hj
        by_cases hji : j = i
        · subst hji
          split at hj
          · simp [hil] at hj
          · simp [dem, hil] at hj
        · refine ⟨hji, ?_⟩
          split at hj
          · simpa [Ne.symm hji] using hj
          · simpa [dem, Ne.symm hji] using hj
      rw [← hfp₂]
      simp only [if_neg key.1]
      exact hds j d key.2 z hz
    obtain ⟨H', hH1, hH2, R₃⟩ := R₂.freeze
    have T₃ : At fname g Φ n { F with H := H' } sc A { s' with heap := h₂, toks := tk₂ } (asg σ i ds[k] ⟨true, []⟩) fp₂ := ⟨T.gd, T.fns, T.named, T.kind, T.plain, T.room, R₃⟩
    refine hbody g Φ n { F with H := H' } A _ _ fp₂ _ _ _ T₃ (hturn k σ ds[k] (by simp [hlt]) hσ) fun fl fl' s₄ ρ₄ fp₄ hq hf hl₄ hr₄ => ?_
    have hnM : ¬ Mut F (asg σ i ds[k] ⟨true, []⟩) fp₂ I := by
      rintro (q | ⟨j, d, hj, q⟩)
      · exact hI2 q
      · obtain ⟨o, vs, m, e, _, _, hd, _⟩ := R₂.fp_there j I q
        obtain ⟨o', vs', e', hd'⟩ := Sr.there _ _ hst₂
        rw [e] at e'; cases e'; rw [hd] at hd'; cases hd'
    have hnZ : ∀ z ∈ Z, ¬ Mut F (asg σ i ds[k] ⟨true, []⟩) fp₂ z := by
      rintro z hz (q | ⟨j, d, hj, q⟩)
      · exact hZ2 z hz q
      · exact hown₂ j d hj z hz q
    have sb₄ : StayBut (Mut F (asg σ i ds[k] ⟨true, []⟩) fp₂) h₂ s₄.heap := by
      refine ⟨fun b o e hb => hr₄.held b o ((hH1 b o).mpr ⟨e, hb⟩), fun b o hb e => ?_⟩
      rcases hb with q | ⟨j, d, hj, q⟩
      · exact .inr (R₂.privData q e)
      · obtain ⟨o', vs, m, e', hc, _⟩ := R₂.fp_there j b q
        rw [e] at e'; cases e'
        exact .inl (by rw [hc]; decide)
    have hst₄ := Sr.frame _ _ _ _ hst₂ sb₄ hnM hnZ
    have R₄ : Rel g F sc s₄.heap ρ₄ fp₄ := hr₄.thaw hH2 fun b o e => by
      have hnm : ¬ Mut F (asg σ i ds[k] ⟨true, []⟩) fp₂ b := fun q => by rw [R₂.mutH q] at e; cases e
      rcases R₂.held b o e with q | ⟨hd, sl, q⟩
      · exact ⟨o, (hH1 b o).mpr ⟨q, hnm⟩, .inl rfl⟩
      · exact ⟨_, (hH1 b _).mpr ⟨q, hnm⟩, .inr ⟨hd, sl, rfl⟩⟩
    have hl₅ : Later s₀ s₄ := hl.trans (Later.trans ⟨_, _, rfl⟩ hl₄)
    have again : Inv (k + 1) ρ₄ → ∃ m, m < ds.length - k ∧ ∃ k σ fp', m = ds.length - k ∧ k ≤ ds.length ∧ Inv k σ ∧ Later s₀ s₄ ∧ Rel g F sc s₄.heap σ fp' ∧ St k s₄.heap ∧ ∀ j d, σ[j]? = some (.own d) → ∀ z ∈ Z, z ∉ fp' j := by
      intro hi
      refine ⟨ds.length - (k + 1), by omega, k + 1, ρ₄, fp₄, rfl, by omega, hi, hl₅, R₄, hst₄, fun j d hj z hz q => ?_⟩
      obtain ⟨o, vs, m, e, _⟩ := Sr.lists _ _ hst₂ z hz
      have e' := ((hr₄.own j d hj).2.1 z q).1
      have e'' := (hH1 z o).mpr ⟨e, hnZ z hz⟩
      exact absurd (e'.symm.trans e'') (by simp)
    cases fl with
    | next => cases fl' with
      | next => exact again hq
      | _ => exact hf.elim
    | cont => cases fl' with
      | cont => exact again hq
      | _ => exact hf.elim
    | brk => cases fl' with
      | brk => exact hR .next .next _ _ _ hq trivial hl₅ R₄
      | _ => exact hf.elim
    | ret d fr => cases fl' with
      | ret v =>
        obtain ⟨bs, hb1, hb2⟩ := hf
        exact hR _ _ _ _ _ hq ⟨bs, hb1, fun q => ⟨(hb2 q).1, fun a ha => hH2 a ((hb2 q).2 a ha)⟩⟩ hl₅ R₄
      | _ => exact hf.elim
  · have e : k = ds.length := by omega
    subst e
    refine Sr.done s' _ _ hst fun h₁ tk hkeep => ?_
    have R₁ := hrel.fieldsBut (Sr.there _ _ hst) hH hB hkeep
    exact wpAny_execs_nil (hR .next .next { s' with heap := h₁, toks := tk } _ _ (hend σ hσ) trivial (hl.trans ⟨_, _, rfl⟩) R₁)
end
end Mine
set_option Elab.async false
set_option maxRecDepth 100000
set_option linter.unusedVariables false
namespace Mine
open PySem PySem.Calls PyProof.Rows

section
variable {fname : Nat → Str} {g : Gx} {Φ : Calls} {n : Nat} {F : Fm} {sc : Scope} {A : Around} {s s' : Shared} {ρ : Vars} {fp : Nat → List Addr} {h h' : Heap}

theorem StayBut.fields {M : Addr → Prop} (sb : StayBut M h h') {b : Addr} {o : Obj} (e : h.get? b = some o) (hb : ¬ M b) {vs} (hd : o.data = .fields vs) : h'.get? b = some o := by
  rcases sb.1 b o e hb with q | ⟨q, _⟩
  · exact q
  · exact absurd hd (q vs)

theorem stay_iter {I : Addr} {o : Obj} {vs} (e : h.get? I = some o) (hd : o.data = .fields vs) (k : ∀ b o, b ≠ I → h.get? b = some o → h'.get? b = some o) : StayBut (· = I) h h' :=
  ⟨fun b o e hb => .inl (k b o hb e), fun b o' hb e' => .inr fun vs m q => by
    rw [show b = I from hb, e] at e'; cases e'; rw [hd] at q; cases q⟩

theorem Rp.iter {I : Addr} {o : Obj} {vs} (e : h.get? I = some o) (hd : o.data = .fields vs) (k : ∀ b o, b ≠ I → h.get? b = some o → h'.get? b = some o) {v d as} (r : Rp h v d as) : Rp h' v d as :=
  r.stay (stay_iter e hd k) fun a ha q => by
    obtain ⟨o', vs', m, e', _, _, hd', _⟩ := r.mem a ha
    rw [show a = I from q, e] at e'; cases e'; rw [hd] at hd'; cases hd'

theorem Source.list (hh : A.handled = none) {I l : Addr} {ds : List D} {as : List Addr} : Source g A I ds (fun k h => h.IsListIter I l k ∧ Rp h (.ref l) (.list ds) (l :: as)) (l :: as) where
  there := fun k h st => let ⟨o, e, _, d⟩ := st.1; ⟨o, _, e, d⟩
  lists := fun k h st z hz => let ⟨o, vs, m, e, _, _, d, _⟩ := st.2.mem z hz; ⟨o, vs, m, e, d⟩
  frame := fun k h h' M st sb hI hz => by
    obtain ⟨⟨o, e, c, d⟩, r⟩ := st
    exact ⟨⟨o, sb.fields e hI d, c, d⟩, r.stay sb hz⟩
  item := fun k s Q E d hd st hQ => by
    obtain ⟨hit, r⟩ := st
    obtain ⟨oI, eI, cI, dI⟩ := id hit
    cases r with
    | @list _ o vs en _ _ e1 c di dt sz it =>
      obtain ⟨u, cs, hu, ru, hsub⟩ := it.get hd
      refine wpAny_pyNext_list_item hit ⟨o, e1, c, en, dt⟩ (x := u) (by simpa using hu) fun h' hit' hs => ?_
      have kp : ∀ b o, b ≠ I → s.heap.get? b = some o → h'.get? b = some o := fun b o hb e => (hs.2 b hb).trans e
      exact hQ u h' s.toks cs (ru.iter eI dI kp) (fun a ha => .tail _ (hsub.subset ha)) ⟨hit', (Rp.list e1 c di dt sz it).iter eI dI kp⟩ kp
  done := fun s Q E st hQ => by
    obtain ⟨hit, r⟩ := st
    cases r with
    | @list _ o vs en _ _ e1 c di dt sz it =>
      have hl : vs.size = ds.length := by simpa using it.length
      exact wpAny_pyNext_list_end hh hit ⟨o, e1, c, en, dt⟩ (by simp [hl]) fun h' he => hQ h' s.toks fun b o hb e => he b o hb e

theorem Source.back (hh : A.handled = none) {I l : Addr} {ds : List D} {as : List Addr} : Source g A I ds.reverse (fun k h => k ≤ ds.length ∧ h.IsRevIter I l ((ds.length : Int) - 1 - k) ∧ Rp h (.ref l) (.list ds) (l :: as)) (l :: as) where
  there := fun k h st => let ⟨o, e, _, d⟩ := st.2.1; ⟨o, _, e, d⟩
  lists := fun k h st z hz => let ⟨o, vs, m, e, _, _, d, _⟩ := st.2.2.mem z hz; ⟨o, vs, m, e, d⟩
  frame := fun k h h' M st sb hI hz => by
    obtain ⟨hk, ⟨o, e, c, d⟩, r⟩ := st
    exact ⟨hk, ⟨o, sb.fields e hI d, c, d⟩, r.stay sb hz⟩
  item := fun k s Q E d hd st hQ => by
    obtain ⟨hk, hit, r⟩ := st
    obtain ⟨oI, eI, cI, dI⟩ := id hit
    have hlt : k < ds.length := by
      rw [List.getElem?_eq_some_iff] at hd; simpa using hd.1
    have hd' : ds[ds.length - 1 - k]? = some d := by
      rw [List.getElem?_reverse hlt] at hd; exact hd
    have ei : (ds.length : Int) - 1 - k = ((ds.length - 1 - k : Nat) : Int) := by omega
    rw [ei] at hit
    cases r with
    | @list _ o vs en _ _ e1 c di dt sz it =>
      obtain ⟨u, cs, hu, ru, hsub⟩ := it.get hd'
      refine wpAny_pyNext_rev_item hit ⟨o, e1, c, en, dt⟩ (x := u) (by simpa using hu) fun h' hit' hs => ?_
      have kp : ∀ b o, b ≠ I → s.heap.get? b = some o → h'.get? b = some o := fun b o hb e => (hs.2 b hb).trans e
      have e2 : ((ds.length - 1 - k : Nat) : Int) - 1 = (ds.length : Int) - 1 - ((k + 1 : Nat) : Int) := by omega
      rw [e2] at hit'
      exact hQ u h' s.toks cs (ru.iter eI dI kp) (fun a ha => .tail _ (hsub.subset ha)) ⟨hlt, hit', (Rp.list e1 c di dt sz it).iter eI dI kp⟩ kp
  done := fun s Q E st hQ => by
    obtain ⟨hk, hit, r⟩ := st
    have e : (ds.length : Int) - 1 - (ds.reverse.length : Nat) = -1 := by simp; omega
    rw [e] at hit
    exact wpAny_pyNext_rev_end hh hit fun h' he => hQ h' s.toks fun b o hb e => he b o hb e

theorem Source.range (hh : A.handled = none) {I : Addr} {a c : Int} {m : Nat} : Source g A I ((List.range m).map fun (k : Nat) => .int (a + k * c)) (fun k h => IsRangeIter h I (a + (k : Nat) * c) ((m : Int) - (k : Nat)) c) [] where
  there := fun k h st => ⟨_, _, st, rfl⟩
  lists := fun k h st z hz => by cases hz
  frame := fun k h h' M st sb hI hz => sb.fields st hI rfl
  item := fun k s Q E d hd st hQ => by
    have hlt : k < m := by
      rw [List.getElem?_eq_some_iff] at hd; simpa using hd.1
    have e0 : d = .int (a + k * c) := by
      rw [List.getElem?_map, List.getElem?_range hlt] at hd
      simpa using hd.symm
    subst e0
    refine wpAny_pyNext_range_item st (by omega) fun h' hit hs => ?_
    have e1 : a + ((k + 1 : Nat) : Int) * c = a + (k : Int) * c + c := by push_cast; rw [Int.add_mul, Int.one_mul, Int.add_assoc]
    have e2 : (m : Int) - ((k + 1 : Nat) : Int) = (m : Int) - (k : Int) - 1 := by push_cast; omega
    refine hQ _ h' _ [] (.int _ _) (fun _ h => (nomatch h)) ?_ fun b o hb e => (hs.2 b hb).trans e
    rw [e1, e2]; exact hit
  done := fun s Q E st hQ => wpAny_pyNext_range_end hh st (by simp) fun h' he => hQ h' s.toks fun b o hb e => he b o hb e

theorem At.newIter (T : At fname g Φ n F sc A s ρ fp) : F.H s.heap.objs.size = none ∧ g.base.get? s.heap.objs.size = none := by
  have hf := fresh_size s.heap
  refine ⟨?_, ?_⟩
  · cases hq : F.H s.heap.objs.size with
    | none => rfl
    | some o => rcases T.rel.held _ o hq with e | ⟨_, _, e⟩ <;> rw [hf] at e <;> cases e
  · cases hq : g.base.get? s.heap.objs.size with
    | none => rfl
    | some o => have e := T.rel.stays _ o hq; rw [hf] at e; cases e

theorem At.dem (T : At fname g Φ n F sc A s ρ fp) (u : List Nat) : At fname g Φ n F sc A s (dem ρ u) fp := T.rel' (T.rel.dem u)

noncomputable def noSet : Expr → Bool
  | .Set .. => false
  | _ => true
theorem folded_no {e : Expr} (h : noSet e = true) (env : Env) (x : Value) : foldedSetIterable e env x = pure x := by
  cases e <;> first | rfl | cases h

theorem sem_for_items {x : Str} {p pos : Pos} {i : Nat} {it : Expr} {a : X} {body : List Stmt} {y : Ss} (hx : (slots sc)[i]? = some x) (hk : sc.names.lookup x = some .local ∨ sc.names.lookup x = some .cell) (hset : noSet it = true)
    (he : SemE fname sc it a) (hb : SemSs fname sc body y) : SemS fname sc (.For (.Name x p) it body [] pos) (.loop i (.items a) y) := by
  intro g Φ n F A s ρ fp Q R E T h hR
  conv at h => whnf
  refine wpAny_For (he g Φ n F A s ρ fp _ _ E T h fun v s₁ d f as hk' st r fo => ?_) (folded_no hset _)
  cases r with
  | @list l o vs en ds as' e1 c di dt sz itm =>
    obtain ⟨Inv, h0, ht, hend⟩ := hk'
    have T₁ := (T.step st).dem f.u
    refine wpAny_pyIter_list ⟨o, e1, c, en, dt⟩ ?_
    have st₂ := st.push { cls := .type "list_iterator", data := .fields #[.ref l, .int 0 0] }
    have T₂ := (T.step st₂).dem f.u
    refine for_rule (Source.list T.room.handled (l := l) (ds := ds) (as := as')) T₂ st₂.later h0 ⟨⟨_, Heap.get?_push_size _ rfl, rfl, rfl⟩, (Rp.list e1 c di dt sz itm).ext (Ext.push _ _)⟩ ?_ T₁.newIter.1 T₁.newIter.2 hx hk hb ht hend hR
    intro j d hj z hz
    have q := (dem_get f.u ρ j).1 d hj
    exact fo.1 j d q.1 q.2 z hz
  | _ => exact hk'.elim

theorem sem_for_back {x : Str} {p np cp pos : Pos} {i : Nat} {it : Expr} {a : X} {body : List Stmt} {y : Ss} (hx : (slots sc)[i]? = some x) (hk : sc.names.lookup x = some .local ∨ sc.names.lookup x = some .cell)
    (hr : sc.names.lookup ("reversed" : Str) = some .globalImplicit) (hs : noStar it = true) (he : SemE fname sc it a) (hb : SemSs fname sc body y) :
    SemS fname sc (.For (.Name x p) (.Call (.Name "reversed" np) [it] [] cp) body [] pos) (.loop i (.back a) y) := by
  intro g Φ n F A s ρ fp Q R E T h hR
  conv at h => whnf
  refine wpAny_For (typ1 (id := "reversed") T hr (by simp [bltTab]) (by decide) hs he h fun v s₁ d f as hk' st r fo => ?_) (folded_no rfl _)
  cases r with
  | @list l o vs en ds as' e1 c di dt sz itm =>
    obtain ⟨Inv, h0, ht, hend⟩ := hk'
    have T₁ := (T.step st).dem f.u
    have hl : vs.size = ds.length := by simpa using itm.length
    refine call_reversed_list ⟨o, e1, c, en, dt⟩ ?_
    have st₂ := st.push (revObj l ((vs.size : Int) - 1))
    have hit : (s₁.heap.push (revObj l ((vs.size : Int) - 1))).IsRevIter s₁.heap.objs.size l ((vs.size : Int) - 1) := ⟨_, Heap.get?_push_size _ rfl, rfl, rfl⟩
    refine wpAny_pyIter_revIter (s := { s₁ with heap := s₁.heap.push (revObj l ((vs.size : Int) - 1)) }) hit ?_
    have T₂ := (T.step st₂).dem f.u
    refine for_rule (Source.back T.room.handled (l := l) (ds := ds) (as := as')) T₂ st₂.later h0 ⟨Nat.zero_le _, ?_, (Rp.list e1 c di dt sz itm).ext (Ext.push _ _)⟩ ?_ T₁.newIter.1 T₁.newIter.2 hx hk hb ht hend hR
    · rw [hl] at hit ⊢; simpa using hit
    · intro j d hj z hz
      have q := (dem_get f.u ρ j).1 d hj
      exact fo.1 j d q.1 q.2 z hz
  | _ => exact hk'.elim

theorem sem_for_range {x : Str} {p np cp pos : Pos} {i : Nat} {it : Expr} {a : X} {body : List Stmt} {y : Ss} (hx : (slots sc)[i]? = some x) (hk : sc.names.lookup x = some .local ∨ sc.names.lookup x = some .cell)
    (hr : sc.names.lookup ("range" : Str) = some .globalImplicit) (hs : noStar it = true) (he : SemE fname sc it a) (hb : SemSs fname sc body y) :
    SemS fname sc (.For (.Name x p) (.Call (.Name "range" np) [it] [] cp) body [] pos) (.loop i (.range a) y) := by
  intro g Φ n F A s ρ fp Q R E T h hR
  conv at h => whnf
  refine wpAny_For (typ1 (id := "range") T hr (by simp [bltTab]) (by decide) hs he h fun v s₁ d f as hk' st r fo => ?_) (folded_no rfl _)
  cases r with
  | int m t =>
    obtain ⟨hlo, hhi, Inv, h0, ht, hend⟩ := hk'
    have hlo' : m < 2 ^ 62 := hlo
    have hhi' : -(2 ^ 62) ≤ m := hhi
    refine call_range_1 ?_
    have st₁ := (st.push { cls := .type "range", data := .fields #[.int 0 s₁.toks, .int m t, .int 1 (s₁.toks + 1)] }).toks (s₁.toks + 1 + 1)
    refine wpAny_pyIter_range (IsRange.new ..) (small_one (by decide) (by decide) hhi' hlo') ?_
    rw [rangeSize_one]
    have T₁ := T.step st₁
    have st₂ := st₁.push { cls := .type "range_iterator", data := .fields #[rawInt 0, rawInt (if 0 < m then m - 0 else 0), rawInt 1] }
    have T₂ := T.step st₂
    have eds : ((List.range m.toNat).map fun (k : Nat) => PyData.int k) = (List.range m.toNat).map fun (k : Nat) => .int (0 + k * 1) := by
      apply List.map_congr_left; intro k _; simp
    rw [eds] at ht hend
    refine for_rule (Source.range T.room.handled (a := 0) (c := 1) (m := m.toNat)) T₂ st₂.later h0 ?_ (fun _ _ _ _ hz => (nomatch hz)) T₁.newIter.1 T₁.newIter.2 hx hk hb ht hend hR
    have em : (if 0 < m then m - 0 else 0) = ((m.toNat : Nat) : Int) := by split <;> omega
    rw [em]
    simpa using (Heap.get?_push_size (s₁.heap.push { cls := .type "range", data := .fields #[.int 0 s₁.toks, .int m t, .int 1 (s₁.toks + 1)] }) (o := { cls := .type "range_iterator", data := .fields #[rawInt 0, rawInt ((m.toNat : Nat) : Int), rawInt 1] }) rfl)
  | _ => exact hk'.elim

theorem small_down {a : Int} (ha : -(2 ^ 62) ≤ a) (ha' : a < 2 ^ 62) : Builtin.Range.small a (-1) (-1) = true ∧ Builtin.Range.rangeSize a (-1) (-1) = ((a + 1).toNat : Nat) := by
  have e : Builtin.Range.rangeSize a (-1) (-1) = ((a + 1).toNat : Nat) := by
    unfold Builtin.Range.rangeSize
    simp only [show ¬ ((-1 : Int) > 0) by decide, if_false, Int.neg_neg, Int.ediv_one]
    split <;> omega
  refine ⟨?_, e⟩
  unfold Builtin.Range.small
  rw [e]
  simp only [Builtin.Range.rangeFitsLong, Bool.and_eq_true, Bool.or_eq_true, decide_eq_true_eq, beq_iff_eq, show ¬ ((-1 : Int) > 0) by decide, if_false]
  omega

theorem sem_for_down {x : Str} {p np cp pos : Pos} {i : Nat} {it : Expr} {a : X} {body : List Stmt} {y : Ss} {k1 k2 : Nat} {q1 q2 q3 q4 : Pos} (hx : (slots sc)[i]? = some x) (hk : sc.names.lookup x = some .local ∨ sc.names.lookup x = some .cell)
    (hr : sc.names.lookup ("range" : Str) = some .globalImplicit) (hs : noStar it = true) (he : SemE fname sc it a) (hb : SemSs fname sc body y) :
    SemS fname sc (.For (.Name x p) (.Call (.Name "range" np) [it, .UnaryOp .USub (.Constant (.int 1) k1 q1) q2, .UnaryOp .USub (.Constant (.int 1) k2 q3) q4] [] cp) body [] pos) (.loop i (.down a) y) := by
  intro g Φ n F A s ρ fp Q R E T h hR
  conv at h => whnf
  refine wpAny_For ?_ (folded_no rfl _)
  refine wpAny_Call_ofName (blt_name (v := .type "range") T hr (by simp [bltTab]) (by decide) (callWith_type1 (args_cons (he g Φ n F A s ρ fp _ _ E T h fun v s₁ d f as hk' st r fo => ?_) (starEach_cons hs)) (starEach_cons hs) rfl))
  refine args_cons (wpAny_UnaryOp (wpAny_Constant_int (P.neg_int ?_))) rfl
  refine args_cons (wpAny_UnaryOp (wpAny_Constant_int (P.neg_int (args_nil ?_)))) rfl
  cases r with
  | int m t =>
    obtain ⟨hlo, hhi, Inv, h0, ht, hend⟩ := hk'
    have hlo' : m < 2 ^ 62 := hlo
    have hhi' : -(2 ^ 62) ≤ m := hhi
    have st₀ := st.toks (s₁.toks + 1 + 1 + 1 + 1)
    refine call_range_3 (by decide) ?_ (.inr (T.step st₀).pylong)
    obtain ⟨sm, sz⟩ := small_down hhi' hlo'
    have st₁ := st₀.push { cls := .type "range", data := .fields #[.int m t, .int (-1) (s₁.toks + 1), .int (-1) (s₁.toks + 1 + 1 + 1)] }
    refine wpAny_pyIter_range (IsRange.new ..) sm ?_
    rw [sz]
    have T₁ := T.step st₁
    have st₂ := st₁.push { cls := .type "range_iterator", data := .fields #[rawInt m, rawInt (((m + 1).toNat : Nat) : Int), rawInt (-1)] }
    have T₂ := T.step st₂
    have eds : ((List.range (m + 1).toNat).map fun (k : Nat) => PyData.int (m - k)) = (List.range (m + 1).toNat).map fun (k : Nat) => .int (m + k * (-1)) := by
      apply List.map_congr_left; intro k _; congr 1; omega
    rw [eds] at ht hend
    refine for_rule (Source.range T.room.handled (a := m) (c := -1) (m := (m + 1).toNat)) T₂ st₂.later h0 ?_ (fun _ _ _ _ hz => (nomatch hz)) T₁.newIter.1 T₁.newIter.2 hx hk hb ht hend hR
    simpa using (Heap.get?_push_size (s₁.heap.push { cls := .type "range", data := .fields #[.int m t, .int (-1) (s₁.toks + 1), .int (-1) (s₁.toks + 1 + 1 + 1)] }) (o := { cls := .type "range_iterator", data := .fields #[rawInt m, rawInt (((m + 1).toNat : Nat) : Int), rawInt (-1)] }) rfl)
  | _ => exact hk'.elim

end
end Mine
set_option Elab.async false
set_option maxRecDepth 100000
set_option linter.unusedVariables false
namespace Mine
open PySem PySem.Calls PyProof.Rows

theorem Rps.fps {h : Heap} : ∀ {vs ds as}, Rps h vs ds as → ∃ fp : Nat → List Addr, (∀ i d, ds[i]? = some d → ∃ v, vs[i]? = some v ∧ Rp h v d (fp i)) ∧ ∀ i, ds.length ≤ i → fp i = []
  | _, _, _, .nil => ⟨fun _ => [], fun i d e => by simp at e, fun _ _ => rfl⟩
  | _, _, _, .cons (as := as) x y => by
    obtain ⟨fp, h1, h2⟩ := Rps.fps y
    refine ⟨fun i => match i with | 0 => as | i + 1 => fp i, fun i d e => ?_, fun i hi => ?_⟩
    · cases i with
      | zero => simp only [List.getElem?_cons_zero, Option.some.injEq] at e; subst e; exact ⟨_, rfl, x⟩
      | succ i => simp only [List.getElem?_cons_succ] at e ⊢; exact h1 i d e
    · cases i with
      | zero => simp at hi
      | succ i => exact h2 i (by simpa using hi)

theorem bindL_skip {k : Str → Option NameKind} {x : Str} : ∀ (r : List (Str × Value)) (m : Str → Option Value), x ∉ r.map (·.1) → bindL k r m x = m x
  | [], _, _ => rfl
  | (n, v) :: r, m, h => by
    simp only [List.map_cons, List.mem_cons, not_or] at h
    rw [bindL, bindL_skip r _ h.2]
    split
    · exact if_neg h.1
    · rfl
theorem bindC_skip {k : Str → Option NameKind} {x : Str} : ∀ (r : List (Str × Value)) (m : Str → Option Value), x ∉ r.map (·.1) → bindC k r m x = m x
  | [], _, _ => rfl
  | (n, v) :: r, m, h => by
    simp only [List.map_cons, List.mem_cons, not_or] at h
    rw [bindC, bindC_skip r _ h.2]
    split
    · rfl
    · exact if_neg h.1
theorem bindL_look {k : Str → Option NameKind} {x : Str} {v : Value} (hk : k x = some .local) : ∀ (r : List (Str × Value)) (m : Str → Option Value), (r.map (·.1)).Nodup → (x, v) ∈ r → bindL k r m x = some v
  | [], _, _, h => nomatch h
  | (n, w) :: r, m, nd, h => by
    simp only [List.map_cons, List.nodup_cons] at nd
    rcases List.mem_cons.mp h with e | h
    · cases e
      rw [bindL, bindL_skip r _ nd.1, if_pos hk, if_pos rfl]
    · rw [bindL]; exact bindL_look hk r _ nd.2 h
theorem bindC_look {k : Str → Option NameKind} {x : Str} {v : Value} (hk : k x = some .cell) : ∀ (r : List (Str × Value)) (m : Str → Option Value), (r.map (·.1)).Nodup → (x, v) ∈ r → bindC k r m x = some v
  | [], _, _, h => nomatch h
  | (n, w) :: r, m, nd, h => by
    simp only [List.map_cons, List.nodup_cons] at nd
    rcases List.mem_cons.mp h with e | h
    · cases e
      rw [bindC, bindC_skip r _ nd.1, if_neg (by rw [hk]; decide), if_pos rfl]
    · rw [bindC]; exact bindC_look hk r _ nd.2 h
theorem look_some {x : Str} : ∀ {l : List (Str × Addr)}, x ∈ l.map (·.1) → ∃ c, l.lookup x = some c
  | [], h => nomatch h
  | (n, c) :: l, h => by
    rw [List.lookup_cons]
    by_cases q : (x == n) = true
    · simp only [q]; exact ⟨c, rfl⟩
    · simp only [q]
      refine look_some ?_
      rw [List.map_cons] at h
      rcases List.mem_cons.mp h with e | h
      · exact absurd (by rw [e]; simp) q
      · exact h

structure FnAt (fname : Nat → Str) (g : Gx) (f k m : Nat) (body : Ss) (fa : Addr) (name : Str) (params : Arguments) (stmts : List Stmt) (sc : Scope) (pm cd doc : Value) (o : Obj) : Prop where
  named : g.mg (fname f) = some (.ref fa)
  at' : g.base.get? fa = some o
  data : o.data = .func (docDef name params stmts sc pm cd doc)
  code : g.base.CodeRec cd name
  sem : SemSs fname sc stmts body
  plain : sc.isGenerator = false ∧ sc.isCoroutine = false ∧ sc.kind = .function
  cells : ((cellsFrom 0 sc.names []).map (·.1)).Nodup ∧ ∀ x, sc.names.lookup x = some .cell → x ∈ (cellsFrom 0 sc.names []).map (·.1)
  xs : (slots sc).Nodup ∧ (slots sc).length = m ∧ k ≤ m ∧ (slots sc).take k = params.args.map (·.arg)
  loc : ∀ x ∈ (slots sc).take k, sc.names.lookup x = some .local ∨ sc.names.lookup x = some .cell
  bind : ∀ vs : List Value, vs.length = k → bindArgs (docDef name params stmts sc pm cd doc) ⟨vs, []⟩ = pure ((params.args.map (·.arg)).zip vs)

noncomputable def FnIs (fname : Nat → Str) (g : Gx) (f k m : Nat) (body : Ss) : Prop := ∃ fa name params stmts sc pm cd doc o, FnAt fname g f k m body fa name params stmts sc pm cd doc o

theorem fn_sound {fname : Nat → Str} {g : Gx} {Φ : Calls} {n f k m : Nat} {body : Ss} {ds : List D} {K : D → Bool → Prop} (G : Gd g) (fn : FnIs fname g f k m body) (hΦ : ∀ f ds K, Φ f ds K → Spec fname g n f ds K)
    (hnm : ∀ f, f < 1000 → fname f ≠ Str.empty → ∃ fa o fd, g.mg (fname f) = some (.ref fa) ∧ g.base.get? fa = some o ∧ o.data = .func fd)
    (hlen : ds.length = k) (hw : wSs Φ body (retPost K) (startVars ds m)) : ∃ fa, SpecF g (n + 1) (fname f) ds K fa := by
  obtain ⟨fa, name, params, stmts, sc, pm, cd, doc, o, T⟩ := fn
  refine ⟨fa, T.named, ⟨o, _, T.at', T.data⟩, ?_⟩
  intro A s vs as outer Q E room stays frames r hQ
  have hvl : vs.length = k := r.length.trans hlen
  obtain ⟨hnd, hsl, hkm, hpar⟩ := T.xs
  have cnames : (cellsFrom (s.heap.objs.size + 1) sc.names []).map (·.1) = (cellsFrom 0 sc.names []).map (·.1) := cellsFrom_names sc.names _ _ _ _ rfl
  have ccov : ∀ x, sc.names.lookup x = some .cell → ∃ c, (cellsFrom (s.heap.objs.size + 1) sc.names []).lookup x = some c := fun x hx => look_some (by rw [cnames]; exact T.cells.2 x hx)
  refine wpAny_call (call_cells (by have := room.depth; omega) (stays _ _ T.at') T.data (G.nolimit.keeps stays) (T.code.keeps stays) (T.bind vs hvl) ?_ ?_ T.plain.2.1 T.plain.1 T.plain.2.2)
  · intro x hx
    have : x.1 ∈ params.args.map (·.arg) := (List.of_mem_zip hx).1
    rw [← hpar] at this
    rcases T.loc _ this with q | q
    · exact .inl q
    · obtain ⟨c, hc⟩ := ccov _ q
      exact .inr ⟨q, by rw [hc]; rfl⟩
  intro h₁ tk₁ Fr₁ Cl₁
  obtain ⟨fp, hf1, hf2⟩ := r.fps
  have hLfresh := fresh_size s.heap
  have keep : ∀ b o, s.heap.get? b = some o → h₁.get? b = some o := Fr₁.keep
  let F : Fm := { name := name, L := s.heap.objs.size, fa := fa, cd := cd, cl := cellsFrom (s.heap.objs.size + 1) sc.names [], outer := outer, H := s.heap.get? }
  have hns := Fr₁.ns
  have hbL : g.base.get? s.heap.objs.size = none := by
    cases hq : g.base.get? s.heap.objs.size with
    | none => rfl
    | some o => have e := stays _ o hq; rw [hLfresh] at e; cases e
  have hstart : ∀ (i : Nat) (c : Cell), (startVars ds m)[i]? = some c → (i < k ∧ ∃ d, ds[i]? = some d ∧ c = .val d) ∨ (k ≤ i ∧ c = .unset) := by
    intro i c e
    unfold startVars at e
    by_cases hi : i < k
    · rw [List.getElem?_append_left (by simpa [hlen] using hi)] at e
      rw [List.getElem?_map] at e
      cases hd : ds[i]? with
      | none => rw [hd] at e; cases e
      | some d => rw [hd] at e; cases e; exact .inl ⟨hi, d, rfl, rfl⟩
    · rw [List.getElem?_append_right (by simp [hlen]; omega)] at e
      rw [List.getElem?_replicate] at e
      split at e
      · cases e; exact .inr ⟨by omega, rfl⟩
      · cases e
  have R : Rel g F sc h₁ (startVars ds m) fp := by
    refine ⟨fun b o e => keep b o (stays b o e), fun b o e => .inl (keep b o e), ⟨?_, ?_, ?_⟩, ⟨_, hns⟩, hLfresh, fun p hp => ?_, ?_, ?_, ?_, hnd, ?_, ?_, ?_⟩
    · show sc.kind ≠ .module; rw [T.plain.2.2]; decide
    · obtain ⟨oL, es, ep, e, hd, _⟩ := hns
      exact ⟨s.heap.objs.size, oL, rfl, hbL, e, fun vs q => by rw [hd] at q; cases q⟩
    · exact FunFrames.ext (.of_keep keep) frames
    · have hab := Cl₁.above p.1 p.2 hp
      have hno : s.heap.get? p.2 = none := Heap.get?_none_of_le (Nat.le_of_lt hab)
      refine ⟨hno, ?_, ?_⟩
      · cases hq : g.base.get? p.2 with
        | none => rfl
        | some o => have e := stays _ o hq; rw [hno] at e; cases e
      · obtain ⟨o, ho, hd⟩ := Cl₁.cell p.1 p.2 (lookup_of_mem_nodup (by rw [cnames]; exact T.cells.1) hp)
        exact ⟨o, _, ho, hd⟩
    · exact List.pairwise_map.mpr Cl₁.apart
    · exact ccov
    · rw [hsl]; unfold startVars; simp [hlen]; omega
    · intro i d hc
      rcases hc with hc | hc
      · rcases hstart i _ hc with ⟨hi, d', hd, e⟩ | ⟨_, e⟩
        · cases e
          obtain ⟨v, hv, rv⟩ := hf1 i d hd
          have hlt : i < (slots sc).length := by omega
          have hx : (slots sc)[i]? = some (slots sc)[i] := by simp [hlt]
          have hx' : ((slots sc).take k)[i]? = some (slots sc)[i] := by rw [List.getElem?_take, if_pos hi]; exact hx
          have hloc := T.loc _ (List.mem_of_getElem? hx')
          refine ⟨_, v, hx, ?_, rv.ext (.of_keep keep)⟩
          rw [hpar] at hx'
          have hnd' : (((params.args.map (·.arg)).zip vs).map (·.1)).Nodup := by
            rw [List.map_fst_zip (by rw [← hpar, hvl]; exact List.length_take_le _ _), ← hpar]; exact hnd.sublist (List.take_sublist _ _)
          have hmem : ((slots sc)[i], v) ∈ (params.args.map (·.arg)).zip vs := List.mem_iff_getElem?.mpr ⟨i, by rw [List.getElem?_zip_eq_some]; exact ⟨hx', hv⟩⟩
          rcases hloc with q | q
          · exact .inl ⟨q, _, hns, bindL_look (k := (F.env sc).kindOf) q _ _ hnd' hmem⟩
          · obtain ⟨c, hc⟩ := ccov _ q
            obtain ⟨o, ho, hd⟩ := Cl₁.cell _ c hc
            refine .inr ⟨q, c, o, hc, ho, ?_⟩
            rw [hd]; congr 1; exact bindC_look (k := (F.env sc).kindOf) q _ _ hnd' hmem
        · cases e
      · rcases hstart i _ hc with ⟨hi, d', hd, e⟩ | ⟨_, e⟩ <;> cases e
    · intro i hno
      by_cases hi : i < k
      · have hd : ds[i]? = some ds[i] := by simp [hlen, hi]
        have : (startVars ds m)[i]? = some (.val ds[i]) := by
          unfold startVars
          rw [List.getElem?_append_left (by simpa [hlen] using hi), List.getElem?_map, hd]; rfl
        exact absurd this (hno ds[i]).1
      · exact hf2 i (by omega)
    · intro i d hc
      rcases hstart i _ hc with ⟨hi, d', hd, e⟩ | ⟨_, e⟩ <;> cases e
  have room' : Room (A.deeper (F.env sc)) n (F.env sc :: outer) := by
    refine ⟨Around.frames_deeper room.frames, ?_, ?_, room.handled⟩
    · have := room.depth; show A.depth + 1 + n + 150 < _; omega
    · have := room.units; show A.units + 3 + 8 * n + 300 < _; omega
  refine T.sem g Φ n F _ _ _ fp _ _ _ ⟨G, hΦ, hnm, T.plain.2.2, ⟨T.plain.1, T.plain.2.1⟩, room', R⟩ hw fun fl fl' s' ρ' fp' hq hf hl hr => ?_
  have hstep : Step g s s' := by
    obtain ⟨h', tk, rfl⟩ := hl
    refine ⟨h', tk, rfl, fun b o e => hr.held b o e, hr.stays⟩
  cases fl with
  | next => cases fl' with
    | next => exact hQ _ _ _ _ [] hq hstep .none fun _ => ⟨List.nodup_nil, fun _ ha => (nomatch ha)⟩
    | _ => exact hf.elim
  | ret d fr => cases fl' with
    | ret v => obtain ⟨bs, h1, h2⟩ := hf; exact hQ _ _ _ _ bs hq hstep h1 h2
    | _ => exact hf.elim
  | _ => exact hq.elim

theorem all_sound {fname : Nat → Str} {g : Gx} (Φ : Nat → Calls) (G : Gd g) (hnm : ∀ f, f < 1000 → fname f ≠ Str.empty → ∃ fa o fd, g.mg (fname f) = some (.ref fa) ∧ g.base.get? fa = some o ∧ o.data = .func fd)
    (h0 : ∀ f ds K, ¬ Φ 0 f ds K)
    (hs : ∀ n f ds K, (∀ f ds K, Φ n f ds K → Spec fname g n f ds K) → Φ (n + 1) f ds K → (1000 ≤ f ∧ ∃ i t, g.mg (fname f) = some (.int i t) ∧ ds = [] ∧ K (.int i) true) ∨ (f < 500 ∧ ∃ k m body, FnIs fname g f k m body ∧ ds.length = k ∧ wSs (Φ n) body (retPost K) (startVars ds m)) ∨
      (500 ≤ f ∧ f < 1000 ∧ ∃ (c : Nat) (C fa : Addr), K (.int (c : Int)) true ∧ IsExc g (fname c) C ∧ SpecX g (n + 1) (fname (f - 500)) ds (fname c) fa)) :
    ∀ n f ds K, Φ n f ds K → Spec fname g n f ds K := by
  intro n
  induction n with
  | zero => intro f ds K h; exact absurd h (h0 f ds K)
  | succ n ih =>
    intro f ds K h
    unfold Spec
    rcases hs n f ds K ih h with ⟨hf, q⟩ | ⟨hf, k, m, body, fn, hl, hw⟩ | ⟨hf, hf', q⟩
    · rw [if_pos hf]; exact q
    · rw [if_neg (by omega), if_neg (by omega)]; exact fn_sound G fn ih hnm hl hw
    · rw [if_neg (by omega), if_pos hf]; exact q
end Mine
set_option Elab.async false
set_option maxRecDepth 100000
set_option linter.unusedVariables false
namespace Mine
open PySem PySem.Calls PyProof.Rows

section
variable {fname : Nat → Str} {g : Gx} {Φ : Calls} {n : Nat} {F : Fm} {sc : Scope} {A : Around} {s s' : Shared} {ρ : Vars} {fp : Nat → List Addr} {h h' : Heap}

theorem sem_never {st : Stmt} : SemS fname sc st .never := by
  intro g Φ n F A s ρ fp Q R E T h hR
  conv at h => whnf
  exact h.elim

theorem Rel.asgC (R : Rel g F sc h ρ fp) {y : Str} {i : Nat} {v : Value} {d : D} {f : Fg} {as : List Addr} (hx : (slots sc)[i]? = some y) (S : Stored F sc h h' y v) (r : Rp h v d as)
    (h1 : ∀ j e, ρ[j]? = some (.own e) → j ∉ f.u → ∀ a ∈ as, a ∉ fp j)
    (h2 : f.sh = false → f.u = [] → as.Nodup ∧ (∀ a ∈ as, F.H a = none ∧ g.base.get? a = none) ∧ ∀ j, ∀ a ∈ as, a ∉ fp j) :
    Rel g F sc h' (Mine.asg ρ i d f) (fun j => if j = i then as else fp j) := by
  unfold Mine.asg
  split
  · rename_i hi
    have e := r.imm hi
    subst e
    exact R.put hx S r (.inl rfl) (fun _ _ _ _ _ ha => (nomatch ha)) fun q => (nomatch q)
  · split
    · rename_i hf
      obtain ⟨q1, q2, q3⟩ := h2 hf.1 hf.2
      exact R.put hx S r (.inr rfl) (fun j _ _ _ => q3 j) fun _ => ⟨q1, q2, fun j _ => q3 j⟩
    · refine (R.dem f.u).put hx S r (.inl rfl) (fun j e _ hj a ha => ?_) fun q => (nomatch q)
      have := (dem_get f.u ρ j).1 e hj
      exact h1 j e this.1 this.2 a ha

theorem asg_own {j i : Nat} {d e : D} {f : Fg} (hl : i < ρ.length) (hj : (asg ρ i d f)[j]? = some (.own e)) : (j ≠ i ∧ ρ[j]? = some (.own e) ∧ (f.sh = false ∧ f.u = [] ∨ imm d = true ∨ j ∉ f.u)) ∨ (j = i ∧ f.sh = false ∧ f.u = [] ∧ imm d = false) := by
  unfold asg at hj
  by_cases hji : j = i
  · subst hji
    split at hj
    · simp [hl] at hj
    · split at hj
      · rename_i h1 h2; exact .inr ⟨rfl, h2.1, h2.2, by simpa using h1⟩
      · have hl' : j < (dem ρ f.u).length := by rw [(dem_get f.u ρ 0).2.2.2]; exact hl
        simp [hl'] at hj
  · refine .inl ⟨hji, ?_⟩
    split at hj
    · rename_i hi; exact ⟨by simpa [Ne.symm hji] using hj, .inr (.inl hi)⟩
    · split at hj
      · rename_i h1 h2; exact ⟨by simpa [Ne.symm hji] using hj, .inl h2⟩
      · have hj' : (dem ρ f.u)[j]? = some (.own e) := by simpa [Ne.symm hji] using hj
        have := (dem_get f.u ρ j).1 e hj'
        exact ⟨this.1, .inr (.inr this.2)⟩

theorem fresh_none (R : Rel g F sc h ρ fp) {a : Addr} (hf : h.get? a = none) : (F.H a = none ∧ g.base.get? a = none) ∧ ∀ j, a ∉ fp j := by
  refine ⟨⟨?_, ?_⟩, fun j q => ?_⟩
  · cases hq : F.H a with
    | none => rfl
    | some o => rcases R.held a o hq with e | ⟨_, _, e⟩ <;> rw [hf] at e <;> cases e
  · cases hq : g.base.get? a with
    | none => rfl
    | some o => have e := R.stays a o hq; rw [hf] at e; cases e
  · obtain ⟨o, _, _, e, _⟩ := R.fp_there j a q
    rw [hf] at e; cases e

theorem pair_stores {s₂ : Shared} {x y : Str} {i j : Nat} {v w : Value} {dx dy : D} {f k : Fg} {as bs : List Addr} {R : Unit → Shared → Prop} {E : Value → Shared → Prop} (T : At fname g Φ n F sc A s ρ fp)
    (hij : i ≠ j) (hx : (slots sc)[i]? = some x) (hy : (slots sc)[j]? = some y) (hkx : sc.names.lookup x = some .local ∨ sc.names.lookup x = some .cell) (hky : sc.names.lookup y = some .local ∨ sc.names.lookup y = some .cell)
    (st : Step g s s₂) (r : Rp s₂.heap v dx as) (r' : Rp s₂.heap w dy bs) (fo : FgOk ρ fp s.heap f as) (fo' : FgOk ρ fp s.heap k bs)
    (hd : f.sh = false → k.sh = false → f.u ++ k.u = [] → ∀ a ∈ as, a ∉ bs)
    (hR : ∀ s' fp', Later s s' → Rel g F sc s'.heap (pairAsg ρ i j dx f dy k) fp' → R () s') :
    wpAny (model g.p g.w) A (assignInOrder [fun v => bindName (F.env sc) y v, fun v => bindName (F.env sc) x v] [w, v]) R E s₂ := by
  have T₂ := T.step st
  have hlj : j < ρ.length := by rw [T.rel.len]; rw [List.getElem?_eq_some_iff] at hy; exact hy.1
  show wpAny _ A (do holding [v] (bindName (F.env sc) y w); assignInOrder [fun v => bindName (F.env sc) x v] [v]) R E s₂
  refine wpAny_bind (wpAny_holding (bindName_ (store_rule (i := j) T₂ hky fun h' tk S => ?_)))
  show wpAny _ A (do holding [] (bindName (F.env sc) x v); assignInOrder [] []) R E _
  by_cases hu : f.sh = false ∧ k.sh = false ∧ f.u ++ k.u = []
  · have hfu : f.u = [] := (List.append_eq_nil_iff.mp hu.2.2).1
    have hku : k.u = [] := (List.append_eq_nil_iff.mp hu.2.2).2
    have R₁ := T₂.rel.asgC (f := k) hy S r' (fun j' e hj hn => fo'.1 j' e hj hn) (fun hs _ => by
      have q := fo'.2 hs
      rw [hku] at q
      have fr : ∀ a ∈ bs, s.heap.get? a = none := fun a ha => by
        rcases q.1 a ha with q | ⟨_, hj, _⟩
        · exact q
        · cases hj
      exact ⟨q.2.1 List.nodup_nil, fun a ha => (fresh_none T.rel (fr a ha)).1, fun j' a ha => (fresh_none T.rel (fr a ha)).2 j'⟩)
    have T₃ : At fname g Φ n F sc A { s₂ with heap := h', toks := tk } (asg ρ j dy k) (fun j' => if j' = j then bs else fp j') := T.rel' R₁
    have rv : Rp h' v dx as := T₂.rel.rpStay S.keep r
    refine wpAny_bind (wpAny_holding (bindName_ (store_rule (i := i) T₃ hkx fun h₄ tk₄ S₄ => wpAny_pure ?_)))
    have R₂ := R₁.asgC (f := f) hx S₄ rv (fun j' e hj hn a ha => ?_) (fun hs _ => ?_)
    · refine hR _ (fun j' => if j' = i then as else if j' = j then bs else fp j') (st.later.trans (Later.trans ⟨h', tk, rfl⟩ ⟨h₄, tk₄, rfl⟩)) ?_
      unfold pairAsg
      rw [if_pos hu]; exact R₂
    · rcases asg_own hlj hj with ⟨hne, ho, _⟩ | ⟨rfl, hks, _, _⟩
      · rw [if_neg hne]; exact fo.1 j' e ho (by rw [hfu]; exact fun q => (nomatch q)) a ha
      · rw [if_pos rfl]; exact hd hu.1 hu.2.1 hu.2.2 a ha
    · have q := fo.2 hs
      rw [hfu] at q
      have fr : ∀ a ∈ as, s.heap.get? a = none := fun a ha => by
        rcases q.1 a ha with q | ⟨_, hj, _⟩
        · exact q
        · cases hj
      refine ⟨q.2.1 List.nodup_nil, fun a ha => (fresh_none T.rel (fr a ha)).1, fun j' a ha => ?_⟩
      by_cases hne : j' = j
      · rw [if_pos hne]; exact hd hu.1 hu.2.1 hu.2.2 a ha
      · rw [if_neg hne]; exact (fresh_none T.rel (fr a ha)).2 j'
  · have R₁ := T₂.rel.asgC (f := ⟨true, f.u ++ k.u⟩) hy S r' (fun j' e hj hn => fo'.1 j' e hj fun q => hn (List.mem_append_right _ q)) (fun hs => (nomatch hs))
    have T₃ : At fname g Φ n F sc A { s₂ with heap := h', toks := tk } (asg ρ j dy ⟨true, f.u ++ k.u⟩) (fun j' => if j' = j then bs else fp j') := T.rel' R₁
    have rv : Rp h' v dx as := T₂.rel.rpStay S.keep r
    refine wpAny_bind (wpAny_holding (bindName_ (store_rule (i := i) T₃ hkx fun h₄ tk₄ S₄ => wpAny_pure ?_)))
    have R₂ := R₁.asgC (f := ⟨true, f.u ++ k.u⟩) hx S₄ rv (fun j' e hj hn a ha => ?_) (fun hs => (nomatch hs))
    · refine hR _ (fun j' => if j' = i then as else if j' = j then bs else fp j') (st.later.trans (Later.trans ⟨h', tk, rfl⟩ ⟨h₄, tk₄, rfl⟩)) ?_
      unfold pairAsg
      rw [if_neg hu]; exact R₂
    · rcases asg_own hlj hj with ⟨hne, ho, _⟩ | ⟨_, hks, _⟩
      · rw [if_neg hne]; exact fo.1 j' e ho (fun q => hn (List.mem_append_left _ q)) a ha
      · cases hks

theorem swapped_ok {x y : Str} {px py tp vp : Pos} {k k' : Nat} {a b : Expr} {env : Env} (hk : env.scope.kind = .function) (hx : env.kindOf x = some .local) (hy : env.kindOf y = some .local) (hl : (py.line == px.line) = true) (hne : x ≠ y)
    (ha : noStar a = true) (hb : noStar b = true) (hf : ([a, b].all (foldedForSure 8)) = false) (hc : ([a, b].all (constantsAlone 8)) = false) :
    swappedStores [.Tuple [.Name x px, .Name y py] k tp] (.Tuple [a, b] k' vp) env = pure (some [x, y]) := by
  have hbk : env.blockKind = .function := by unfold Env.blockKind; rw [hk]; rfl
  have hbn : (env.blockKind != ScopeKind.function) = false := by rw [hbk]; rfl
  have e1 : (env.kindOf x == some .local && (px.line == px.line)) = true := by rw [hx]; simp
  have e2 : (env.kindOf y == some .local && (py.line == px.line)) = true := by rw [hy, hl]; rfl
  have hed : ([x, y] : List Str).eraseDups = [x, y] := by
    have : (y == x) = false := beq_eq_false_iff_ne.mpr (Ne.symm hne)
    simp [List.eraseDups_cons, this]
  unfold swappedStores
  simp only [pure_bind]
  rw [if_neg (by rw [hbn]; simp)]
  rw [if_neg (fun h => by
    rw [List.any_eq_true] at h
    obtain ⟨e, he, hp⟩ := h
    have he' : noStar e = true := by
      rcases List.mem_cons.mp he with rfl | he
      · exact ha
      · rcases List.mem_cons.mp he with rfl | he
        · exact hb
        · cases he
    cases e <;> first | exact Bool.false_ne_true hp | exact Bool.false_ne_true he')]
  have hl0 : (Option.map (fun x : Expr => x.pos.line) ([.Name x px, .Name y py] : List Expr).head?).getD 0 = px.line := rfl
  simp only [hl0, List.filterMap_cons, List.filterMap_nil, e1, e2, if_true]
  rw [if_neg (by rw [hed]; simp), if_neg (by rw [hf]; decide), if_neg (by rw [hc]; decide)]

theorem two_line (v w : Value) : ([v, w] : List Value).length ≤ sizeLine := by
  have e : ([v, w] : List Value).length = 2 := rfl
  rw [e]
  decide

theorem sem_pair {x y : Str} {px py tp vp pos : Pos} {k k' : Nat} {ea eb : Expr} {a b : X} {i j : Nat} (hij : i ≠ j) (hx : (slots sc)[i]? = some x) (hy : (slots sc)[j]? = some y) (hkx : sc.names.lookup x = some .local) (hky : sc.names.lookup y = some .local)
    (hl : (py.line == px.line) = true) (hne : x ≠ y) (hsa : noStar ea = true) (hsb : noStar eb = true) (hf : ([ea, eb].all (foldedForSure 8)) = false) (hc : ([ea, eb].all (constantsAlone 8)) = false)
    (ha : SemE fname sc ea a) (hb : SemE fname sc eb b) : SemS fname sc (.Assign [.Tuple [.Name x px, .Name y py] k tp] (.Tuple [ea, eb] k' vp) pos) (.pair i j a b) := by
  intro g Φ n F A s ρ fp Q R E T h hR
  conv at h => whnf
  refine Assign_Tuple_swapped (names := [x, y]) ?_ (show swapsWith (.Tuple [ea, eb] k' vp) (some (.Tuple [.Name x px, .Name y py] k tp)) pos.line (F.env sc) = pure false from swaps_no rfl _ _ _) (swapped_ok (env := F.env sc) T.kind hkx hky hl hne hsa hsb hf hc)
  refine wpAny_Tuple ?_
  refine args_cons (ha g Φ n F A s ρ fp _ _ E T h fun v s₁ d f as hk st r fo => args_cons (hb g Φ n F A s₁ ρ fp _ _ E (T.step st) hk fun w s₂ d' f' bs hk' st' r' fo' => args_nil ⟨two_line v w, ?_⟩) (starEach_cons hsb)) (starEach_cons hsa)
  have st₂ := (st.trans st').push { cls := .type "tuple", data := .seq #[v, w] }
  have ht : IsTup (s₂.heap.push { cls := .type "tuple", data := .seq #[v, w] }) s₂.heap.objs.size #[v, w] := ⟨_, Heap.get?_push_size _ rfl, rfl, 0, rfl⟩
  show wpAny (model g.p g.w) A (unpackItems (.ref s₂.heap.objs.size) (#[v, w] : Array Value).size none) _ E { s₂ with heap := s₂.heap.push { cls := .type "tuple", data := .seq #[v, w] } }
  refine unpackItems_tuple (s := { s₂ with heap := s₂.heap.push { cls := .type "tuple", data := .seq #[v, w] } }) T.room.handled ht fun h' hext => ?_
  have kp : ∀ b o, (s₂.heap.push { cls := .type "tuple", data := .seq #[v, w] }).get? b = some o → h'.get? b = some o := fun b o e => hext b o (fun q => by
    have := Heap.lt_size e; rw [q] at this; exact Nat.lt_irrefl _ this) e
  have st₃ := st₂.keep kp s₂.toks
  have kp' : Ext s₂.heap h' := (Ext.push _ _).trans (.of_keep kp)
  refine pair_stores (v := v) (w := w) (as := as) (bs := bs) T hij hx hy (.inl hkx) (.inl hky) st₃ ((r.ext st'.ext).ext kp') (r'.ext kp') fo (fo'.back st.ext) (fun h1 h2 h3 a ha hb' => ?_) (fun s' fp' hl' hr => hR .next .next _ _ _ hk' trivial hl' hr)
  have q := fo'.2 h2
  rw [(List.append_eq_nil_iff.mp h3).2] at q
  rcases q.1 a hb' with q | ⟨_, hj, _⟩
  · exact r.there a ha q
  · cases hj
end
end Mine
set_option Elab.async false
set_option maxRecDepth 100000
set_option linter.unusedVariables false
namespace Mine
open PySem PySem.Calls PyProof.Rows

section
variable {fname : Nat → Str} {g : Gx} {Φ : Calls} {n : Nat} {F : Fm} {sc : Scope} {A : Around} {s s' : Shared} {ρ : Vars} {fp : Nat → List Addr} {h h' : Heap}

noncomputable def EnumSt (e it l : Addr) (ds : List D) (as : List Addr) (k : Nat) (h : Heap) : Prop :=
  (∃ old, IsEnum h e it k old) ∧ h.IsListIter it l k ∧ Rp h (.ref l) (.list ds) (l :: as)

theorem EnumSt.frame {e it l : Addr} {ds : List D} {as : List Addr} {k : Nat} {M : Addr → Prop} (st : EnumSt e it l ds as k h) (sb : StayBut M h h') (he : ¬ M e) (hi : ¬ M it) (hz : ∀ z ∈ l :: as, ¬ M z) : EnumSt e it l ds as k h' := by
  obtain ⟨⟨old, x⟩, ⟨o, y, c, d⟩, r⟩ := st
  exact ⟨⟨old, sb.fields x he rfl⟩, ⟨o, sb.fields y hi d, c, d⟩, r.stay sb hz⟩
theorem EnumSt.there {e it l : Addr} {ds : List D} {as : List Addr} {k : Nat} (st : EnumSt e it l ds as k h) : ∀ b, (b = e ∨ b = it) → ∃ o vs, h.get? b = some o ∧ o.data = .fields vs := by
  obtain ⟨⟨old, x⟩, ⟨o, y, c, d⟩, r⟩ := st
  rintro b (rfl | rfl)
  · exact ⟨_, _, x, rfl⟩
  · exact ⟨_, _, y, d⟩
theorem EnumSt.lists {e it l : Addr} {ds : List D} {as : List Addr} {k : Nat} (st : EnumSt e it l ds as k h) : ∀ z ∈ l :: as, ∃ o vs n, h.get? z = some o ∧ o.data = .seq vs n := fun z hz =>
  let ⟨o, vs, m, e, _, _, d, _⟩ := st.2.2.mem z hz; ⟨o, vs, m, e, d⟩

end
end Mine
set_option Elab.async false
set_option maxRecDepth 100000
set_option linter.unusedVariables false
namespace Mine
open PySem PySem.Calls PyProof.Rows

theorem Rps.rev {h : Heap} : ∀ {vs ds as}, Rps h vs ds as → ∃ bs, Rps h vs.reverse ds.reverse bs ∧ List.Perm bs as
  | _, _, _, .nil => ⟨[], .nil, .nil⟩
  | _, _, _, .cons (as := as) (bs := bs) x y => by
    obtain ⟨cs, h1, h2⟩ := Rps.rev y
    refine ⟨cs ++ (as ++ []), ?_, ?_⟩
    · rw [List.reverse_cons, List.reverse_cons]
      exact Rps.append h1 (.cons x .nil)
    · rw [List.append_nil]
      exact (List.perm_append_comm).trans (List.Perm.append_left as h2)

section
variable {fname : Nat → Str} {g : Gx} {Φ : Calls} {n : Nat} {F : Fm} {sc : Scope} {A : Around} {s s' : Shared} {ρ : Vars} {fp : Nat → List Addr} {h h' : Heap}

theorem reverse_heap {l : Addr} {o : Obj} {vs : Array Value} {k : Nat} {pos : Pos} {Q E : Value → Shared → Prop} (ho : s.heap.get? l = some o) (hc : o.cls = .type "list") (hd : o.data = .seq vs k) (hz : vs.size ≤ sizeLine)
    (hQ : Q .none { s with heap := s.heap.update l (Obj.mapSeq (·.reverse)) }) : wpAny (model g.p g.w) A (callWith pos (.builtin "list.reverse") [.ref l] [] []) Q E s := by
  refine Calls.callWith_builtin rfl (PySem.evalArgs_none ?_)
  refine wpAny_call_entry PySem.F.slot_list_reverse ⟨o, ho, hc⟩ PySem.F.entry_list_reverse ?_ (PySem.F.args_list_reverse_1 _)
  show wpAny _ _ (updateSeq l (·.reverse) >>= fun _ => ret .none) _ _ s
  exact wpAny_bind (wpAny_updateSeq ho hd (wpAny_pure ⟨.none, rfl, hQ⟩) hz (by simp; omega))

theorem sem_reverse {x : Str} {p apos pos epos : Pos} {i : Nat} (hx : (slots sc)[i]? = some x) (hd : (x == ("__debug__" : Str)) = false) (hl : (apos.endLine == pos.line) = true) :
    SemS fname sc (.Expr (.Call (.Attribute (.Name x p) "reverse" apos) [] [] pos) epos) (.reverse i) := by
  intro g Φ n F A s ρ fp Q R E T h hR
  conv at h => whnf
  split at h
  · rename_i xs hi
    obtain ⟨y, v, hy, hv, r⟩ := T.rel.vars i _ (.inr hi)
    rw [hx] at hy; cases hy
    refine wpAny_Expr_any ?_ (not_interactive T) (swaps_no rfl _ _ _)
    refine wpAny_Call_method0_late rfl hl ?_
    refine load_var T hv hd ?_
    generalize hfp : fp i = fi at r
    cases r with
    | @list b o vs en _ as' e1 c di dt sz it =>
      refine ⟨"list", "list.reverse", PySem.F.plainAttrs_list, PySem.F.slot_list_reverse, PySem.F.type_list_reverse, ⟨o, e1, c⟩, fun a e => by cases e; exact ⟨o, e1, di⟩, ?_⟩
      refine reverse_heap e1 c dt sz ?_
      obtain ⟨k', hd'⟩ := Obj.data_mapSeq dt (·.reverse)
      have ho' := Heap.get?_update_self (Obj.mapSeq (·.reverse)) e1 (by
        obtain ⟨oc, od, odt, osl⟩ := o; simp only at dt; subst dt; rfl)
      obtain ⟨o1, o2, o3⟩ := T.rel.own i _ hi
      rw [hfp] at o1 o2 o3
      obtain ⟨bs, r1, r2⟩ := it.rev
      have R₂ := T.rel.mutate hi hfp (Heap.SameBut.update _ _ _) ho' (by cases o; cases c; simp only at dt; subst dt; rfl) (by cases o; cases di; simp only at dt; subst dt; rfl) hd' (by simpa using sz)
        (xs' := xs.reverse) (by simpa using r1) ((List.Perm.cons b r2).nodup_iff.mpr o1) (fun a ha => o2 a (.tail _ (r2.mem_iff.mp ha))) (fun j hj a ha => o3 j hj a (.tail _ (r2.mem_iff.mp ha)))
      exact hR .next .next _ _ _ h trivial ⟨_, _, rfl⟩ R₂
  · exact h.elim

end
end Mine
set_option Elab.async false
set_option maxRecDepth 100000
set_option linter.unusedVariables false
namespace Mine
open PySem PySem.Calls PyProof.Rows

noncomputable def Kp (h h' : Heap) : Prop := ∀ b o, h.get? b = some o → h'.get? b = some o
theorem Kp.trans {h₁ h₂ h₃ : Heap} (x : Kp h₁ h₂) (y : Kp h₂ h₃) : Kp h₁ h₃ := fun b o e => y b o (x b o e)
noncomputable def clOf (env : Env) : List (Str × NameKind) → List (Str × Addr) → List (Str × Addr)
  | [], acc => acc
  | (n, k) :: r, acc => if (k == .free) = true then clOf env r ((n, (env.cells.lookup n).getD 0) :: acc) else clOf env r acc

theorem closure_pure {env : Env} {scope : Scope} (h : ∀ p ∈ scope.names, p.2 = .free → ∃ c, env.cells.lookup p.1 = some c) : closureFor scope env = pure (clOf env scope.names []) := by
  have key : ∀ (names : List (Str × NameKind)) (acc : List (Str × Addr)), (∀ p ∈ names, p.2 = .free → ∃ c, env.cells.lookup p.1 = some c) →
      (forIn names acc (fun (x : Str × NameKind) (cs : List (Str × Addr)) => if (x.2 == .free) = true then (do let a ← cellOf env x.1; pure (ForInStep.yield ((x.1, a) :: cs)) : Sem _) else pure (ForInStep.yield cs))) = pure (clOf env names acc) := by
    intro names
    induction names with
    | nil => intro acc _; rfl
    | cons p r ih =>
      intro acc hp
      obtain ⟨n, k⟩ := p
      rw [List.forIn_cons]
      unfold clOf
      by_cases hk : (k == NameKind.free) = true
      · obtain ⟨c, hc⟩ := hp (n, k) (.head _) (eq_of_beq hk)
        simp only [hk, if_true, cellOf, hc, pure_bind, Option.getD_some]
        exact ih _ fun q hq => hp q (.tail _ hq)
      · simp only [hk, pure_bind]
        exact ih _ fun q hq => hp q (.tail _ hq)
  unfold closureFor
  have := key scope.names [] h
  simp only [bind_pure]
  exact this

theorem look_glob {env : Env} : ∀ {names : List (Str × NameKind)} {x : Str}, names.lookup x = some .globalImplicit →
    (names.map fun (n, k) => if (k == NameKind.free && env.scope.kind == .function && env.kindOf n == some .cell) then (n, NameKind.cell) else (n, k)).lookup x = some .globalImplicit
  | [], _, h => by simp at h
  | (n, k) :: r, x, h => by
    have ih := @look_glob env r x
    show List.lookup x ((if (k == NameKind.free && env.scope.kind == .function && env.kindOf n == some .cell) = true then (n, NameKind.cell) else (n, k)) :: _) = _
    cases hx : x == n with
    | true =>
      simp only [List.lookup_cons, hx] at h
      cases h
      simp [List.lookup_cons, hx]
    | false =>
      simp only [List.lookup_cons, hx] at h
      by_cases hc : (k == NameKind.free && env.scope.kind == .function && env.kindOf n == some .cell) = true
      · rw [if_pos hc]; simp only [List.lookup_cons, hx]; exact ih h
      · rw [if_neg hc]; simp only [List.lookup_cons, hx]; exact ih h

section
variable {fname : Nat → Str} {g : Gx} {Φ : Calls} {n : Nat} {F : Fm} {sc : Scope} {A : Around} {s s' : Shared} {ρ : Vars} {fp : Nat → List Addr} {h h' : Heap}

end
end Mine
set_option Elab.async false
set_option maxRecDepth 100000
set_option linter.unusedVariables false
namespace Mine
open PySem PySem.Calls PyProof.Rows

section
variable {fname : Nat → Str} {g : Gx} {Φ : Calls} {n : Nat} {F : Fm} {sc : Scope} {A : Around} {s s' : Shared} {ρ : Vars} {fp : Nat → List Addr} {h h' : Heap}

theorem swapped_none {x y : Str} {px py tp vp : Pos} {k k' : Nat} {a b : Expr} {env : Env} (hk : env.scope.kind = .function) (hx : env.kindOf x ≠ some .local) (ha : noStar a = true) (hb : noStar b = true) :
    swappedStores [.Tuple [.Name x px, .Name y py] k tp] (.Tuple [a, b] k' vp) env = pure none := by
  have hbk : env.blockKind = .function := by unfold Env.blockKind; rw [hk]; rfl
  have hbn : (env.blockKind != ScopeKind.function) = false := by rw [hbk]; rfl
  have e1 : (env.kindOf x == some .local && (px.line == px.line)) = false := by
    have : (env.kindOf x == some NameKind.local) = false := beq_eq_false_iff_ne.mpr hx
    rw [this]; rfl
  unfold swappedStores
  simp only [pure_bind]
  rw [if_neg (by rw [hbn]; simp)]
  rw [if_neg (fun h => by
    rw [List.any_eq_true] at h
    obtain ⟨e, he, hp⟩ := h
    have he' : noStar e = true := by
      rcases List.mem_cons.mp he with rfl | he
      · exact ha
      · rcases List.mem_cons.mp he with rfl | he
        · exact hb
        · cases he
    cases e <;> first | exact Bool.false_ne_true hp | exact Bool.false_ne_true he')]
  have hl0 : (Option.map (fun x : Expr => x.pos.line) ([.Name x px, .Name y py] : List Expr).head?).getD 0 = px.line := rfl
  simp only [hl0, List.filterMap_cons, List.filterMap_nil, e1]
  rw [if_pos (by simp only [Bool.false_eq_true, if_false]; cases (env.kindOf y == some NameKind.local && (py.line == px.line)) <;> rfl)]

theorem sem_pairF {x y : Str} {px py tp vp pos : Pos} {k k' : Nat} {ea eb : Expr} {a b : X} {i j : Nat} (hx : (slots sc)[i]? = some x) (hy : (slots sc)[j]? = some y) (hkx : sc.names.lookup x = some .cell) (hky : sc.names.lookup y = some .local ∨ sc.names.lookup y = some .cell)
    (hsa : noStar ea = true) (hsb : noStar eb = true) (ha : SemE fname sc ea a) (hb : SemE fname sc eb b) : SemS fname sc (.Assign [.Tuple [.Name x px, .Name y py] k tp] (.Tuple [ea, eb] k' vp) pos) (.pairF i j a b) := by
  intro g Φ n F A s ρ fp Q R E T h hR
  conv at h => whnf
  refine Assign_Tuple ?_ (show swapsWith (.Tuple [ea, eb] k' vp) (some (.Tuple [.Name x px, .Name y py] k tp)) pos.line (F.env sc) = pure false from swaps_no rfl _ _ _) (swapped_none (env := F.env sc) T.kind (by show sc.names.lookup x ≠ _; rw [hkx]; decide) hsa hsb)
  refine wpAny_Tuple ?_
  refine args_cons (ha g Φ n F A s ρ fp _ _ E T h fun v s₁ d f as hk st r fo => args_cons (hb g Φ n F A s₁ ρ fp _ _ E (T.step st) hk fun w s₂ d' f' bs hk' st' r' fo' => args_nil ⟨two_line v w, ?_⟩) (starEach_cons hsb)) (starEach_cons hsa)
  obtain ⟨i1, i2, hq⟩ := hk'
  have st₂ := (st.trans st').push { cls := .type "tuple", data := .seq #[v, w] }
  have ht : IsTup (s₂.heap.push { cls := .type "tuple", data := .seq #[v, w] }) s₂.heap.objs.size #[v, w] := ⟨_, Heap.get?_push_size _ rfl, rfl, 0, rfl⟩
  refine assign_Tuple_tuple (s := { s₂ with heap := s₂.heap.push { cls := .type "tuple", data := .seq #[v, w] } }) T.room.handled ht ?_ ?_ ?_
  all_goals first | rfl | skip
  intro h' hext
  have kp : ∀ b o, (s₂.heap.push { cls := .type "tuple", data := .seq #[v, w] }).get? b = some o → h'.get? b = some o := fun b o e => hext b o (fun q => by
    have := Heap.lt_size e; rw [q] at this; exact Nat.lt_irrefl _ this) e
  have st₃ := st₂.keep kp s₂.toks
  have kp' : Ext s₂.heap h' := (Ext.push _ _).trans (.of_keep kp)
  have T₃ := T.step st₃
  have e1 := r.imm i1
  have e2 := r'.imm i2
  subst e1 e2
  have rv : Rp h' v d [] := (r.ext st'.ext).ext kp'
  have rw' : Rp h' w d' [] := r'.ext kp'
  show wpAny _ A (do holding [w] (assign (.Name x px) (F.env sc) v); assignInOrder [assign (.Name y py) (F.env sc)] [w]) _ E _
  refine wpAny_bind (wpAny_holding (assign_Name (store_rule (i := i) T₃ (.inr hkx) fun h₁ tk₁ S₁ => ?_)))
  have R₁ := T₃.rel.put hx S₁ rv (.inl rfl) (fun _ _ _ _ _ ha => (nomatch ha)) fun q => (nomatch q)
  have T₄ : At fname g Φ n F sc A { s₂ with heap := h₁, toks := tk₁ } (ρ.set i (.val d)) (fun j' => if j' = i then [] else fp j') := T.rel' R₁
  show wpAny _ A (do holding [] (assign (.Name y py) (F.env sc) w); assignInOrder [] []) _ E _
  refine wpAny_bind (wpAny_holding (assign_Name (store_rule (i := j) T₄ hky fun h₂ tk₂ S₂ => wpAny_pure ?_)))
  have R₂ := R₁.put hy S₂ (T₃.rel.rpStay S₁.keep rw') (.inl rfl) (fun _ _ _ _ _ ha => (nomatch ha)) fun q => (nomatch q)
  exact hR .next .next _ _ _ hq trivial (st₃.later.trans (Later.trans ⟨h₁, tk₁, rfl⟩ ⟨h₂, tk₂, rfl⟩)) R₂
end
end Mine
set_option Elab.async false
set_option maxRecDepth 100000
set_option linter.unusedVariables false
namespace Mine
open PySem PySem.Calls PyProof.Rows

section
variable {fname : Nat → Str} {g : Gx} {Φ : Calls} {n : Nat} {F : Fm} {sc : Scope} {A : Around} {s s' : Shared} {ρ : Vars} {fp : Nat → List Addr} {h h' : Heap}

end

end Mine
set_option Elab.async false
set_option maxRecDepth 100000
set_option linter.unusedVariables false
namespace Mine
open PySem PySem.Calls PyProof.Rows

section
variable {fname : Nat → Str} {g : Gx} {Φ : Calls} {n : Nat} {F : Fm} {sc : Scope} {A : Around} {s s' : Shared} {ρ : Vars} {fp : Nat → List Addr} {h h' : Heap}

end
end Mine
set_option Elab.async false
set_option maxRecDepth 100000
set_option linter.unusedVariables false
namespace Mine
open PySem PySem.Calls PyProof.Rows

section
variable {prog : Program} {w : World} {A : Around} {E : Value → Shared → Prop} {h : Heap} {g : Array GenState} {d : Drawn} {t : Nat} {os : OsState}
variable {nm q : Str} {C N : Addr} {bs bm : List Value} {hdct : Bool} {sn : List Str} {sub : List Value} {ab : Bool} {col : Option Bool} {dd : Option Addr} {k0 k1 k2 k3 k5 : Option Value} {newId : String}
variable {nm' q' : Str} {C' N' : Addr} {bs' bm' : List Value} {hdct' : Bool} {sn' : List Str} {sub' : List Value} {ab' : Bool} {col' : Option Bool} {dd' : Option Addr} {k0' k1' k2' k3' k5' : Option Value} {newId' : String}

end

structure Hid (F : Fm) (sc : Scope) (h h' : Heap) (x : Str) : Prop where
  oth : ∀ y w, y ≠ x → VarIs (F.env sc) h y w → VarIs (F.env sc) h' y w
  keep : ∀ b o, h.get? b = some o → ¬ Priv F b → h'.get? b = some o
  ns : ∃ m, h'.Ns F.L m
  cells : ∀ p ∈ F.cl, ∃ o v, h'.get? p.2 = some o ∧ o.data = .cell v
section
variable {fname : Nat → Str} {g : Gx} {Φ : Calls} {n : Nat} {F : Fm} {sc : Scope} {A : Around} {s s' : Shared} {ρ : Vars} {fp : Nat → List Addr} {h h' : Heap}

end
end Mine
set_option Elab.async false
set_option maxRecDepth 100000
set_option linter.unusedVariables false
namespace Mine
open PySem PySem.Calls PyProof.Rows

section
variable {fname : Nat → Str} {g : Gx} {Φ : Calls} {n : Nat} {F : Fm} {sc : Scope} {A : Around} {s s' : Shared} {ρ : Vars} {fp : Nat → List Addr} {h h' : Heap}

end
end Mine
set_option Elab.async false
set_option maxRecDepth 100000
set_option linter.unusedVariables false
namespace Mine
open PySem PySem.Calls PyProof.Rows

theorem stay_list {h h' : Heap} {a : Addr} {o : Obj} (e : h.get? a = some o) (hc : o.cls = .type "list") (hs : Heap.SameBut a h h') : StayBut (· = a) h h' :=
  ⟨fun b o' e' hb => .inl ((hs.2 b hb).trans e'), fun b o' hb e' => .inl (by rw [show b = a from hb, e] at e'; cases e'; rw [hc]; decide)⟩

theorem Rps.upd {h : Heap} : ∀ {vs ds as}, Rps h vs ds as → as.Nodup → ∀ {k : Nat} {xs : List D}, ds[k]? = some (.list xs) →
    ∃ (a : Addr) (o : Obj) (ws : Array Value) (m : Nat) (sub : List Addr), vs[k]? = some (.ref a) ∧ a ∈ as ∧ h.get? a = some o ∧ o.cls = .type "list" ∧ o.dict = none ∧ o.data = .seq ws m ∧ ws.size ≤ sizeLine ∧ a ∉ sub ∧ Rps h ws.toList xs sub ∧
      ∀ (h' : Heap) (o' : Obj) (ws' : Array Value) (m' : Nat) (xs' : List D), Heap.SameBut a h h' → h'.get? a = some o' → o'.cls = .type "list" → o'.dict = none → o'.data = .seq ws' m' → ws'.size ≤ sizeLine → Rps h' ws'.toList xs' sub → Rps h' vs (ds.set k (.list xs')) as
  | _, _, _, .nil, _, k, xs, e => by simp at e
  | _, _, _, .cons (as := as) (bs := bs) x y, nd, 0, xs, e => by
    simp only [List.getElem?_cons_zero, Option.some.injEq] at e
    subst e
    cases x with
    | @list a o ws m _ sub e1 c di dt sz it =>
      have hn := List.nodup_append.mp nd
      have hn1 := List.nodup_cons.mp hn.1
      refine ⟨a, o, ws, m, sub, rfl, by simp, e1, c, di, dt, sz, hn1.1, it, fun h' o' ws' m' xs' hs ho' hc' hdi' hd' hz' r' => ?_⟩
      refine Rps.cons (.list ho' hc' hdi' hd' hz' r') (y.stay (stay_list e1 c hs) fun b hb q => ?_)
      exact hn.2.2 a (.head _) b hb q.symm
  | _, _, _, .cons (as := as) (bs := bs) x y, nd, k + 1, xs, e => by
    simp only [List.getElem?_cons_succ] at e
    have hn := List.nodup_append.mp nd
    obtain ⟨a, o, ws, m, sub, h1, h2, h3, h4, h5, h6, h7, h8, h9, h10⟩ := Rps.upd y hn.2.1 e
    refine ⟨a, o, ws, m, sub, by simpa using h1, List.mem_append_right _ h2, h3, h4, h5, h6, h7, h8, h9, fun h' o' ws' m' xs' hs ho' hc' hdi' hd' hz' r' => ?_⟩
    refine Rps.cons (x.stay (stay_list h3 h4 hs) fun b hb q => ?_) (h10 h' o' ws' m' xs' hs ho' hc' hdi' hd' hz' r')
    exact hn.2.2 b hb a h2 q

section
variable {fname : Nat → Str} {g : Gx} {Φ : Calls} {n : Nat} {F : Fm} {sc : Scope} {A : Around} {s s' : Shared} {ρ : Vars} {fp : Nat → List Addr} {h h' : Heap}

theorem Rel.mutateIn (R : Rel g F sc h ρ fp) {i : Nat} {a : Addr} {d₀ d₁ : D} {o' : Obj} {vs' : Array Value} {k' : Nat} (hi : ρ[i]? = some (.own d₀)) (ha : a ∈ fp i)
    (hs : Heap.SameBut a h h') (ho' : h'.get? a = some o') (hd : o'.data = .seq vs' k') {x : Str} {v : Value} (hx : (slots sc)[i]? = some x) (hv : VarIs (F.env sc) h x v) (new : Rp h' v d₁ (fp i)) :
    Rel g F sc h' (ρ.set i (.own d₁)) fp := by
  obtain ⟨o1, o2, o3⟩ := R.own i _ hi
  have hlt : i < ρ.length := by rw [List.getElem?_eq_some_iff] at hi; exact hi.1
  have hi' : (ρ.set i (.own d₁))[i]? = some (.own d₁) := by simp [hlt]
  have hj : ∀ j, j ≠ i → (ρ.set i (.own d₁))[j]? = ρ[j]? := fun j hne => by simp [Ne.symm hne]
  obtain ⟨ob, vb, kb, eb, cb, db, qb, zb⟩ := R.fp_there i a ha
  have hLa : F.L ≠ a := fun q => by
    obtain ⟨m, o2, es, ep, ho2, hd2, _⟩ := R.ns
    rw [q, eb] at ho2; cases ho2; rw [qb] at hd2; cases hd2
  have hca : ∀ p ∈ F.cl, p.2 ≠ a := fun p hp q => by
    obtain ⟨_, _, o2, w, ho2, hd2⟩ := R.cells p hp
    rw [q, eb] at ho2; cases ho2; rw [qb] at hd2; cases hd2
  have sb : StayBut (· = a) h h' := ⟨fun b o e hb => .inl ((hs.2 b hb).trans e), fun b o hb e => .inl (by
    rw [show b = a from hb, eb] at e; cases e; rw [cb]; decide)⟩
  have vs_ok : ∀ y w, VarIs (F.env sc) h y w → VarIs (F.env sc) h' y w := by
    intro y w hv
    rcases hv with ⟨hl, m, hm, hv⟩ | ⟨hl, c, o2, h1, h2, h3⟩
    · exact .inl ⟨hl, m, Heap.Ns.sameBut hm hs hLa, hv⟩
    · exact .inr ⟨hl, c, o2, h1, (hs.2 c (hca _ (mem_of_look h1))).trans h2, h3⟩
  have hHa := o2 a ha
  refine ⟨fun b o e => (hs.2 b fun q => ?_).trans (R.stays b o e), fun b o e => ?_, FunFrames.data (fun b o e hd' => ?_) R.frames, ?_, R.hL, fun p hp => ?_, R.cnd, R.ccov, by simpa using R.len, R.nd, fun j e he => ?_, fun j e => ?_, fun j e he => ?_⟩
  · rw [q, hHa.2] at e; cases e
  · have hb : b ≠ a := fun q => by rw [q, hHa.1] at e; cases e
    rw [hs.2 b hb]; exact R.held b o e
  · by_cases hb : b = a
    · subst hb; exact ⟨o', ho', fun vs q => by rw [hd] at q; cases q⟩
    · exact ⟨o, (hs.2 b hb).trans e, hd'⟩
  · obtain ⟨m, hm⟩ := R.ns; exact ⟨m, hm.sameBut hs hLa⟩
  · obtain ⟨c1, c2, o2, w, c3, c4⟩ := R.cells p hp
    exact ⟨c1, c2, o2, w, (hs.2 p.2 (hca p hp)).trans c3, c4⟩
  · by_cases hne : j = i
    · subst hne
      rw [hi'] at he
      have : e = d₁ := by rcases he with q | q <;> cases q; rfl
      subst this
      exact ⟨x, v, hx, vs_ok x v hv, new⟩
    · rw [hj j hne] at he
      obtain ⟨y, w, hy, hv', hr⟩ := R.vars j e he
      refine ⟨y, w, hy, vs_ok y w hv', hr.stay sb fun b hb q => ?_⟩
      rw [show b = a from q] at hb
      exact o3 j hne a ha hb
  · by_cases hne : j = i
    · subst hne; rw [hi'] at e; exact absurd rfl (e d₁).2
    · rw [hj j hne] at e; exact R.nofp j e
  · by_cases hne : j = i
    · subst hne; exact ⟨o1, o2, o3⟩
    · rw [hj j hne] at he; exact R.own j e he

theorem sem_appendAt {x : Str} {p q sp apos q2 pos epos : Pos} {i k kk kk2 : Nat} {z : Int} (hx : (slots sc)[i]? = some x) (hd : (x == ("__debug__" : Str)) = false) (hl : (apos.endLine == pos.line) = true) (hk : k < 1000) :
    SemS fname sc (.Expr (.Call (.Attribute (.Subscript (.Name x p) (.Constant (.int (k : Int)) kk q) sp) "append" apos) [.Constant (.int z) kk2 q2] [] pos) epos) (.appendAt i k z) := by
  intro g Φ n F A s ρ fp Q R E T h hR
  conv at h => whnf
  split at h
  · rename_i ds hi
    split at h
    · rename_i xs hds
      obtain ⟨hsz, hQ⟩ := h
      obtain ⟨y, v, hy, hv, r⟩ := T.rel.vars i _ (.inr hi)
      rw [hx] at hy; cases hy
      have hnd := (T.rel.own i _ hi).1
      refine wpAny_Expr_any ?_ (not_interactive T) (swaps_no rfl _ _ _)
      refine wpAny_Call_append rfl rfl hl rfl ?_
      refine Subscript_ (load_var T hv hd (wpAny_Constant_int ?_))
      generalize hfp : fp i = fi at r hnd
      cases r with
      | @tuple t o vs en _ _ e1 c di dt sz it =>
        obtain ⟨a, oa, ws, m, sub, u1, u2, u3, u4, u5, u6, u7, u8, u9, u10⟩ := Rps.upd it hnd hds
        have hu : vs[k]? = some (.ref a) := by simpa using u1
        have hlt : k < vs.size := by
          have := (List.getElem?_eq_some_iff.mp u1).1; simpa using this
        refine tail_any (T := "tuple") ⟨_, e1, c⟩ slot_tuple_getitem.lookup ?_ (subscripted_plain rfl _ _)
        refine PyProof.Rows.getItem_tuple (j := k) ⟨_, e1, c, _, dt⟩ (by omega) (by omega) ?_ hu ?_
        · unfold seqIndex?
          simp only [show ¬ ((k : Int) < 0) by omega, if_false]
          first | (rw [if_pos (by omega)]; simp) | (rw [if_neg (by omega)]; simp) | (simp; omega)
        · refine ⟨a, ws, rfl, ⟨oa, m, u3, u4, u5, u6⟩, wpAny_Constant_int ?_⟩
          have hl' : ws.size = xs.length := by simpa using u9.length
          have hz' : ws.size + 1 ≤ sizeLine := by rw [hl']; exact hsz
          have key : ∀ (tok : Tok) (s₁ : Shared), Later s s₁ → s₁.heap = s.heap → wpAny (model g.p g.w) A (call (.builtin "list.append") [.ref a, .int z tok]) (fun _ s' => R .next s') E s₁ := by
            intro tok s₁ hl₁ hh
            rw [← hh] at u3
            refine append_heap u3 u4 u6 (Nat.le_of_succ_le hz') ?_
            obtain ⟨k', hd'⟩ := Obj.data_mapSeq u6 (·.push (.int z tok))
            have ho' := Heap.get?_update_self (Obj.mapSeq (·.push (Value.int z tok))) u3 (by
              obtain ⟨oc, od, odt, osl⟩ := oa; simp only at u6; subst u6; rfl)
            have hs := Heap.SameBut.update s₁.heap a (Obj.mapSeq (·.push (Value.int z tok)))
            rw [hh] at hs u3
            have hta : t ≠ a := fun q => by rw [q, u3] at e1; cases e1; exact absurd (u4.symm.trans c) (by decide)
            have hcl : (Obj.mapSeq (·.push (Value.int z tok)) oa).cls = .type "list" := by cases oa; cases u4; simp only at u6; subst u6; rfl
            have hdi : (Obj.mapSeq (·.push (Value.int z tok)) oa).dict = none := by cases oa; cases u5; simp only at u6; subst u6; rfl
            have hit := u10 _ _ _ _ (xs ++ [.int z]) hs (by rw [hh] at ho'; exact ho') hcl hdi hd' (by simpa using hz') (by
              have := Rps.append (u9.stay (stay_list u3 u4 hs) fun b hb q => u8 ((show b = a from q) ▸ hb)) (.cons (.int z tok) .nil)
              simpa using this)
            have R₂ := T.rel.mutateIn (d₁ := .tuple (ds.set k (.list (xs ++ [.int z])))) hi (by rw [hfp]; exact u2) hs (by rw [hh] at ho'; exact ho') hd' hx hv (by
              rw [hfp]; exact .tuple ((hs.2 t hta).trans e1) c di dt sz hit)
            obtain ⟨h₁, tk₁, rfl⟩ := hl₁
            exact hR .next .next _ _ _ hQ trivial ⟨_, _, rfl⟩ (by rw [show h₁ = s.heap from hh]; exact R₂)
          exact key _ _ ⟨_, _, rfl⟩ rfl
    · exact h.elim
  · exact h.elim
end
end Mine
set_option Elab.async false
set_option maxRecDepth 100000
set_option linter.unusedVariables false
namespace Mine
open PySem PySem.Calls PyProof.Rows

theorem swaps_yes {el : Expr} {gs : List Comprehension} {scope : Scope} {pos py : Pos} {y : Str} {line : Nat} {env : Env} (hk : env.scope.kind = .function) (hy : env.kindOf y = some .local) (hl : (py.line == pos.line) = true)
    (ha : (scope.names.any fun p => p.1 == y && (p.2 == .local || p.2 == .cell)) = false) : swapsWith (.ListComp el gs scope pos) (some (.Name y py)) line env = pure true := by
  have hbk : env.blockKind = .function := by unfold Env.blockKind; rw [hk]; rfl
  have ha' : (scope.names.any fun (n, k) => n == y && (k == .local || k == .cell)) = false := ha
  unfold swapsWith
  simp only [pure_bind, hbk, hy]
  rw [ha']
  simp [Expr.pos, hl]

section
variable {fname : Nat → Str} {g : Gx} {Φ : Calls} {n : Nat} {F : Fm} {sc : Scope} {A : Around} {s s' : Shared} {ρ : Vars} {fp : Nat → List Addr} {h h' : Heap}

theorem Rel.putN (R : Rel g F sc h ρ fp) {x : Str} {i : Nat} {v : Value} {d : D} {as : List Addr} {c : Cell} (hx : (slots sc)[i]? = some x) (S : Stored F sc h h' x v) (r : Rp h' v d as) (hc : c = .val d ∨ c = .own d)
    (hown : ∀ j e, j ≠ i → ρ[j]? = some (.own e) → ∀ a ∈ as, a ∉ fp j) (hnew : c = .own d → as.Nodup ∧ (∀ a ∈ as, F.H a = none ∧ g.base.get? a = none) ∧ ∀ j, j ≠ i → ∀ a ∈ as, a ∉ fp j) :
    Rel g F sc h' (ρ.set i c) (fun j => if j = i then as else fp j) := by
  have hlt : i < ρ.length := by rw [R.len]; rw [List.getElem?_eq_some_iff] at hx; exact hx.1
  have hi : (ρ.set i c)[i]? = some c := by simp [hlt]
  have hj : ∀ j, j ≠ i → (ρ.set i c)[j]? = ρ[j]? := fun j hne => by simp [List.getElem?_set, Ne.symm hne]
  refine ⟨fun b o e => S.keep b o (R.stays b o e) ?_, fun b o e => ?_, FunFrames.data (fun b o e hd => ?_) R.frames, S.ns, R.hL, fun p hp => ?_, R.cnd, R.ccov, by simpa using R.len, R.nd, fun j e he => ?_, fun j e => ?_, fun j e he => ?_⟩
  · rintro (rfl | ⟨p, hp, rfl⟩)
    · rw [R.baseL] at e; cases e
    · rw [(R.cells p hp).2.1] at e; cases e
  · have hb : ¬ Priv F b := by
      rintro (rfl | ⟨p, hp, rfl⟩)
      · rw [R.hL] at e; cases e
      · rw [(R.cells p hp).1] at e; cases e
    rcases R.held b o e with q | ⟨hd, sl, q⟩
    · exact .inl (S.keep b o q hb)
    · exact .inr ⟨hd, sl, S.keep b _ q hb⟩
  · by_cases hb : Priv F b
    · rcases hb with rfl | ⟨p, hp, rfl⟩
      · obtain ⟨m, o', es, ep, ho, hd', _⟩ := S.ns
        exact ⟨o', ho, fun vs q => by rw [hd'] at q; cases q⟩
      · obtain ⟨o', w, ho, hd'⟩ := S.cells p hp
        exact ⟨o', ho, fun vs q => by rw [hd'] at q; cases q⟩
    · exact ⟨o, S.keep b o e hb, hd⟩
  · obtain ⟨a, b, _⟩ := R.cells p hp
    exact ⟨a, b, S.cells p hp⟩
  · by_cases hne : j = i
    · subst hne
      rw [hi] at he
      have he' : e = d := by rcases hc with q | q <;> rcases he with p | p <;> rw [q] at p <;> cases p <;> rfl
      subst he'
      rw [if_pos rfl]
      exact ⟨x, v, hx, S.is, r⟩
    · rw [hj j hne] at he
      rw [if_neg hne]
      obtain ⟨y, w, hy, hv, hr⟩ := R.vars j e he
      exact ⟨y, w, hy, S.oth y w (slots_ne R.nd hx hy hne) hv, R.rpStay S.keep hr⟩
  · by_cases hne : j = i
    · subst hne
      rw [hi] at e
      rcases hc with q | q
      · exact absurd (congrArg some q) (e d).1
      · exact absurd (congrArg some q) (e d).2
    · rw [hj j hne] at e
      rw [if_neg hne]; exact R.nofp j e
  · by_cases hne : j = i
    · subst hne
      rw [hi] at he
      have hcd : c = .own d := by
        rcases hc with q | q
        · rw [q] at he; cases he
        · exact q
      have q := hnew hcd
      simp only [if_true]
      refine ⟨q.1, q.2.1, fun k hk a ha => ?_⟩
      rw [if_neg hk]; exact q.2.2 k hk a ha
    · rw [hj j hne] at he
      simp only [if_neg hne]
      obtain ⟨o1, o2, o3⟩ := R.own j e he
      refine ⟨o1, o2, fun k hk a ha => ?_⟩
      by_cases hki : k = i
      · rw [if_pos hki]; exact fun q => hown j e hne he a q ha
      · rw [if_neg hki]; exact o3 k hk a ha

end
end Mine
set_option Elab.async false
set_option maxRecDepth 100000
set_option linter.unusedVariables false
namespace Mine
open PySem PySem.Calls PyProof.Rows

section
variable {prog : Program} {w : World} {A : Around} {E : Value → Shared → Prop} {h : Heap} {g : Array GenState} {d : Drawn} {t : Nat} {os : OsState}
variable {nm q : Str} {C N : Addr} {bs bm : List Value} {hdct : Bool} {sn : List Str} {sub : List Value} {ab : Bool} {col : Option Bool} {dd : Option Addr} {k0 k1 k2 k3 k5 : Option Value} {newId : String}
variable {nm' q' : Str} {C' N' : Addr} {bs' bm' : List Value} {hdct' : Bool} {sn' : List Str} {sub' : List Value} {ab' : Bool} {col' : Option Bool} {dd' : Option Addr} {k0' k1' k2' k3' k5' : Option Value} {newId' : String}

end

section
variable {fname : Nat → Str} {g : Gx} {Φ : Calls} {n : Nat} {F : Fm} {sc : Scope} {A : Around} {s s' : Shared} {ρ : Vars} {fp : Nat → List Addr} {h h' : Heap}

end
end Mine
set_option Elab.async false
set_option maxRecDepth 100000
set_option linter.unusedVariables false
namespace Mine
open PySem PySem.Calls PyProof.Rows

section
variable {fname : Nat → Str} {g : Gx} {Φ : Calls} {n : Nat} {F : Fm} {sc : Scope} {A : Around} {s s' : Shared} {ρ : Vars} {fp : Nat → List Addr} {h h' : Heap}

end
end Mine
set_option Elab.async false
set_option maxRecDepth 100000
set_option linter.unusedVariables false
namespace Mine
open PySem PySem.Calls PyProof.Rows

section
variable {fname : Nat → Str} {g : Gx} {Φ : Calls} {n : Nat} {F : Fm} {sc : Scope} {A : Around} {s s' : Shared} {ρ : Vars} {fp : Nat → List Addr} {h h' : Heap}

theorem Rel.forget (R : Rel g F sc h ρ fp) (i : Nat) : Rel g F sc h (ρ.set i .unset) (fun j => if j = i then [] else fp j) := by
  have hne : ∀ j, j ≠ i → (ρ.set i .unset)[j]? = ρ[j]? := fun j h => by simp [List.getElem?_set, Ne.symm h]
  have hi : ∀ d, (ρ.set i .unset)[i]? ≠ some (.val d) ∧ (ρ.set i .unset)[i]? ≠ some (.own d) := fun d => by
    rw [List.getElem?_set]; simp only [if_true]
    constructor <;> split <;> simp
  refine ⟨R.stays, R.held, R.frames, R.ns, R.hL, R.cells, R.cnd, R.ccov, by simpa using R.len, R.nd, fun j d e => ?_, fun j e => ?_, fun j d e => ?_⟩
  · by_cases hj : j = i
    · subst hj; rcases e with e | e
      · exact absurd e (hi d).1
      · exact absurd e (hi d).2
    · rw [hne j hj] at e; rw [if_neg hj]; exact R.vars j d e
  · by_cases hj : j = i
    · rw [if_pos hj]
    · rw [hne j hj] at e; rw [if_neg hj]; exact R.nofp j e
  · by_cases hj : j = i
    · subst hj; exact absurd e (hi d).2
    · rw [hne j hj] at e
      obtain ⟨o1, o2, o3⟩ := R.own j d e
      simp only [if_neg hj]
      refine ⟨o1, o2, fun k hk a ha q => ?_⟩
      by_cases hki : k = i
      · rw [if_pos hki] at q; cases q
      · rw [if_neg hki] at q; exact o3 k hk a ha q

theorem VarIs.same (R : Rel g F sc h ρ fp) {a : Addr} {o : Obj} {vs : Array Value} {k : Nat} (e : h.get? a = some o) (hd : o.data = .seq vs k) (hs : Heap.SameBut a h h') {y : Str} {w : Value} (hv : VarIs (F.env sc) h y w) : VarIs (F.env sc) h' y w := by
  have hLa : F.L ≠ a := fun q => by
    obtain ⟨m, o2, es, ep, ho2, hd2, _⟩ := R.ns
    rw [q, e] at ho2; cases ho2; rw [hd] at hd2; cases hd2
  have hca : ∀ p ∈ F.cl, p.2 ≠ a := fun p hp q => by
    obtain ⟨_, _, o2, w, ho2, hd2⟩ := R.cells p hp
    rw [q, e] at ho2; cases ho2; rw [hd] at hd2; cases hd2
  rcases hv with ⟨hl, m, hm, hv⟩ | ⟨hl, c, o2, h1, h2, h3⟩
  · exact .inl ⟨hl, m, Heap.Ns.sameBut hm hs hLa, hv⟩
  · exact .inr ⟨hl, c, o2, h1, (hs.2 c (hca _ (mem_of_look h1))).trans h2, h3⟩

theorem seq_at {k n : Nat} (h : k < n) : seqIndex? (k : Int) n = some k := by
  unfold seqIndex?
  simp only [show ¬ ((k : Int) < 0) by omega, if_false]
  first | (rw [if_pos (by omega)]; simp) | (rw [if_neg (by omega)]; simp) | (simp; omega)

theorem tup_at {t : Addr} {o : Obj} {vs : Array Value} {en k kk : Nat} {x : Str} {p q sp : Pos} {u : Value} {Q E : Value → Shared → Prop} (T : At fname g Φ n F sc A s ρ fp) (hv : VarIs (F.env sc) s.heap x (.ref t)) (hd : (x == ("__debug__" : Str)) = false)
    (e : s.heap.get? t = some o) (c : o.cls = .type "tuple") (dt : o.data = .seq vs en) (hu : vs[k]? = some u) (hk : k < 1000) (hQ : ∀ tk, Q u { s with toks := tk }) : wpAny (model g.p g.w) A (eval (.Subscript (.Name x p) (.Constant (.int (k : Int)) kk q) sp) (F.env sc)) Q E s := by
  refine Subscript_ (load_var T hv hd (wpAny_Constant_int ?_))
  have hlt : k < vs.size := by
    have := (Array.getElem?_eq_some_iff.mp hu).1; exact this
  refine tail_any (T := "tuple") ⟨_, e, c⟩ slot_tuple_getitem.lookup ?_ (subscripted_plain rfl _ _)
  exact PyProof.Rows.getItem_tuple (j := k) ⟨_, e, c, _, dt⟩ (by omega) (by omega) (seq_at hlt) hu (hQ _)

noncomputable def isRung (x xp xf xs : Str) (p apos pos epos pp q sp pf ps pos2 ps' pp' q' sp' pos3 : Pos) (kk kk' : Nat) (r : List Stmt) : List Stmt :=
  .Expr (.Call (.Attribute (.Name x p) "append" apos) [.Subscript (.Name xp pp) (.Constant (.int 0) kk q) sp] [] pos) epos ::
  .Assign [.Name xf pf] (.Name xs ps) pos2 :: .Assign [.Name xs ps'] (.Subscript (.Name xp pp') (.Constant (.int 1) kk' q') sp') pos3 :: r

theorem sem_rung {x xp xf xs : Str} {p apos pos epos pp q sp pf ps pos2 ps' pp' q' sp' pos3 : Pos} {kk kk' : Nat} {r : List Stmt} {y : Ss} {st pr fi se : Nat}
    (hx : (slots sc)[st]? = some x) (hxp : (slots sc)[pr]? = some xp) (hxf : (slots sc)[fi]? = some xf) (hxs : (slots sc)[se]? = some xs)
    (hd : (x == ("__debug__" : Str)) = false) (hdp : (xp == ("__debug__" : Str)) = false) (hds : (xs == ("__debug__" : Str)) = false) (hl : (apos.endLine == pos.line) = true)
    (hkf : sc.names.lookup xf = some .local ∨ sc.names.lookup xf = some .cell) (hks : sc.names.lookup xs = some .local ∨ sc.names.lookup xs = some .cell)
    (h1 : st ≠ pr) (h2 : st ≠ fi) (h3 : st ≠ se) (h4 : pr ≠ fi) (h5 : pr ≠ se) (h6 : fi ≠ se) (hr : SemSs fname sc r y) :
    SemSs fname sc (isRung x xp xf xs p apos pos epos pp q sp pf ps pos2 ps' pp' q' sp' pos3 kk kk' r) (.cons (.rung st pr fi se) y) := by
  intro g Φ n F A s ρ fp Q R E T h hR
  conv at h => whnf
  obtain ⟨ls, a, b, c, e1, e2, e3, hz, hQ⟩ := h
  obtain ⟨y1, v1, hy1, hv1, r1⟩ := T.rel.vars st _ (.inr e1)
  rw [hx] at hy1; cases hy1
  obtain ⟨y2, v2, hy2, hv2, r2⟩ := T.rel.vars pr _ (.inr e2)
  rw [hxp] at hy2; cases hy2
  have own1 := T.rel.own st _ e1
  have own2 := T.rel.own pr _ e2
  have own3 := T.rel.own se _ e3
  generalize hf1 : fp st = f1 at r1
  generalize hf2 : fp pr = f2 at r2
  rw [hf1] at own1
  rw [hf2] at own2
  cases r1 with
  | @list la lo lvs len _ las le lc ldi ldt lsz lit =>
    cases r2 with
    | @tuple ta to tvs ten _ _ te tc tdi tdt tsz tit =>
      generalize htl : tvs.toList = tl at tit
      cases tit with
      | @cons va vs' _ _ asa bs ra tit' =>
        cases tit' with
        | @cons vb vs'' _ _ asb bs' rb tit'' =>
          cases tit''
          rw [List.append_nil] at own2 hf2
          have hva : tvs[0]? = some va := by rw [← Array.getElem?_toList, htl]; rfl
          have hvb : tvs[1]? = some vb := by rw [← Array.getElem?_toList, htl]; rfl
          refine wpAny_execs_cons (wpAny_Expr_any ?_ (not_interactive T) (swaps_no rfl _ _ _))
          refine wpAny_Call_append rfl rfl hl rfl ?_
          refine load_var T hv1 hd ⟨la, lvs, rfl, ⟨lo, len, le, lc, ldi, ldt⟩, ?_⟩
          refine tup_at (k := 0) T hv2 hdp te tc tdt hva (by decide) fun tk => ?_
          have hl' : lvs.size = ls.length := by simpa using lit.length
          have hz' : lvs.size + 1 ≤ sizeLine := by rw [hl']; exact hz
          refine append_heap (s := { s with toks := tk }) le lc ldt (Nat.le_of_succ_le hz') ?_
          obtain ⟨k', hd'⟩ := Obj.data_mapSeq (o := lo) ldt (·.push va)
          have ho' := Heap.get?_update_self (Obj.mapSeq (·.push va)) le (by
            obtain ⟨oc, od, odt, osl⟩ := lo; simp only at ldt; subst ldt; rfl)
          have hs := Heap.SameBut.update s.heap la (Obj.mapSeq (·.push va))
          -- the pair is let go
          have R₀ := T.rel.forget pr
          have e1' : (ρ.set pr .unset)[st]? = some (.own (.list ls)) := by simp [List.getElem?_set, Ne.symm h1, e1]
          have e3' : (ρ.set pr .unset)[se]? = some (.own c) := by simp [List.getElem?_set, h5, e3]
          have dis21 : ∀ z ∈ asa ++ asb, z ∉ la :: las := fun z hz q => own2.2.2 st h1 z hz (by rw [hf1]; exact q)
          have nda := (List.nodup_append.mp own2.1)
          have nd : (la :: (las ++ (asa ++ []))).Nodup := by
            rw [List.append_nil]
            obtain ⟨n1, n2⟩ := List.nodup_cons.mp own1.1
            refine List.nodup_cons.mpr ⟨fun q => ?_, List.nodup_append.mpr ⟨n2, nda.1, fun z hz z' hz' hzz => ?_⟩⟩
            · rcases List.mem_append.mp q with q | q
              · exact n1 q
              · exact dis21 la (List.mem_append_left _ q) (.head _)
            · subst hzz; exact dis21 z (List.mem_append_left _ hz') (.tail _ hz)
          have R₁ := R₀.mutate e1' (by simp only [if_neg h1]; exact hf1) hs ho' (by cases lo; cases lc; simp only at ldt; subst ldt; rfl) (by cases lo; cases ldi; simp only at ldt; subst ldt; rfl) hd' (by simpa using hz')
            (xs' := ls ++ [a]) (by simpa using Rps.append lit (.cons ra .nil)) nd (fun z hz => ?_) (fun j hj z hz => ?_)
          rotate_left
          · rw [List.append_nil] at hz
            rcases List.mem_append.mp hz with hz | hz
            · exact own1.2.1 z (.tail _ hz)
            · exact own2.2.1 z (List.mem_append_left _ hz)
          · rw [List.append_nil] at hz
            by_cases hjp : j = pr
            · rw [if_pos hjp]; exact fun q => (nomatch q)
            · rw [if_neg hjp]
              rcases List.mem_append.mp hz with hz | hz
              · exact own1.2.2 j hj z (.tail _ hz)
              · exact own2.2.2 j hjp z (List.mem_append_left _ hz)
          generalize hH₁ : s.heap.update la (Obj.mapSeq (·.push va)) = H₁ at *
          generalize hfp₁ : (fun j => if j = st then la :: (las ++ (asa ++ [])) else (fun j => if j = pr then [] else fp j) j) = fp₁ at R₁
          have T₁ : At fname g Φ n F sc A { s with heap := H₁, toks := tk } ((ρ.set pr .unset).set st (.own (.list (ls ++ [a])))) fp₁ := T.rel' (s' := { s with heap := H₁, toks := tk }) R₁
          have hv2' : VarIs (F.env sc) H₁ xp (.ref ta) := VarIs.same T.rel le ldt hs hv2
          have hta : ta ≠ la := fun q => by rw [q, le] at te; cases te; exact absurd (lc.symm.trans tc) (by decide)
          have te' : H₁.get? ta = some to := (hs.2 ta hta).trans te
          have rb' : Rp H₁ vb b asb := rb.stay (stay_list le lc hs) fun z hz q => dis21 z (List.mem_append_right _ hz) (by rw [show z = la from q]; exact .head _)
          have e3'' : ((ρ.set pr .unset).set st (.own (.list (ls ++ [a]))))[se]? = some (.own c) := by simp [List.getElem?_set, h3, h5, e3]
          obtain ⟨y3, v3, hy3, hv3, r3⟩ := R₁.vars se _ (.inr e3'')
          rw [hxs] at hy3; cases hy3
          have hfs : fp₁ se = fp se := by rw [← hfp₁]; simp [Ne.symm h3, Ne.symm h5]
          rw [hfs] at r3
          -- first = second
          refine wpAny_execs_cons (wpAny_Assign_Name (load_var T₁ hv3 hds ?_) (swaps_no rfl _ _ _))
          refine store_rule (i := fi) T₁ hkf fun H₂ tk₂ S₂ => ?_
          have own3' := R₁.own se _ e3''
          rw [hfs] at own3'
          have R₂ := (R₁.forget se).put hxf S₂ r3 (c := .own c) (.inr rfl) (fun j e hj he z hz q => ?_) (fun _ => ⟨own3'.1, own3'.2.1, fun j hj z hz q => ?_⟩)
          rotate_left
          · by_cases hjs : j = se
            · rw [if_pos hjs] at q; cases q
            · rw [if_neg hjs] at q; exact own3'.2.2 j hjs z hz q
          · by_cases hjs : j = se
            · rw [if_pos hjs] at q; cases q
            · rw [if_neg hjs] at q; exact own3'.2.2 j hjs z hz q
          generalize hfp₂ : (fun j => if j = fi then fp se else (fun j => if j = se then [] else fp₁ j) j) = fp₂ at R₂
          have T₂ : At fname g Φ n F sc A { s with heap := H₂, toks := tk₂ } ((((ρ.set pr .unset).set st (.own (.list (ls ++ [a])))).set se .unset).set fi (.own c)) fp₂ := T.rel' (s' := { s with heap := H₂, toks := tk₂ }) R₂
          have hv2'' : VarIs (F.env sc) H₂ xp (.ref ta) := S₂.oth _ _ (slots_ne R₁.nd hxf hxp h4) hv2'
          have te'' : H₂.get? ta = some to := S₂.keep ta to te' fun q => R₁.privData q te' _ _ tdt
          have rb'' : Rp H₂ vb b asb := R₁.rpStay S₂.keep rb'
          -- second = pair[1]
          refine wpAny_execs_cons (wpAny_Assign_Name (tup_at (k := 1) T₂ hv2'' hdp te'' tc tdt hvb (by decide) fun tk₃ => ?_) (swaps_no rfl _ _ _))
          have T₂' : At fname g Φ n F sc A { s with heap := H₂, toks := tk₃ } ((((ρ.set pr .unset).set st (.own (.list (ls ++ [a])))).set se .unset).set fi (.own c)) fp₂ := T.rel' (s' := { s with heap := H₂, toks := tk₃ }) R₂
          refine store_rule (i := se) T₂' hks fun H₃ tk₄ S₃ => ?_
          have hdb : ∀ j, ∀ z ∈ asb, z ∉ fp₂ j := fun j z hz q => by
            rw [← hfp₂] at q
            simp only at q
            by_cases hjf : j = fi
            · rw [if_pos hjf] at q; exact own2.2.2 se (Ne.symm h5) z (List.mem_append_right _ hz) q
            · rw [if_neg hjf] at q
              by_cases hjs : j = se
              · rw [if_pos hjs] at q; cases q
              · rw [if_neg hjs, ← hfp₁] at q
                simp only [List.append_nil] at q
                by_cases hjt : j = st
                · rw [if_pos hjt] at q
                  rcases List.mem_cons.mp q with q | q
                  · exact dis21 z (List.mem_append_right _ hz) (by rw [q]; exact .head _)
                  · rcases List.mem_append.mp q with q | q
                    · exact dis21 z (List.mem_append_right _ hz) (.tail _ q)
                    · exact nda.2.2 z q z hz rfl
                · rw [if_neg hjt] at q
                  by_cases hjp : j = pr
                  · rw [if_pos hjp] at q; cases q
                  · rw [if_neg hjp] at q; exact own2.2.2 j hjp z (List.mem_append_right _ hz) q
          have R₃ := R₂.put hxs S₃ rb'' (c := .own b) (.inr rfl) (fun j e hj he => hdb j) (fun _ => ⟨nda.2.1, fun z hz => own2.2.1 z (List.mem_append_right _ hz), fun j _ => hdb j⟩)
          have eρ : ((((ρ.set pr .unset).set st (.own (.list (ls ++ [a])))).set se .unset).set fi (.own c)).set se (.own b) = (((ρ.set pr .unset).set st (.own (.list (ls ++ [a])))).set fi (.own c)).set se (.own b) := by
            rw [List.set_comm _ _ (Ne.symm h6), List.set_set]
          rw [eρ] at R₃
          exact hr g Φ n F A { s with heap := H₃, toks := tk₄ } _ _ Q R E (T.rel' (s' := { s with heap := H₃, toks := tk₄ }) R₃) hQ fun fl fl' s'' ρ'' fp'' q1 q2 q3 q4 => hR fl fl' s'' ρ'' fp'' q1 q2 (Later.trans ⟨H₃, tk₄, rfl⟩ q3) q4
end
end Mine
set_option Elab.async false
set_option maxRecDepth 100000
set_option linter.unusedVariables false
namespace Mine
open PySem PySem.Calls PyProof.Rows

section
variable {fname : Nat → Str} {g : Gx} {Φ : Calls} {n : Nat} {F : Fm} {sc : Scope} {A : Around} {s s' : Shared} {ρ : Vars} {fp : Nat → List Addr} {h h' : Heap}

theorem sem_append2 {x xk : Str} {p q sp pk sp2 apos q2 pos epos : Pos} {i j kk kk2 : Nat} {z : Int} (hx : (slots sc)[i]? = some x) (hxk : (slots sc)[j]? = some xk) (hd : (x == ("__debug__" : Str)) = false) (hdk : (xk == ("__debug__" : Str)) = false) (hl : (apos.endLine == pos.line) = true) :
    SemS fname sc (.Expr (.Call (.Attribute (.Subscript (.Subscript (.Name x p) (.Constant (.int 0) kk q) sp) (.Name xk pk) sp2) "append" apos) [.Constant (.int z) kk2 q2] [] pos) epos) (.append2 i j z) := by
  intro g Φ n F A s ρ fp Q R E T h hR
  conv at h => whnf
  obtain ⟨xs, ds, ys, k, hi, hj, hxs, hk, hsz, hQ⟩ := h
  obtain ⟨y1, v1, hy1, hv, r⟩ := T.rel.vars i _ (.inr hi)
  rw [hx] at hy1; cases hy1
  obtain ⟨y2, v2, hy2, hvk, rk⟩ := T.rel.vars j _ (.inl hj)
  rw [hxk] at hy2; cases hy2
  have hnd := (T.rel.own i _ hi).1
  generalize hfj : fp j = fj at rk
  cases rk with
  | int _ tkk =>
  refine wpAny_Expr_any ?_ (not_interactive T) (swaps_no rfl _ _ _)
  refine wpAny_Call_append rfl rfl hl rfl ?_
  generalize hfp : fp i = fi at r hnd
  cases r with
  | @tuple t o vs en _ _ e1 c di dt sz it =>
    generalize htl : vs.toList = tl at it
    cases it with
    | @cons v0 vs' _ _ as0 bs r0 rest =>
      cases r0 with
      | @list la lo lvs len _ las le lc ldi ldt lsz lit =>
        have hn := List.nodup_append.mp hnd
        have hn1 := List.nodup_cons.mp hn.1
        obtain ⟨a, oa, ws, m, sub, u1, u2, u3, u4, u5, u6, u7, u8, u9, u10⟩ := Rps.upd lit hn1.2 hxs
        have hv0 : vs[0]? = some (.ref la) := by rw [← Array.getElem?_toList, htl]; rfl
        have hu : lvs[k]? = some (.ref a) := by rw [← Array.getElem?_toList]; exact u1
        refine Subscript_ (tup_at (k := 0) T hv hd e1 c dt hv0 (by decide) fun tk => ?_)
        have T₀ := T.step (T.here.toks tk)
        refine load_var T₀ hvk hdk ?_
        refine tail_any (T := "list") ⟨_, le, lc⟩ slot_list_getitem.lookup ?_ (subscripted_plain rfl _ _)
        refine wpAny_getItem_list ⟨_, le, lc, _, ldt⟩ (by omega) (by omega) (by simpa using hu) ?_
        refine ⟨a, ws, rfl, ⟨oa, m, u3, u4, u5, u6⟩, wpAny_Constant_int ?_⟩
        have hl' : ws.size = ys.length := by simpa using u9.length
        have hz' : ws.size + 1 ≤ sizeLine := by rw [hl']; exact hsz
        have key : ∀ (tok : Tok) (s₁ : Shared), Later s s₁ → s₁.heap = s.heap → wpAny (model g.p g.w) A (call (.builtin "list.append") [.ref a, .int z tok]) (fun _ s' => R .next s') E s₁ := by
          intro tok s₁ hl₁ hh
          rw [← hh] at u3
          refine append_heap u3 u4 u6 (Nat.le_of_succ_le hz') ?_
          obtain ⟨k', hd'⟩ := Obj.data_mapSeq u6 (·.push (.int z tok))
          have ho' := Heap.get?_update_self (Obj.mapSeq (·.push (Value.int z tok))) u3 (by
            obtain ⟨oc, od, odt, osl⟩ := oa; simp only at u6; subst u6; rfl)
          have hs := Heap.SameBut.update s₁.heap a (Obj.mapSeq (·.push (Value.int z tok)))
          rw [hh] at hs u3
          have hta : t ≠ a := fun q => by rw [q, u3] at e1; cases e1; exact absurd (u4.symm.trans c) (by decide)
          have hla : la ≠ a := fun q => hn1.1 (by rw [q]; exact u2)
          have hcl : (Obj.mapSeq (·.push (Value.int z tok)) oa).cls = .type "list" := by cases oa; cases u4; simp only at u6; subst u6; rfl
          have hdi : (Obj.mapSeq (·.push (Value.int z tok)) oa).dict = none := by cases oa; cases u5; simp only at u6; subst u6; rfl
          have hit := u10 _ _ _ _ (ys ++ [.int z]) hs (by rw [hh] at ho'; exact ho') hcl hdi hd' (by simpa using hz') (by
            have := Rps.append (u9.stay (stay_list u3 u4 hs) fun b hb q => u8 ((show b = a from q) ▸ hb)) (.cons (.int z tok) .nil)
            simpa using this)
          have hrest := rest.stay (stay_list u3 u4 hs) fun b hb q => hn.2.2 a (.tail _ u2) b hb (show b = a from q).symm
          have R₂ := T.rel.mutateIn (d₁ := .tuple (.list (xs.set k (.list (ys ++ [.int z]))) :: ds)) hi (by rw [hfp]; exact List.mem_append_left _ (.tail _ u2)) hs (by rw [hh] at ho'; exact ho') hd' hx hv (by
            rw [hfp]; exact .tuple ((hs.2 t hta).trans e1) c di dt sz (by rw [htl]; exact .cons (.list ((hs.2 la hla).trans le) lc ldi ldt lsz hit) hrest))
          obtain ⟨h₁, tk₁, rfl⟩ := hl₁
          exact hR .next .next _ _ _ hQ trivial ⟨_, _, rfl⟩ (by rw [show h₁ = s.heap from hh]; exact R₂)
        exact key _ _ ⟨_, _, rfl⟩ rfl
end
end Mine
set_option Elab.async false
set_option maxRecDepth 100000
set_option linter.unusedVariables false
namespace Mine
open PySem PySem.Calls PyProof.Rows

section
variable {fname : Nat → Str} {g : Gx} {Φ : Calls} {n : Nat} {F : Fm} {sc : Scope} {A : Around} {s s' : Shared} {ρ : Vars} {fp : Nat → List Addr} {h h' : Heap}

theorem Rel.cong {ρ' : Vars} {fp' : Nat → List Addr} (R : Rel g F sc h ρ fp) (h1 : ∀ j : Nat, ρ[j]? = ρ'[j]?) (h2 : ∀ j, fp j = fp' j) : Rel g F sc h ρ' fp' := by
  have e1 : ρ = ρ' := List.ext_getElem? h1
  have e2 : fp = fp' := funext h2
  subst e1 e2; exact R

theorem Rel.promote (R : Rel g F sc h ρ fp) {v : Nat} {d : D} (hv : ρ[v]? = some (.val d)) (ho : (fp v).Nodup ∧ (∀ a ∈ fp v, F.H a = none ∧ g.base.get? a = none) ∧ ∀ j, j ≠ v → ∀ a ∈ fp v, a ∉ fp j) : Rel g F sc h (ρ.set v (.own d)) fp := by
  have hlt : v < ρ.length := by rw [List.getElem?_eq_some_iff] at hv; exact hv.1
  have hi : (ρ.set v (.own d))[v]? = some (.own d) := by simp [hlt]
  have hne : ∀ j, j ≠ v → (ρ.set v (.own d))[j]? = ρ[j]? := fun j h => by simp [List.getElem?_set, Ne.symm h]
  refine ⟨R.stays, R.held, R.frames, R.ns, R.hL, R.cells, R.cnd, R.ccov, by simpa using R.len, R.nd, fun j e he => ?_, fun j e => ?_, fun j e he => ?_⟩
  · by_cases hj : j = v
    · subst hj
      rw [hi] at he
      have : e = d := by rcases he with q | q <;> cases q; rfl
      subst this
      exact R.vars j e (.inl hv)
    · rw [hne j hj] at he; exact R.vars j e he
  · by_cases hj : j = v
    · subst hj; rw [hi] at e; exact absurd rfl (e d).2
    · rw [hne j hj] at e; exact R.nofp j e
  · by_cases hj : j = v
    · subst hj; exact ho
    · rw [hne j hj] at he; exact R.own j e he

theorem pair_imm {x y : Str} {px py tp vp pos : Pos} {k k' : Nat} {ea eb : Expr} {a b : X} {i j : Nat} {K : D → D → Prop} {R : Flow → Shared → Prop} {E : Value → Shared → Prop} (T : At fname g Φ n F sc A s ρ fp)
    (hij : i ≠ j) (hx : (slots sc)[i]? = some x) (hy : (slots sc)[j]? = some y) (hkx : sc.names.lookup x = some .local) (hky : sc.names.lookup y = some .local)
    (hl : (py.line == px.line) = true) (hne : x ≠ y) (hsa : noStar ea = true) (hsb : noStar eb = true) (hf : ([ea, eb].all (foldedForSure 8)) = false) (hc : ([ea, eb].all (constantsAlone 8)) = false)
    (ha : SemE fname sc ea a) (hb : SemE fname sc eb b) (h : wE Φ ρ a fun x' _ => wE Φ ρ b fun y' _ => K x' y') (hKi : ∀ x' y', K x' y' → imm x' = true ∧ imm y' = true)
    (hR : ∀ s' h₁ x' y', K x' y' → Later s s' → Ext s.heap h₁ → Rel g F sc h₁ ρ fp → (∀ b o, h₁.get? b = some o → ¬ Priv F b → s'.heap.get? b = some o) →
      Rel g F sc s'.heap ((ρ.set j (.val y')).set i (.val x')) (fun m => if m = i then [] else if m = j then [] else fp m) → R .next s') :
    wpAny (model g.p g.w) A (exec (.Assign [.Tuple [.Name x px, .Name y py] k tp] (.Tuple [ea, eb] k' vp) pos) (F.env sc)) R E s := by
  refine Assign_Tuple_swapped (names := [x, y]) ?_ (show swapsWith (.Tuple [ea, eb] k' vp) (some (.Tuple [.Name x px, .Name y py] k tp)) pos.line (F.env sc) = pure false from swaps_no rfl _ _ _) (swapped_ok (env := F.env sc) T.kind hkx hky hl hne hsa hsb hf hc)
  refine wpAny_Tuple ?_
  refine args_cons (ha g Φ n F A s ρ fp _ _ E T h fun v s₁ d f as hk st r fo => args_cons (hb g Φ n F A s₁ ρ fp _ _ E (T.step st) hk fun w s₂ d' f' bs hk' st' r' fo' => args_nil ⟨two_line v w, ?_⟩) (starEach_cons hsb)) (starEach_cons hsa)
  have st₂ := (st.trans st').push { cls := .type "tuple", data := .seq #[v, w] }
  have ht : IsTup (s₂.heap.push { cls := .type "tuple", data := .seq #[v, w] }) s₂.heap.objs.size #[v, w] := ⟨_, Heap.get?_push_size _ rfl, rfl, 0, rfl⟩
  show wpAny (model g.p g.w) A (unpackItems (.ref s₂.heap.objs.size) (#[v, w] : Array Value).size none) _ E { s₂ with heap := s₂.heap.push { cls := .type "tuple", data := .seq #[v, w] } }
  refine unpackItems_tuple (s := { s₂ with heap := s₂.heap.push { cls := .type "tuple", data := .seq #[v, w] } }) T.room.handled ht fun h' hext => ?_
  have kp : ∀ b o, (s₂.heap.push { cls := .type "tuple", data := .seq #[v, w] }).get? b = some o → h'.get? b = some o := fun b o e => hext b o (fun q => by
    have := Heap.lt_size e; rw [q] at this; exact Nat.lt_irrefl _ this) e
  have st₃ := st₂.keep kp s₂.toks
  have hq := hk'
  obtain ⟨i1, i2⟩ := hKi _ _ hk'
  have e1 := r.imm i1
  have e2 := r'.imm i2
  subst e1 e2
  have T₂ := T.step st₃
  show wpAny _ A (do holding [v] (bindName (F.env sc) y w); assignInOrder [fun v => bindName (F.env sc) x v] [v]) _ E _
  refine wpAny_bind (wpAny_holding (bindName_ (store_rule (i := j) T₂ (.inl hky) fun h₄ tk₄ S₄ => ?_)))
  have R₁ := T₂.rel.put hy S₄ (r'.anywhere i2) (c := .val d') (.inl rfl) (fun _ _ _ _ _ ha => (nomatch ha)) fun q => (nomatch q)
  show wpAny _ A (do holding [] (bindName (F.env sc) x v); assignInOrder [] []) _ E _
  have T₃ : At fname g Φ n F sc A { s₂ with heap := h₄, toks := tk₄ } (ρ.set j (.val d')) (fun m => if m = j then [] else fp m) := T.rel' (s' := { s₂ with heap := h₄, toks := tk₄ }) R₁
  refine wpAny_bind (wpAny_holding (bindName_ (store_rule (i := i) T₃ (.inl hkx) fun h₅ tk₅ S₅ => wpAny_pure ?_)))
  have R₂ := R₁.put hx S₅ (r.anywhere i1) (c := .val d) (.inl rfl) (fun _ _ _ _ _ ha => (nomatch ha)) fun q => (nomatch q)
  exact hR { s₂ with heap := h₅, toks := tk₅ } h' d d' hq (st₃.later.trans (Later.trans ⟨h₄, tk₄, rfl⟩ ⟨h₅, tk₅, rfl⟩)) st₃.ext T₂.rel (fun b o e hb => S₅.keep b o (S₄.keep b o e hb) hb) R₂

noncomputable def foldU (ρ : Vars) (v h l i : Nat) (d x y : D) : Vars := (((ρ.set v (.val d)).set h (.val x)).set l (.val y)).set i .unset

theorem foldU_own {v hh l i j : Nat} {d x y e : D} (hj : (foldU ρ v hh l i d x y)[j]? = some (.own e)) : j ≠ v ∧ j ≠ hh ∧ j ≠ l ∧ j ≠ i ∧ ρ[j]? = some (.own e) := by
  unfold foldU at hj
  simp only [List.getElem?_set, List.length_set] at hj
  by_cases h1 : i = j
  · rw [if_pos h1] at hj; split at hj <;> cases hj
  · rw [if_neg h1] at hj
    by_cases h2 : l = j
    · rw [if_pos h2] at hj; split at hj <;> cases hj
    · rw [if_neg h2] at hj
      by_cases h3 : hh = j
      · rw [if_pos h3] at hj; split at hj <;> cases hj
      · rw [if_neg h3] at hj
        by_cases h4 : v = j
        · rw [if_pos h4] at hj; split at hj <;> cases hj
        · rw [if_neg h4] at hj
          exact ⟨Ne.symm h4, Ne.symm h3, Ne.symm h2, Ne.symm h1, hj⟩

theorem sem_fold {x xv xh xl : Str} {p np pv q sp cp rp ip ph pl tp vp apos pos : Pos} {kk k k' i v hh l : Nat} {t er ea eb : Expr} {tX rX aX bX : X}
    (hx : (slots sc)[i]? = some x) (hxv : (slots sc)[v]? = some xv) (hxh : (slots sc)[hh]? = some xh) (hxl : (slots sc)[l]? = some xl) (hkx : sc.names.lookup x = some .local) (hkh : sc.names.lookup xh = some .local) (hkl : sc.names.lookup xl = some .local)
    (hdv : (xv == ("__debug__" : Str)) = false) (hrev : sc.names.lookup ("reversed" : Str) = some .globalImplicit)
    (n1 : v ≠ hh) (n2 : v ≠ l) (n3 : v ≠ i) (n4 : hh ≠ l) (n5 : hh ≠ i) (n6 : l ≠ i)
    (hln : (pl.line == ph.line) = true) (hne : xh ≠ xl) (hsa : noStar ea = true) (hsb : noStar eb = true) (hf : ([ea, eb].all (foldedForSure 8)) = false) (hc : ([ea, eb].all (constantsAlone 8)) = false)
    (ht : SemT fname sc t tX) (hr : SemE fname sc er rX) (ha : SemE fname sc ea aX) (hb : SemE fname sc eb bX) :
    SemS fname sc (.For (.Name x p) (.Call (.Name "reversed" np) [.Subscript (.Name xv pv) (.Constant (.int 0) kk q) sp] [] cp)
      [.If t [.Return (some er) rp] [] ip, .Assign [.Tuple [.Name xh ph, .Name xl pl] k tp] (.Tuple [ea, eb] k' vp) apos] [] pos) (.fold i v hh l tX rX aX bX) := by
  intro g Φ n F A s ρ fp Q R E T h hR
  conv at h => whnf
  obtain ⟨xs, ds, x₀, y₀, I, ev, eh, el, hI0, himm, hturn, hend⟩ := h
  obtain ⟨y1, v1, hy1, hv1, r1⟩ := T.rel.vars v _ (.inr ev)
  rw [hxv] at hy1; cases hy1
  have ownv := T.rel.own v _ ev
  have fph : fp hh = [] := by obtain ⟨_, _, _, _, r⟩ := T.rel.vars hh _ (.inl eh); exact r.imm (himm _ _ _ hI0).1
  have fpl : fp l = [] := by obtain ⟨_, _, _, _, r⟩ := T.rel.vars l _ (.inl el); exact r.imm (himm _ _ _ hI0).2
  generalize hfv : fp v = fv at r1
  cases r1 with
  | @tuple ta to tvs ten _ _ te tc tdi tdt tsz tit =>
    generalize htl : tvs.toList = tl at tit
    cases tit with
    | @cons v0 vs' _ _ as0 bs r0 rest =>
      cases r0 with
      | @list la lo lvs len _ las le lc ldi ldt lsz lit =>
        have hv0 : tvs[0]? = some (.ref la) := by rw [← Array.getElem?_toList, htl]; rfl
        have hZ : ∀ z ∈ la :: las, z ∈ fp v := fun z hz => by rw [hfv]; exact List.mem_append_left _ hz
        -- the head of the loop
        refine wpAny_For (wpAny_Call_ofName (blt_name (v := .type "reversed") T hrev (by simp [bltTab]) (by decide) (callWith_type1 (args_cons (tup_at (k := 0) T hv1 hdv te tc tdt hv0 (by decide) fun tk => args_nil ?_) rfl) rfl rfl))) (folded_no rfl _)
        have st₁ : Step g s { s with toks := tk } := T.here.toks tk
        have T₁ := T.step st₁
        have hl : lvs.size = xs.length := by simpa using lit.length
        refine call_reversed_list ⟨lo, le, lc, len, ldt⟩ ?_
        have st₂ := st₁.push (revObj la ((lvs.size : Int) - 1))
        have hit : (s.heap.push (revObj la ((lvs.size : Int) - 1))).IsRevIter s.heap.objs.size la ((lvs.size : Int) - 1) := ⟨_, Heap.get?_push_size _ rfl, rfl, rfl⟩
        refine wpAny_pyIter_revIter (s := { s with heap := s.heap.push (revObj la ((lvs.size : Int) - 1)), toks := tk }) hit ?_
        have T₂ := T.step st₂
        have Sr : Source g A s.heap.objs.size xs.reverse (fun k h => k ≤ xs.length ∧ h.IsRevIter s.heap.objs.size la ((xs.length : Int) - 1 - k) ∧ Rp h (.ref la) (.list xs) (la :: las)) (la :: las) := Source.back T.room.handled
        have hst0 : 0 ≤ xs.length ∧ (s.heap.push (revObj la ((lvs.size : Int) - 1))).IsRevIter s.heap.objs.size la ((xs.length : Int) - 1 - ((0 : Nat) : Int)) ∧ Rp (s.heap.push (revObj la ((lvs.size : Int) - 1))) (.ref la) (.list xs) (la :: las) := by
          refine ⟨Nat.zero_le _, ?_, (Rp.list le lc ldi ldt lsz lit).ext (Ext.push _ _)⟩
          rw [hl] at hit ⊢; simpa using hit
        generalize hSt : (fun (k : Nat) (h : Heap) => k ≤ xs.length ∧ h.IsRevIter s.heap.objs.size la ((xs.length : Int) - 1 - k) ∧ Rp h (.ref la) (.list xs) (la :: las)) = St at Sr
        have hst0 : St 0 (s.heap.push (revObj la ((lvs.size : Int) - 1))) := by rw [← hSt]; exact hst0
        generalize hIt : s.heap.objs.size = It at Sr ⊢
        have hH : F.H It = none := by rw [← hIt]; exact T.newIter.1
        have hB : g.base.get? It = none := by rw [← hIt]; exact T.newIter.2
        generalize hφ : (fun m => if m = i then [] else if m = l then [] else if m = hh then [] else fp m) = φ
        generalize hdd : (PyData.tuple (.list xs :: ds)) = dd at *
        have lenr : xs.reverse.length = xs.length := by simp
        -- the state at the start
        have hin : Rel g F sc (s.heap.push (revObj la ((lvs.size : Int) - 1))) (foldU ρ v hh l i dd x₀ y₀) φ := by
          have R₀ := (T₂.rel.dem [v]).forget i
          have ed : dem ρ [v] = ρ.set v (.val dd) := by simp only [dem, ev]
          rw [ed] at R₀
          refine R₀.cong (fun j => ?_) fun j => ?_
          · obtain ⟨hlh, eh'⟩ := List.getElem?_eq_some_iff.mp eh
            obtain ⟨hll, el'⟩ := List.getElem?_eq_some_iff.mp el
            unfold foldU
            simp only [List.getElem?_set, List.length_set]
            by_cases h1 : i = j
            · simp [h1]
            · simp only [if_neg h1]
              by_cases h2 : l = j
              · subst h2; simp [hll, n2, el']
              · simp only [if_neg h2]
                by_cases h3 : hh = j
                · subst h3; simp [hlh, n1, eh']
                · simp only [if_neg h3]
          · rw [← hφ]
            simp only
            split
            · rfl
            · split
              · rename_i e; rw [e]; exact fpl
              · split
                · rename_i e; rw [e]; exact fph
                · rfl
        have hφsub : ∀ j, ∀ z ∈ φ j, z ∈ fp j := fun j z hz => by
          rw [← hφ] at hz
          simp only at hz
          split at hz
          · cases hz
          · split at hz
            · cases hz
            · split at hz
              · cases hz
              · exact hz
        have hφv : φ v = fp v := by rw [← hφ]; simp [n1, n2, n3]
        have hφi : φ i = [] := by rw [← hφ]; simp
        have hφl : φ l = [] := by rw [← hφ]; simp
        have hφh : φ hh = [] := by rw [← hφ]; simp
        refine codeAny_forLoop (fun m s' => ∃ kx x y, m = xs.length - kx ∧ kx ≤ xs.length ∧ I kx x y ∧ Later s s' ∧ Rel g F sc s'.heap (foldU ρ v hh l i dd x y) φ ∧ St kx s'.heap)
          (fun m s' hs => ?_) xs.length ⟨0, x₀, y₀, rfl, Nat.zero_le _, hI0, st₂.later, hin, hst0⟩
        obtain ⟨kx, x', y', rfl, hkl', hI, hlt', hrel, hst⟩ := hs
        by_cases hlt : kx < xs.length
        · have hlt2 : kx < xs.reverse.length := by rw [lenr]; exact hlt
          refine Sr.item kx s' _ _ xs.reverse[kx] (List.getElem?_eq_getElem hlt2) hst fun w h₁ tk₁ as rw' hz hst₁ hkeep => ?_
          have R₁ := hrel.fieldsBut (Sr.there kx _ hst) hH hB hkeep
          have T₁ : At fname g Φ n F sc A { s' with heap := h₁, toks := tk₁ } (foldU ρ v hh l i dd x' y') φ := T.rel' (s' := { s' with heap := h₁, toks := tk₁ }) R₁
          refine wpAny_assign_Name (store_rule (i := i) T₁ (.inl hkx) fun h₂ tk₂ S => ?_)
          have R₂ := R₁.put hx S rw' (c := .val xs.reverse[kx]) (.inl rfl) (fun j e hj he z hz' q => by
            obtain ⟨a1, _, _, _, a5⟩ := foldU_own he
            exact (T.rel.own j e a5).2.2 v (Ne.symm a1) z (hφsub j z q) (hZ z (hz z hz'))) fun q => (nomatch q)
          have eV : (foldU ρ v hh l i dd x' y').set i (.val xs.reverse[kx]) = foldV ρ v hh l i dd x' y' xs.reverse[kx] := by
            unfold foldU foldV; rw [List.set_set]
          rw [eV] at R₂
          generalize hφ₂ : (fun j => if j = i then as else φ j) = φ₂ at R₂
          have hI2 : ¬ Priv F It := fun q => by
            obtain ⟨o, vs, e, hd⟩ := Sr.there _ _ hst₁
            rcases q with rfl | ⟨p, hp, rfl⟩
            · obtain ⟨m, o2, es, ep, ho2, hd2, _⟩ := R₁.ns
              rw [e] at ho2; cases ho2; rw [hd] at hd2; cases hd2
            · obtain ⟨_, _, o2, w, ho2, hd2⟩ := R₁.cells p hp
              rw [e] at ho2; cases ho2; rw [hd] at hd2; cases hd2
          have hZ2 : ∀ z ∈ la :: las, ¬ Priv F z := fun z hz q => by
            obtain ⟨o, vs, m, e, hd⟩ := Sr.lists _ _ hst₁ z hz
            exact R₁.privData q e vs m hd
          have hst₂ := Sr.frame _ _ _ _ hst₁ (R₁.stayBut S.keep) hI2 hZ2
          have T₃ : At fname g Φ n F sc A { s' with heap := h₂, toks := tk₂ } (foldV ρ v hh l i dd x' y' xs.reverse[kx]) φ₂ := T.rel' (s' := { s' with heap := h₂, toks := tk₂ }) R₂
          have hw := hturn kx x' y' xs.reverse[kx] (List.getElem?_eq_getElem hlt2) hI
          have hl₂ : Later s { s' with heap := h₂, toks := tk₂ } := hlt'.trans ⟨h₂, tk₂, rfl⟩
          rw [wT] at hw
          refine wpAny_execs_cons (wpAny_If (ht g Φ n F A { s' with heap := h₂, toks := tk₂ } _ φ₂ (fun c => br c _ _) _ _ T₃ hw fun c s₃ hcc st => ?_))
          have T₄ := T₃.step st
          cases c
          · simp only [Bool.false_eq_true, if_false]
            refine wpAny_execs_nil ?_
            refine wpAny_execs_cons (pair_imm T₄ n4 hxh hxl hkh hkl hln hne hsa hsb hf hc ha hb (K := fun x'' y'' => I (kx + 1) x'' y'') hcc (fun _ _ q => himm _ _ _ q) ?_)
            · intro s₅ h₅ x'' y'' hI' hl₅ ext₅ R₅ kp₅ R₆
              refine wpAny_execs_nil ?_
              have hst₃ := Sr.frame _ _ _ _ hst₂ st.ext.stay (fun q => q) (fun _ _ q => q)
              have hst₅ := Sr.frame _ _ _ _ hst₃ ext₅.stay (fun q => q) (fun _ _ q => q)
              have hst₆ := Sr.frame _ _ _ _ hst₅ (R₅.stayBut kp₅) hI2 hZ2
              refine ⟨xs.length - (kx + 1), by omega, kx + 1, x'', y'', rfl, by omega, hI', hl₂.trans (st.later.trans hl₅), ?_, hst₆⟩
              refine (R₆.forget i).cong (fun j => ?_) fun j => ?_
              · unfold foldV foldU
                simp only [List.getElem?_set, List.length_set]
                by_cases h1 : i = j
                · simp [h1]
                · simp only [if_neg h1]
                  by_cases h2 : l = j
                  · subst h2; simp [n4]
                  · simp only [if_neg h2]
                    by_cases h3 : hh = j
                    · simp only [if_pos h3]
                    · simp only [if_neg h3]
              · rw [← hφ₂]
                simp only
                by_cases h1 : j = i
                · rw [if_pos h1, h1, hφi]
                · rw [if_neg h1]
                  by_cases h2 : j = hh
                  · rw [if_pos h2, h2, hφh]
                  · rw [if_neg h2]
                    by_cases h3 : j = l
                    · rw [if_pos h3, h3, hφl]
                    · rw [if_neg h3, if_neg h1]
          · simp only [if_true]
            refine wpAny_execs_cons (wpAny_Return_some (hr g Φ n F A s₃ _ φ₂ _ _ _ T₄ hcc fun w' s₄ d f bs' hq st' r' fo => ?_))
            exact hR _ (.ret w') s₄ _ φ₂ hq ⟨bs', r', fun q => (nomatch q)⟩ (hl₂.trans (st.later.trans st'.later)) (T₄.step st').rel
        · have e : kx = xs.length := by omega
          subst e
          refine Sr.done s' _ _ (by rw [lenr]; exact hst) fun h₁ tk₁ hkeep => ?_
          have R₁ := hrel.fieldsBut (Sr.there _ _ hst) hH hB hkeep
          have evU : (foldU ρ v hh l i dd x' y')[v]? = some (.val dd) := by
            have hlv := (List.getElem?_eq_some_iff.mp ev).1
            unfold foldU; simp [List.getElem?_set, n1, n2, n3, Ne.symm n1, Ne.symm n2, Ne.symm n3, hlv]
          have R₂ := R₁.promote evU (by
            rw [hφv]; exact ⟨ownv.1, ownv.2.1, fun j hj a ha q => ownv.2.2 j hj a ha (hφsub j a q)⟩)
          have R₃ := R₂.cong (ρ' := ((ρ.set hh (.val x')).set l (.val y')).set i .unset) (fun j => by
            obtain ⟨hlv, ev'⟩ := List.getElem?_eq_some_iff.mp ev
            unfold foldU
            simp only [List.getElem?_set, List.length_set]
            by_cases h1 : v = j
            · subst h1; simp [Ne.symm n1, Ne.symm n2, Ne.symm n3, hlv, ev']
            · simp only [if_neg h1]) (fun _ => rfl)
          exact wpAny_execs_nil (hR .next .next { s' with heap := h₁, toks := tk₁ } _ _ (hend x' y' hI) trivial (hlt'.trans ⟨_, _, rfl⟩) R₃)
end
end Mine
set_option Elab.async false
set_option maxRecDepth 100000
set_option linter.unusedVariables false
namespace Mine
open PySem PySem.Calls PyProof.Rows

section
variable {fname : Nat → Str} {g : Gx} {Φ : Calls} {n : Nat} {F : Fm} {sc : Scope} {A : Around} {s s' : Shared} {ρ : Vars} {fp : Nat → List Addr} {h h' : Heap}

theorem copy_elt {scope : Scope} {cl : List (Str × Addr)} {C b : Addr} {x : Str} {np xp cp : Pos} {o : Obj} {ws : Array Value} {k : Nat} {m : Str → Option Value} {Q E : Value → Shared → Prop} (T : At fname g Φ n F sc A s ρ fp) (up : Kp s.heap s'.heap)
    (hk : scope.kind = .function) (hx : scope.names.lookup x = some .local) (hd : (x == ("__debug__" : Str)) = false) (hg : scope.names.lookup ("list" : Str) = some .globalImplicit) (hn : s'.heap.Ns C m) (hm : m x = some (.ref b))
    (e : s'.heap.get? b = some o) (hc : o.cls = .type "list") (hdt : o.data = .seq ws k) (hz : ws.size ≤ sizeLine)
    (hQ : ∀ h' c', Kp s'.heap h' → h'.get? s'.heap.objs.size = some { cls := .type "list", dict := none, data := .seq ws c', slots := #[] } → Q (.ref s'.heap.objs.size) { s' with heap := h' }) :
    wpAny (model g.p g.w) A (eval (.Call (.Name "list" np) [.Name x xp] [] cp) (compEnvC scope cl C (F.env sc))) Q E s' := by
  have hst : g.base.StaysIn s'.heap := fun b o e => up b o (T.rel.stays b o e)
  have hb := T.gd.blt "list" (.type "list") (by simp [bltTab])
  refine wpAny_Call_ofName (Name_function_global hk (look_glob hg) (loadGlobal_builtin (T.gd.glb.keeps hst) hb.1 (T.gd.bns.keeps hst) hb.2 ?_) (by decide))
  refine callWith_type1 (args_cons (wpAny_Name (wpAny_loadName_local hk (lookup_relabel_local hx) hn hm (args_nil ?_)) hd) rfl) rfl rfl
  exact call_list_seq b (.inl rfl) e hc hdt (fun h' c' kp hn => hQ h' c' kp hn) hz

theorem sem_copies {x xv y : Str} {np xp cp px pv q sp pos py spos : Pos} {kk v j : Nat} {scope : Scope} (hxv : (slots sc)[v]? = some xv) (hy : (slots sc)[j]? = some y) (hdv : (xv == ("__debug__" : Str)) = false) (hdx : (x == ("__debug__" : Str)) = false)
    (hsk : scope.kind = .function) (hcell : ∀ y ∈ scope.names, y.2 ≠ .cell) (hfree : ∀ y ∈ scope.names, y.2 = .free → sc.names.lookup y.1 = some .cell)
    (hnames : ∀ y ∈ scope.names, y.2 = .local → scope.names.lookup y.1 = some .local) (hx : scope.names.lookup x = some .local) (hg : scope.names.lookup ("list" : Str) = some .globalImplicit)
    (hky : sc.names.lookup y = some .local) (hln : (py.line == pos.line) = true) (hany : (scope.names.any fun p => p.1 == y && (p.2 == .local || p.2 == .cell)) = false) :
    SemS fname sc (.Assign [.Name y py] (.ListComp (.Call (.Name "list" np) [.Name x xp] [] cp) [⟨.Name x px, .Subscript (.Name xv pv) (.Constant (.int 0) kk q) sp, [], 0⟩] scope pos) spos) (.copies j v) := by
  intro g Φ n F A s ρ fp Q R E T h hR
  conv at h => whnf
  obtain ⟨xs, ds, ev, hfl, hQ⟩ := h
  obtain ⟨y1, v1, hy1, hv1, r1⟩ := T.rel.vars v _ (.inr ev)
  rw [hxv] at hy1; cases hy1
  have hclos : closureFor scope (F.env sc) = pure (clOf (F.env sc) scope.names []) := closure_pure fun p hp hk => T.rel.ccov _ (hfree p hp hk)
  have hpp : ((F.env sc).scope.kind == .class || ((F.env sc).scope.kind == .module && (F.env sc).locals != (F.env sc).globals)) = false := by
    show (sc.kind == .class || (sc.kind == .module && F.L != mainGlobals)) = false
    rw [T.kind]; rfl
  generalize hfv : fp v = fv at r1
  cases r1 with
  | @tuple ta to tvs ten _ _ te tc tdi tdt tsz tit =>
    generalize htl : tvs.toList = tl at tit
    cases tit with
    | @cons v0 vs' _ _ as0 bs r0 rest =>
      cases r0 with
      | @list la lo lvs len _ las le lc ldi ldt lsz lit =>
        have hv0 : tvs[0]? = some (.ref la) := by rw [← Array.getElem?_toList, htl]; rfl
        have hl : lvs.size = xs.length := by simpa using lit.length
        rw [exec_Assign_Name_used _ _ _ _ (swaps_yes (env := F.env sc) T.kind hky hln hany)]
        refine wpAny_bind (wpAny_standAt (wpAny_bind ?_))
        show wpAny _ A (do let _ ← comprehension (.ListComp (.Call (.Name "list" np) [.Name x xp] [] cp) [⟨.Name x px, .Subscript (.Name xv pv) (.Constant (.int 0) kk q) sp, [], 0⟩] scope pos) scope (F.env sc) _ (newList []) false (eval (.Subscript (.Name xv pv) (.Constant (.int 0) kk q) sp) (F.env sc)) (some (assign (.Name y py) (F.env sc)))) _ _ s
        refine wpAny_bind (wpAny_mono (wpAny_comprehension_free (use := some (assign (.Name y py) (F.env sc))) (Q := fun _ s' => R .next s') rfl (fun _ => rfl) hclos hsk hnames ?_) (fun _ s' hq => wpAny_pure (wpAny_pure hq)) fun _ _ e => e)
        refine tup_at (k := 0) T hv1 hdv te tc tdt hv0 (by decide) fun tk => ?_
        refine wpAny_pyIter_list (s := { s with toks := tk }) ⟨lo, le, lc, len, ldt⟩ ?_
        refine wpAny_newObj_type (wpAny_newFunctionEnv hcell (by intro y hy; simp at hy) (fun h₁ hns₁ hsb₁ => ?_) hsk)
        dsimp only at hns₁ hsb₁ ⊢
        generalize hH1 : s.heap.push { cls := .type "list_iterator", data := .fields #[.ref la, .int 0 0] } = H1 at hns₁ hsb₁ ⊢
        generalize hH2 : H1.push { cls := .type "list", dict := none, data := .seq ([] : List Value).toArray } = H2 at hns₁ hsb₁ ⊢
        have sz1 : H1.objs.size = s.heap.objs.size + 1 := by rw [← hH1, Heap.size_push]
        have sz2 : H2.objs.size = s.heap.objs.size + 2 := by rw [← hH2, Heap.size_push, sz1]
        have hIl : s.heap.objs.size < H1.objs.size := by omega
        have up1 : Kp s.heap H1 := fun b o e => by rw [← hH1]; exact Heap.get?_push_of_some _ e
        have up2 : Kp H1 H2 := fun b o e => by rw [← hH2]; exact Heap.get?_push_of_some _ e
        have old : ∀ b o, H2.get? b = some o → h₁.get? b = some o := fun b o e => hsb₁.extBut b o (Nat.ne_of_lt (Heap.lt_size e)) (Heap.get?_push_of_some _ e)
        have eI : H1.get? s.heap.objs.size = some { cls := .type "list_iterator", data := .fields #[.ref la, .int 0 0] } := by rw [← hH1]; exact Heap.get?_push_size _ rfl
        have eD : H2.get? H1.objs.size = some { cls := .type "list", dict := none, data := .seq ([] : List Value).toArray } := by rw [← hH2]; exact Heap.get?_push_size _ rfl
        generalize hIt : s.heap.objs.size = It at *
        generalize hDt : H1.objs.size = Dt at *
        generalize hCt : H2.objs.size = Ct at *
        have nID : It ≠ Dt := by omega
        have nIC : It ≠ Ct := by omega
        have nDC : Dt ≠ Ct := by omega
        have ltof : ∀ {b : Addr} {o : Obj}, s.heap.get? b = some o → b < It := fun e => by rw [← hIt]; exact Heap.lt_size e
        have fI : s.heap.get? It = none := by rw [← hIt]; exact fresh_size _
        have fD : s.heap.get? Dt = none := by
          cases hq : s.heap.get? Dt with
          | none => rfl
          | some o => have q : @LT.lt Nat _ _ It := ltof hq; omega
        have fC : s.heap.get? Ct = none := by
          cases hq : s.heap.get? Ct with
          | none => rfl
          | some o => have q : @LT.lt Nat _ _ It := ltof hq; omega
        obtain ⟨mL, hmL⟩ := T.rel.ns
        have hLlt : F.L < It := by obtain ⟨o, _, _, e, _⟩ := hmL; exact ltof e
        have loop : ∀ s₃ : Shared, s₃ = { s with heap := h₁, toks := tk + ([] : List (Str × Value)).length } →
            codeAny (model g.p g.w) A (.compLoop (.ListComp (.Call (.Name "list" np) [.Name x xp] [] cp) [⟨.Name x px, .Subscript (.Name xv pv) (.Constant (.int 0) kk q) sp, [], 0⟩] scope pos) 0 (.ref It) (.ref Dt) (compEnvC scope (clOf (F.env sc) scope.names []) Ct (F.env sc)))
              (compPost (model g.p g.w) A E (some (assign (.Name y py) (F.env sc))) (fun _ s' => R .next s') (.ref Dt) Ct) s₃ := by
          rintro s₃ rfl
          refine codeAny_compLoop_tests (fun m s' => ∃ i h' tk' ys as mC, s' = { s with heap := h', toks := tk' } ∧ m = xs.length + 1 - i ∧ i ≤ xs.length ∧ h'.IsListIter It la i ∧ Kp s.heap h' ∧ h'.Ns Ct mC ∧ h'.PlainList Dt ys ∧
              Rps h' ys.toList (xs.take i) as ∧ as.Nodup ∧ ∀ a ∈ as, s.heap.get? a = none ∧ a ≠ It ∧ a ≠ Dt ∧ a ≠ Ct) ?_ (xs.length + 1) ?_
          · rintro m s' ⟨i, h', tk', ys, as, mC, rfl, rfl, hil, hit, kp, hnC, hpl, hrp, hnd, has⟩
            have hla : h'.IsList la lvs := ⟨lo, kp _ _ le, lc, len, ldt⟩
            by_cases hlt : i < xs.length
            · obtain ⟨u, cs, hu, ru, hsub⟩ := lit.get (i := i) (d := xs[i]) (by simp [hlt])
              refine wpAny_pyNext_list_item (s := { s with heap := h', toks := tk' }) hit hla (x := u) (by simpa using hu) fun h₂ hit₂ hs₂ => ?_
              refine wpAny_assign_Name (wpAny_storeName_local (lookup_relabel_local hx) (hnC.sameBut hs₂ (Ne.symm nIC)) (fun h₃ hn₃ hs₃ => ?_) (by simp [compEnvC, relabel, hsk]))
              refine wpAny_tests_nil ?_
              simp only [if_true]
              have kp₃ : ∀ b o, b ≠ It → b ≠ Ct → h'.get? b = some o → h₃.get? b = some o := fun b o h1 h2 e => (hs₃.2 b h2).trans ((hs₂.2 b h1).trans e)
              have up₃ : Kp s.heap h₃ := fun b o e => kp₃ b o (fun q => by rw [q, fI] at e; cases e) (fun q => by rw [q, fC] at e; cases e) (kp b o e)
              have hxi : flatL xs[i] = true := List.all_eq_true.mp hfl _ (List.getElem_mem _)
              have hzs : ∃ zs, xs[i] = .list zs ∧ flat zs = true := by
                revert hxi; cases xs[i] <;> intro hxi <;> first | exact ⟨_, rfl, hxi⟩ | cases hxi
              obtain ⟨zs, ezs, fzs⟩ := hzs
              rw [ezs] at ru
              cases ru with
              | @list b bo bvs bn _ bas be bc bdi bdt bsz bit =>
                have hbas := bit.flat fzs
                subst hbas
                refine copy_elt (s' := { s with heap := h₃, toks := _ }) T up₃ hsk hx hdx hg hn₃ (by simp) (up₃ _ _ be) bc bdt bsz fun h₄ c' kp₄ hn₄ => ?_
                have hT3 : h₃.get? h₃.objs.size = none := fresh_size _
                have live : ∀ {b : Addr} {o : Obj}, h₃.get? b = some o → b ≠ h₃.objs.size := fun e q => by rw [q, hT3] at e; cases e
                obtain ⟨nD, ePl⟩ := id hpl
                have eD3 := kp₃ Dt _ (Ne.symm nID) nDC ePl
                have hit₃ : h₃.IsListIter It la (i + 1) := by obtain ⟨o, e, r⟩ := hit₂; exact ⟨o, (hs₃.2 It nIC).trans e, r⟩
                have hTI : h₃.objs.size ≠ It := by obtain ⟨o, e, _⟩ := hit₃; exact Ne.symm (live e)
                have hTC : h₃.objs.size ≠ Ct := by obtain ⟨o, _, _, e, _⟩ := hn₃; exact Ne.symm (live e)
                have hTD : h₃.objs.size ≠ Dt := Ne.symm (live eD3)
                have hTs : s.heap.get? h₃.objs.size = none := by
                  cases hq : s.heap.get? h₃.objs.size with
                  | none => rfl
                  | some o => have := up₃ _ _ hq; rw [hT3] at this; cases this
                have hysz : ys.size = i := by have := hrp.length; simp at this; omega
                refine wpAny_list_append_plain (s := { s with heap := h₄, toks := _ }) (hsz := by have := lsz; omega) ⟨nD, kp₄ _ _ eD3⟩ fun h₅ hl₅ hs₅ => ?_
                have kp₅ : ∀ b o, b ≠ It → b ≠ Ct → b ≠ Dt → h'.get? b = some o → h₅.get? b = some o := fun b o h1 h2 h3 e => (hs₅.2 b h3).trans (kp₄ b o (kp₃ b o h1 h2 e))
                have hTas : h₃.objs.size ∉ as := fun q => by
                  obtain ⟨o, _, _, e, _⟩ := hrp.mem _ q
                  exact live (kp₃ _ o (has _ q).2.1 (has _ q).2.2.2 e) rfl
                have sb : StayBut (fun b => b = It ∨ b = Ct ∨ b = Dt) h' h₅ := by
                  refine ⟨fun b o e hb => .inl (kp₅ b o (fun q => hb (.inl q)) (fun q => hb (.inr (.inl q))) (fun q => hb (.inr (.inr q))) e), fun b o hb e => ?_⟩
                  rcases hb with rfl | rfl | rfl
                  · obtain ⟨o', e', _, d'⟩ := hit
                    rw [e] at e'; cases e'; exact .inr fun vs n q => by rw [d'] at q; cases q
                  · obtain ⟨o', es, ep, e', d', _⟩ := hnC
                    rw [e] at e'; cases e'; exact .inr fun vs n q => by rw [d'] at q; cases q
                  · rw [e] at ePl; cases ePl; exact .inl (show Value.type "list" ≠ Value.type "tuple" by decide)
                have hrp₅ := hrp.stay sb fun a ha q => by
                  rcases q with q | q | q
                  · exact (has a ha).2.1 q
                  · exact (has a ha).2.2.2 q
                  · exact (has a ha).2.2.1 q
                have rT : Rp h₅ (.ref h₃.objs.size) (.list zs) (h₃.objs.size :: []) := by
                  refine .list ((hs₅.2 _ hTD).trans hn₄) rfl rfl rfl bsz (bit.stay (S := fun b => b = It ∨ b = Ct ∨ b = Dt) (h' := h₅) ⟨fun b o e hb => .inl ?_, fun b o hb e => ?_⟩ fun a ha => (nomatch ha))
                  · exact kp₅ b o (fun q => hb (.inl q)) (fun q => hb (.inr (.inl q))) (fun q => hb (.inr (.inr q))) (kp b o e)
                  · rcases hb with rfl | rfl | rfl
                    · rw [fI] at e; cases e
                    · rw [fC] at e; cases e
                    · rw [fD] at e; cases e
                refine ⟨xs.length + 1 - (i + 1), by omega, i + 1, h₅, _, ys.push (.ref h₃.objs.size), as ++ ([h₃.objs.size] ++ []), _, rfl, rfl, hlt, ?_, fun b o e => ?_, (hn₃.keeps kp₄).sameBut hs₅ (Ne.symm nDC), hl₅, ?_, ?_, fun a ha => ?_⟩
                · obtain ⟨o, e, r⟩ := hit₃; exact ⟨o, (hs₅.2 It nID).trans (kp₄ _ _ e), r⟩
                · exact (hs₅.2 b (fun q => by rw [q, fD] at e; cases e)).trans (kp₄ _ _ (up₃ b o e))
                · rw [List.take_succ_eq_append_getElem hlt, ezs]
                  simpa using Rps.append hrp₅ (.cons rT .nil)
                · simp only [List.append_nil]
                  exact List.nodup_append.mpr ⟨hnd, by simp, fun a ha b hb q => by rw [List.mem_singleton.mp hb] at q; rw [q] at ha; exact hTas ha⟩
                · simp only [List.append_nil] at ha
                  rcases List.mem_append.mp ha with ha | ha
                  · exact has a ha
                  · rw [List.mem_singleton.mp ha]; exact ⟨hTs, hTI, hTD, hTC⟩
            · have e : i = xs.length := by omega
              subst e
              refine wpAny_pyNext_list_end (s := { s with heap := h', toks := tk' }) T.room.handled hit hla (by simp [hl]) fun h₂ he => ?_
              have kp₂ : Kp s.heap h₂ := fun b o e => he b o (fun q => by rw [q, fI] at e; cases e) (kp b o e)
              show wpAny _ A (assign (.Name y py) (F.env sc) (.ref Dt)) _ _ _
              refine wpAny_assign_Name (wpAny_storeName_local hky (hmL.keeps kp₂) (fun h₃ hn₃ hs₃ => ?_) hpp)
              have hCL : Ct ≠ F.L := fun q => by have a : @LT.lt Nat _ F.L It := hLlt; have b : @Eq Nat Ct F.L := q; omega
              have hnC₂ : h₂.Ns Ct mC := hnC.at' fun o e => he _ o (Ne.symm nIC) e
              refine ⟨mC, hnC₂.sameBut hs₃ hCL, fun h₄ hs₄ => ?_⟩
              rw [List.take_length] at hrp
              have kp₄ : ∀ b o, b ≠ It → b ≠ F.L → b ≠ Ct → h'.get? b = some o → h₄.get? b = some o := fun b o h1 h2 h3 e => (hs₄.2 b h3).trans ((hs₃.2 b h2).trans (he b o h1 e))
              have up₄ : ∀ b o, b ≠ F.L → s.heap.get? b = some o → h₄.get? b = some o := fun b o hb e => kp₄ b o (fun q => by rw [q, fI] at e; cases e) hb (fun q => by rw [q, fC] at e; cases e) (kp b o e)
              have asL : ∀ a ∈ as, a ≠ F.L := fun a ha q => by
                have := (has a ha).1
                obtain ⟨o, _, _, e, _⟩ := hmL
                rw [q, e] at this; cases this
              obtain ⟨nD, ePl⟩ := hpl
              have nDL : Dt ≠ F.L := fun q => by have a : @LT.lt Nat _ F.L It := hLlt; have b : @Eq Nat Dt F.L := q; omega
              have sb : StayBut (fun b => b = It ∨ b = Ct ∨ b = F.L) h' h₄ := by
                refine ⟨fun b o e hb => .inl (kp₄ b o (fun q => hb (.inl q)) (fun q => hb (.inr (.inr q))) (fun q => hb (.inr (.inl q))) e), fun b o hb e => ?_⟩
                rcases hb with rfl | rfl | rfl
                · obtain ⟨o', e', _, d'⟩ := hit
                  rw [e] at e'; cases e'; exact .inr fun vs n q => by rw [d'] at q; cases q
                · obtain ⟨o', es, ep, e', d', _⟩ := hnC
                  rw [e] at e'; cases e'; exact .inr fun vs n q => by rw [d'] at q; cases q
                · obtain ⟨o', es, ep, e', d', _⟩ := hmL.keeps kp
                  rw [e] at e'; cases e'; exact .inr fun vs n q => by rw [d'] at q; cases q
              have hysz : ys.size = xs.length := by simpa using hrp.length
              have rD : Rp h₄ (.ref Dt) (.list xs) (Dt :: as) := .list (kp₄ _ _ (Ne.symm nID) nDL nDC ePl) rfl rfl rfl (by rw [hysz, ← hl]; exact lsz) (hrp.stay sb fun a ha q => by
                rcases q with q | q | q
                · exact (has a ha).2.1 q
                · exact (has a ha).2.2.2 q
                · exact asL a ha q)
              have hcl : ∀ p ∈ F.cl, p.2 ≠ F.L := fun p hp q => by
                obtain ⟨_, _, o, w, ho, hd⟩ := T.rel.cells p hp
                obtain ⟨o', es, ep, ho', hd', _⟩ := hmL
                rw [q, ho'] at ho; cases ho; rw [hd'] at hd; cases hd
              have hns₄ := hn₃.sameBut hs₄ (Ne.symm hCL)
              have S : Stored F sc s.heap h₄ y (.ref Dt) := by
                refine ⟨.inl ⟨hky, _, hns₄, by simp⟩, fun z w hne hv => ?_, fun b o e hb => up₄ b o (fun q => hb (.inl q)) e, ⟨_, hns₄⟩, fun p hp => ?_⟩
                · rcases hv with ⟨hl', m', hm', hv'⟩ | ⟨hl', c, o, h1, h2, h3⟩
                  · refine .inl ⟨hl', _, hns₄, ?_⟩
                    rw [if_neg hne]
                    obtain ⟨o, es, ep, ho, hd, _, hf⟩ := hmL
                    obtain ⟨o', es', ep', ho', hd', _, hf'⟩ := hm'
                    rw [show (F.env sc).locals = F.L from rfl, ho] at ho'
                    cases ho'
                    rw [hd] at hd'; cases hd'
                    rw [← hf, hf', hv']
                  · exact .inr ⟨hl', c, o, h1, up₄ c o (hcl _ (mem_of_look h1)) h2, h3⟩
                · obtain ⟨_, _, o, w, ho, hd⟩ := T.rel.cells p hp
                  exact ⟨o, w, up₄ p.2 o (hcl p hp) ho, hd⟩
              have fr : ∀ a ∈ Dt :: as, s.heap.get? a = none := fun a ha => by
                rcases List.mem_cons.mp ha with rfl | ha
                · exact fD
                · exact (has a ha).1
              have R₂ := T.rel.putN (c := .own (.list xs)) hy S rD (.inr rfl) (fun j' _ _ _ a ha => (fresh_none T.rel (fr a ha)).2 j') fun _ =>
                ⟨List.nodup_cons.mpr ⟨fun q => (has _ q).2.2.1 rfl, hnd⟩, fun a ha => (fresh_none T.rel (fr a ha)).1, fun j' _ a ha => (fresh_none T.rel (fr a ha)).2 j'⟩
              exact hR .next .next _ _ _ hQ trivial ⟨h₄, _, rfl⟩ R₂
          · refine ⟨0, h₁, _, #[], [], _, rfl, rfl, Nat.zero_le _, ⟨_, old _ _ (up2 _ _ eI), rfl, rfl⟩, fun b o e => old _ _ (up2 _ _ (up1 _ _ e)), hns₁, ⟨_, old _ _ eD⟩, by simpa using Rps.nil, List.nodup_nil, fun a ha => (nomatch ha)⟩
        refine codeAny_compStart_list (loop _ rfl) ?_
        exact wpAny_pyIter_listiter ⟨_, old _ _ (up2 _ _ eI), rfl, rfl⟩ (loop _ rfl)
end
end Mine
set_option Elab.async false
set_option maxRecDepth 100000
set_option linter.unusedVariables false
namespace Mine
open PySem PySem.Calls PyProof.Rows

section
variable (fname : Nat → Str) (fid : Str → Option Nat) (sc : Scope)

noncomputable abbrev Both (e : Expr) (x : X) : Prop := SemE fname sc e x ∧ SemT fname sc e x
theorem both {fname sc} {e : Expr} {x : X} (h : SemE fname sc e x) (hp : ∀ env whole, isTrue e env whole = (do let v ← whole; standAt e.pos; holding [v] (truthy v))) : Both fname sc e x := ⟨h, sem_test h hp⟩

noncomputable def slotOf (x : Str) : Option { i : Nat // (slots sc)[i]? = some x } :=
  match (slots sc).idxOf? x with
  | some i => if h : (slots sc)[i]? = some x then some ⟨i, h⟩ else none
  | none => none
noncomputable def heldOf (x : Str) : Option (PLift (sc.names.lookup x = some .local ∨ sc.names.lookup x = some .cell)) :=
  if h : sc.names.lookup x = some .local ∨ sc.names.lookup x = some .cell then some ⟨h⟩ else none

noncomputable def cOp : (op : Operator) → Option { o : Op // opOf o = op }
  | .Add => some ⟨.add, rfl⟩
  | .Sub => some ⟨.sub, rfl⟩
  | .Mult => some ⟨.mul, rfl⟩
  | .FloorDiv => some ⟨.fdiv, rfl⟩
  | .Mod => some ⟨.mod, rfl⟩
  | .Pow => some ⟨.pow, rfl⟩
  | _ => none
noncomputable def cCm : (op : CmpOp) → Option { o : Cm // cmOf o = op ∧ o ≠ .isin ∧ o ≠ .notin }
  | .Eq => some ⟨.eq, rfl, nofun, nofun⟩
  | .NotEq => some ⟨.ne, rfl, nofun, nofun⟩
  | .Lt => some ⟨.lt, rfl, nofun, nofun⟩
  | .LtE => some ⟨.le, rfl, nofun, nofun⟩
  | .Gt => some ⟨.gt, rfl, nofun, nofun⟩
  | .GtE => some ⟨.ge, rfl, nofun, nofun⟩
  | .Is => some ⟨.is, rfl, nofun, nofun⟩
  | .IsNot => some ⟨.isnt, rfl, nofun, nofun⟩
  | _ => none
noncomputable def cBop : (op : BoolOp) → { i : Bool // bopOf i = op }
  | .And => ⟨true, rfl⟩
  | .Or => ⟨false, rfl⟩

noncomputable def cName (x : Str) (pos : Pos) : Option { y : X // Both fname sc (.Name x pos) y } :=
  if hd : (x == ("__debug__" : Str)) = false then
    match slotOf sc x with
    | some ⟨i, hi⟩ => some ⟨.var i, both (sem_var hi hd) fun _ _ => rfl⟩
    | none => match fid x with
      | some k => if h : sc.names.lookup x = some .globalImplicit ∧ 1000 ≤ k ∧ fname k = x then
          some ⟨.glob (k - 1000), both (sem_glob h.1 (by rw [show 1000 + (k - 1000) = k by omega]; exact h.2.2) hd) fun _ _ => rfl⟩ else none
      | none => none
  else none

noncomputable def consL {e : Expr} {es : List Expr} (a : Option { x : X // Both fname sc e x }) (l : Option { xs : Xs // SemL fname sc es xs }) : Option { xs : Xs // SemL fname sc (e :: es) xs } :=
  if hs : noStar e = true then
    match a, l with
    | some ⟨x, hx⟩, some ⟨xs, hxs⟩ => some ⟨.cons x xs, sem_cons hs hx.1 hxs⟩
    | _, _ => none
  else none
noncomputable def nilL : Option { xs : Xs // SemL fname sc [] xs } := some ⟨.nil, sem_nil⟩

noncomputable def userCall (f : Str) (np pos : Pos) (e : Expr) (es : List Expr) (l : Option { xs : Xs // SemL fname sc (e :: es) xs }) : Option { x : X // Both fname sc (.Call (.Name f np) (e :: es) [] pos) x } :=
  match fid f, l with
  | some k, some ⟨xs, hxs⟩ =>
    if h : sc.names.lookup f = some .globalImplicit ∧ fname k = f ∧ k < 500 ∧ f ≠ Str.empty ∧ (f == ("__debug__" : Str)) = false ∧ noStar e = true then
      some ⟨.call k xs, both (sem_call h.1 h.2.1 h.2.2.1 h.2.2.2.1 h.2.2.2.2.1 h.2.2.2.2.2 hxs) fun _ _ => rfl⟩ else none
  | _, _ => none

noncomputable def isGl (x : Str) : Option (PLift (sc.names.lookup x = some .globalImplicit)) := if h : sc.names.lookup x = some .globalImplicit then some ⟨h⟩ else none

noncomputable def call1 (f : Str) (np pos : Pos) (e : Expr) (a : Option { x : X // Both fname sc e x }) : Option { x : X // Both fname sc (.Call (.Name f np) [e] [] pos) x } :=
  match fid f with
  | some _ => userCall fname fid sc f np pos e [] (consL fname sc a (nilL fname sc))
  | none => match a, isGl sc f with
    | some ⟨x, hx⟩, some ⟨hg⟩ => if hs : noStar e = true then
        if h : f = ("len" : Str) then some ⟨.len x, by subst h; exact both (sem_len hg hs hx.1) fun _ _ => rfl⟩
        else if h : f = ("list" : Str) then some ⟨.listOf x, by subst h; exact both (sem_listOf hg hs hx.1) fun _ _ => rfl⟩
        else if h : f = ("int" : Str) then some ⟨.intOf x, by subst h; exact both (sem_intOf hg hs hx.1) fun _ _ => rfl⟩
        else none
      else none
    | _, _ => none

noncomputable def cTy (x : Str) : Option { t : Ty // x = Str.ofString (tyName t) } :=
  if h : x = ("int" : Str) then some ⟨.int, h⟩ else if h : x = ("bool" : Str) then some ⟨.bool, h⟩ else if h : x = ("list" : Str) then some ⟨.list, h⟩
  else if h : x = ("tuple" : Str) then some ⟨.tuple, h⟩ else if h : x = ("str" : Str) then some ⟨.str, h⟩ else none

noncomputable def isiCall (f : Str) (np pos : Pos) (e e' : Expr) (a : Option { x : X // Both fname sc e x }) : Option { x : X // Both fname sc (.Call (.Name f np) [e, e'] [] pos) x } :=
  match a, isGl sc f with
  | some ⟨x, hx⟩, some ⟨hg⟩ => if hs : noStar e = true then
      if h : f = ("isinstance" : Str) then
        match e' with
        | .Name t tp => match cTy t, isGl sc t with
          | some ⟨ty, ht⟩, some ⟨hgt⟩ => some ⟨.isinst x ty, by subst h; subst ht; exact both (sem_isinst hg hgt hs hx.1) fun _ _ => rfl⟩
          | _, _ => none
        | _ => none
      else none
    else none
  | _, _ => none

noncomputable def call2 (f : Str) (np pos : Pos) (e e' : Expr) (a : Option { x : X // Both fname sc e x }) (b : Option { x : X // Both fname sc e' x }) : Option { x : X // Both fname sc (.Call (.Name f np) [e, e'] [] pos) x } :=
  match fid f with
  | some _ => userCall fname fid sc f np pos e [e'] (consL fname sc a (consL fname sc b (nilL fname sc)))
  | none => match isiCall fname sc f np pos e e' a with
    | some r => some r
    | none => match a, b, isGl sc f with
      | some ⟨x, hx⟩, some ⟨y, hy⟩, some ⟨hg⟩ => if hs : noStar e = true ∧ noStar e' = true then
          if h : f = Str.empty then none
          else if h : f = ("max" : Str) then some ⟨.max x y, by subst h; exact both (sem_max hg hs.1 hs.2 hx.1 hy.1) fun _ _ => rfl⟩
          else none
        else none
      | _, _, _ => none

mutual
noncomputable def cE : (e : Expr) → Option { x : X // Both fname sc e x }
  | .Constant c k pos => match c with
    | .int i => some ⟨.int i, both sem_int fun _ _ => rfl⟩
    | .bool b => some ⟨.bool b, both sem_bool fun _ _ => rfl⟩
    | .none => some ⟨.none, both sem_none fun _ _ => rfl⟩
    | .str s => if hz : s.cps.size ≤ sizeLine then some ⟨.str s, both (sem_str hz) fun _ _ => rfl⟩ else none
    | _ => none
  | .Name x pos => cName fname fid sc x pos
  | .BinOp l op r pos => match cE l, cE r, cOp op with
    | some ⟨a, ha⟩, some ⟨b, hb⟩, some ⟨o, ho⟩ => some ⟨.bin o a b, both (by subst ho; exact sem_bin ha.1 hb.1) fun _ _ => rfl⟩
    | _, _, _ => none
  | .UnaryOp .Not e pos => match cE e with
    | some ⟨a, ha⟩ => some ⟨.not a, sem_not ha.1, sem_not_t ha.2⟩
    | none => none
  | .UnaryOp .USub e pos => match cE e with
    | some ⟨a, ha⟩ => some ⟨.neg a, both (sem_neg ha.1) fun _ _ => rfl⟩
    | none => none
  | .BoolOp op es pos => match cBop op with
    | ⟨i, hi⟩ => match cB i es with
      | some ⟨xs, hxs⟩ => some ⟨bX i xs, by subst hi; exact ⟨sem_bool_op hxs.1, sem_bool_op_t hxs.2⟩⟩
      | none => none
  | .Compare l [op] [r] pos => match cE l, cE r, cCm op with
    | some ⟨a, ha⟩, some ⟨b, hb⟩, some ⟨o, ho⟩ => some ⟨.cmp o a b, by
        obtain ⟨h1, h2⟩ := ho; subst h1; exact ⟨sem_cmp ha.1 hb.1 (marks_false h2), sem_cmp_t ha.1 hb.1 (marks_false h2)⟩⟩
    | _, _, _ => none
  | .Compare l [op, op'] [r, r'] pos => match cE l, cE r, cE r', cCm op, cCm op' with
    | some ⟨a, ha⟩, some ⟨b, hb⟩, some ⟨c, hc⟩, some ⟨o, ho⟩, some ⟨o', ho'⟩ => some ⟨.cmp2 o o' a b c, by
        obtain ⟨h1, h2⟩ := ho; obtain ⟨h3, h4⟩ := ho'; subst h1; subst h3; exact ⟨sem_cmp2 ha.1 hb.1 hc.1 (marks_false h4), sem_cmp2_t ha.1 hb.1 hc.1 (marks_false h4)⟩⟩
    | _, _, _, _, _ => none
  | .IfExp t b o pos => match cE t, cE b, cE o with
    | some ⟨x, hx⟩, some ⟨y, hy⟩, some ⟨z, hz⟩ => some ⟨.ite x y z, sem_ite hx.2 hy.1 hz.1, sem_ite_t hx.2 hy.2 hz.2⟩
    | _, _, _ => none
  | .Call (.Name f np) [e] [] pos => call1 fname fid sc f np pos e (cE e)
  | .Call (.Name f np) [e, e'] [] pos => call2 fname fid sc f np pos e e' (cE e) (cE e')
  | .Call (.Name f np) [e, e', e''] [] pos => userCall fname fid sc f np pos e [e', e''] (consL fname sc (cE e) (consL fname sc (cE e') (consL fname sc (cE e'') (nilL fname sc))))
  | .Call (.Name f np) [e, e', e'', e₄] [] pos => userCall fname fid sc f np pos e [e', e'', e₄] (consL fname sc (cE e) (consL fname sc (cE e') (consL fname sc (cE e'') (consL fname sc (cE e₄) (nilL fname sc)))))
  | .Call (.Name f np) [e, e', e'', e₄, e₅] [] pos => userCall fname fid sc f np pos e [e', e'', e₄, e₅] (consL fname sc (cE e) (consL fname sc (cE e') (consL fname sc (cE e'') (consL fname sc (cE e₄) (consL fname sc (cE e₅) (nilL fname sc))))))
  | .Subscript e (.Slice none (some i) none p) pos => match cE e, cE i with
    | some ⟨a, ha⟩, some ⟨k, hk⟩ => some ⟨.upto a k, both (sem_upto ha.1 hk.1) fun _ _ => rfl⟩
    | _, _ => none
  | .Subscript e (.Slice (some i) none none p) pos => match cE e, cE i with
    | some ⟨a, ha⟩, some ⟨k, hk⟩ => some ⟨.from a k, both (sem_from ha.1 hk.1) fun _ _ => rfl⟩
    | _, _ => none
  | .Subscript e i pos => if hi : noSlice i = true then match cE e, cE i with
      | some ⟨a, ha⟩, some ⟨k, hk⟩ => some ⟨.idx a k, both (sem_idx hi ha.1 hk.1) fun _ _ => rfl⟩
      | _, _ => none
    else none
  | .List es pos => match cL es with
    | some ⟨xs, hxs⟩ => some ⟨.list xs, both (sem_list hxs) fun _ _ => rfl⟩
    | none => none
  | .Tuple es k pos => match cL es with
    | some ⟨xs, hxs⟩ => some ⟨.tup xs, both (sem_tup hxs) fun _ _ => rfl⟩
    | none => none
  | _ => none
noncomputable def cL : (es : List Expr) → Option { xs : Xs // SemL fname sc es xs }
  | [] => nilL fname sc
  | e :: es => consL fname sc (cE e) (cL es)
noncomputable def cB : (i : Bool) → (es : List Expr) → Option { xs : Xs // SemB fname i sc es xs ∧ SemBT fname i sc es xs }
  | _, [] => none
  | i, e :: es => match cE e with
    | none => none
    | some ⟨x, hx⟩ => match es with
      | [] => some ⟨.cons x .nil, sem_b1 hx.1, sem_bt1 hx.2⟩
      | e' :: es' => match cB i (e' :: es') with
        | some ⟨.cons y ys, hys⟩ => some ⟨.cons x (.cons y ys), sem_b2 hx.1 hys.1, sem_bt2 hx.2 hys.2⟩
        | _ => none
end
end
end Mine
set_option Elab.async false
set_option maxRecDepth 100000
set_option linter.unusedVariables false
namespace Mine
open PySem PySem.Calls PyProof.Rows

section
variable (fname : Nat → Str) (fid : Str → Option Nat) (sc : Scope)

noncomputable def forCall (f x : Str) (p np cp pos : Pos) (it : Expr) (a : Option { x : X // Both fname sc it x }) (body : List Stmt) (b : Option { y : Ss // SemSs fname sc body y }) :
    Option { z : S // SemS fname sc (.For (.Name x p) (.Call (.Name f np) [it] [] cp) body [] pos) z } :=
  match slotOf sc x, heldOf sc x, isGl sc f, a, b with
  | some ⟨i, hi⟩, some ⟨hk⟩, some ⟨hg⟩, some ⟨e, he⟩, some ⟨y, hy⟩ => if hs : noStar it = true then
      if h : f = Str.empty then none
      else if h : f = ("reversed" : Str) then some ⟨.loop i (.back e) y, by subst h; exact sem_for_back hi hk hg hs he.1 hy⟩
      else if h : f = ("range" : Str) then some ⟨.loop i (.range e) y, by subst h; exact sem_for_range hi hk hg hs he.1 hy⟩
      else none
    else none
  | _, _, _, _, _ => none

noncomputable def forItems (x : Str) (p pos : Pos) (it : Expr) (a : Option { x : X // Both fname sc it x }) (body : List Stmt) (b : Option { y : Ss // SemSs fname sc body y }) :
    Option { z : S // SemS fname sc (.For (.Name x p) it body [] pos) z } :=
  match slotOf sc x, heldOf sc x, a, b with
  | some ⟨i, hi⟩, some ⟨hk⟩, some ⟨e, he⟩, some ⟨y, hy⟩ => if hs : noSet it = true then some ⟨.loop i (.items e) y, sem_for_items hi hk hs he.1 hy⟩ else none
  | _, _, _, _ => none

noncomputable def forDown (f x : Str) (p np cp pos : Pos) (it e1 e2 : Expr) (a : Option { x : X // Both fname sc it x }) (body : List Stmt) (b : Option { y : Ss // SemSs fname sc body y }) :
    Option { z : S // SemS fname sc (.For (.Name x p) (.Call (.Name f np) [it, e1, e2] [] cp) body [] pos) z } :=
  match slotOf sc x, heldOf sc x, isGl sc f, a, b with
  | some ⟨i, hi⟩, some ⟨hk⟩, some ⟨hg⟩, some ⟨e, he⟩, some ⟨y, hy⟩ => if hs : noStar it = true then
      if h : f = ("range" : Str) then
        match e1, e2 with
        | .UnaryOp .USub (.Constant (.int 1) k1 q1) q2, .UnaryOp .USub (.Constant (.int 1) k2 q3) q4 => some ⟨.loop i (.down e) y, by subst h; exact sem_for_down hi hk hg hs he.1 hy⟩
        | _, _ => none
      else none
    else none
  | _, _, _, _, _ => none

noncomputable def cAssign (x : Str) (p pos : Pos) (e : Expr) (a : Option { x : X // Both fname sc e x }) : Option { z : S // SemS fname sc (.Assign [.Name x p] e pos) z } :=
  match slotOf sc x, heldOf sc x, a with
  | some ⟨i, hi⟩, some ⟨hk⟩, some ⟨y, hy⟩ => if hn : noComp e = true then some ⟨.assign i y, sem_assign hi hk hn hy.1⟩ else none
  | _, _, _ => none

noncomputable def cPair (x y : Str) (px py tp vp pos : Pos) (k k' : Nat) (ea eb : Expr) (a : Option { x : X // Both fname sc ea x }) (b : Option { x : X // Both fname sc eb x }) :
    Option { z : S // SemS fname sc (.Assign [.Tuple [.Name x px, .Name y py] k tp] (.Tuple [ea, eb] k' vp) pos) z } :=
  match slotOf sc x, slotOf sc y, a, b with
  | some ⟨i, hi⟩, some ⟨j, hj⟩, some ⟨u, hu⟩, some ⟨w, hw⟩ =>
    if h : i ≠ j ∧ sc.names.lookup x = some .local ∧ sc.names.lookup y = some .local ∧ (py.line == px.line) = true ∧ x ≠ y ∧ noStar ea = true ∧ noStar eb = true ∧ ([ea, eb].all (foldedForSure 8)) = false ∧ ([ea, eb].all (constantsAlone 8)) = false then
      some ⟨.pair i j u w, sem_pair h.1 hi hj h.2.1 h.2.2.1 h.2.2.2.1 h.2.2.2.2.1 h.2.2.2.2.2.1 h.2.2.2.2.2.2.1 h.2.2.2.2.2.2.2.1 h.2.2.2.2.2.2.2.2 hu.1 hw.1⟩
    else if h : sc.names.lookup x = some .cell ∧ (sc.names.lookup y = some .local ∨ sc.names.lookup y = some .cell) ∧ noStar ea = true ∧ noStar eb = true then some ⟨.pairF i j u w, sem_pairF hi hj h.1 h.2.1 h.2.2.1 h.2.2.2 hu.1 hw.1⟩
    else none
  | _, _, _, _ => none

noncomputable def cAppend (x nm : Str) (p apos pos epos : Pos) (e : Expr) (a : Option { x : X // Both fname sc e x }) : Option { z : S // SemS fname sc (.Expr (.Call (.Attribute (.Name x p) nm apos) [e] [] pos) epos) z } :=
  match slotOf sc x, a with
  | some ⟨i, hi⟩, some ⟨y, hy⟩ =>
    if h : nm = ("append" : Str) ∧ (x == ("__debug__" : Str)) = false ∧ (apos.endLine == pos.line) = true ∧ noStar e = true then some ⟨.append i y, by rw [h.1]; exact sem_append hi h.2.1 h.2.2.1 h.2.2.2 hy.1⟩ else none
  | _, _ => none

noncomputable def cReverse (x nm : Str) (p apos pos epos : Pos) : Option { z : S // SemS fname sc (.Expr (.Call (.Attribute (.Name x p) nm apos) [] [] pos) epos) z } :=
  match slotOf sc x with
  | some ⟨i, hi⟩ =>
    if h : nm = ("reverse" : Str) ∧ (x == ("__debug__" : Str)) = false ∧ (apos.endLine == pos.line) = true then some ⟨.reverse i, by rw [h.1]; exact sem_reverse hi h.2.1 h.2.2⟩ else none
  | none => none

noncomputable def cAppendAt (x nm : Str) (p q sp apos q2 pos epos : Pos) (kk kk2 : Nat) (k z : Int) :
    Option { s : S // SemS fname sc (.Expr (.Call (.Attribute (.Subscript (.Name x p) (.Constant (.int k) kk q) sp) nm apos) [.Constant (.int z) kk2 q2] [] pos) epos) s } :=
  match slotOf sc x with
  | some ⟨i, hi⟩ =>
    if h : nm = ("append" : Str) ∧ (x == ("__debug__" : Str)) = false ∧ (apos.endLine == pos.line) = true ∧ k = ((k.toNat : Nat) : Int) ∧ k.toNat < 1000 then
      some ⟨.appendAt i k.toNat z, by
        obtain ⟨a1, a2, a3, a4, a5⟩ := h
        rw [a1, a4]; exact sem_appendAt hi a2 a3 a5⟩
    else none
  | none => none
noncomputable def cAppend2 (x xk nm : Str) (p q sp pk sp2 apos q2 pos epos : Pos) (kk kk2 : Nat) (c : Const) (z : Int) :
    Option { s : S // SemS fname sc (.Expr (.Call (.Attribute (.Subscript (.Subscript (.Name x p) (.Constant c kk q) sp) (.Name xk pk) sp2) nm apos) [.Constant (.int z) kk2 q2] [] pos) epos) s } :=
  match slotOf sc x, slotOf sc xk, c with
  | some ⟨i, hi⟩, some ⟨j, hj⟩, .int 0 =>
    if h : nm = ("append" : Str) ∧ (x == ("__debug__" : Str)) = false ∧ (xk == ("__debug__" : Str)) = false ∧ (apos.endLine == pos.line) = true then
      some ⟨.append2 i j z, by
        obtain ⟨a1, a2, a3, a4⟩ := h
        rw [a1]; exact sem_append2 hi hj a2 a3 a4⟩
    else none
  | _, _, _ => none
noncomputable def cCopies (f x x' xv y : Str) (np xp cp px pv q sp pos py spos : Pos) (kk : Nat) (c : Const) (scope : Scope) :
    Option { s : S // SemS fname sc (.Assign [.Name y py] (.ListComp (.Call (.Name f np) [.Name x' xp] [] cp) [⟨.Name x px, .Subscript (.Name xv pv) (.Constant c kk q) sp, [], 0⟩] scope pos) spos) s } :=
  match slotOf sc xv, slotOf sc y, c with
  | some ⟨v, hv⟩, some ⟨j, hj⟩, .int 0 =>
    if hf : f = ("list" : Str) ∧ x' = x ∧ (xv == ("__debug__" : Str)) = false ∧ (x == ("__debug__" : Str)) = false ∧ sc.names.lookup y = some .local ∧ (py.line == pos.line) = true ∧ (scope.names.any fun p => p.1 == y && (p.2 == .local || p.2 == .cell)) = false then
      if h : scope.kind = .function ∧ (∀ y ∈ scope.names, y.2 ≠ .cell) ∧ (∀ y ∈ scope.names, y.2 = .free → sc.names.lookup y.1 = some .cell) ∧ (∀ y ∈ scope.names, y.2 = .local → scope.names.lookup y.1 = some .local) ∧ scope.names.lookup x = some .local ∧ scope.names.lookup ("list" : Str) = some .globalImplicit then
        some ⟨.copies j v, by
          obtain ⟨a1, a2, a3, a4, a5, a6, a7⟩ := hf
          subst a1 a2
          exact sem_copies hv hj a3 a4 h.1 h.2.1 h.2.2.1 h.2.2.2.1 h.2.2.2.2.1 h.2.2.2.2.2 a5 a6 a7⟩
      else none
    else none
  | _, _, _ => none
noncomputable def cFold (f x xv xh xl : Str) (p np pv q sp cp rp ip ph pl tp vp apos pos : Pos) (kk k k' : Nat) (c : Const) (t er ea eb : Expr) (tx : Option { x : X // Both fname sc t x }) (rx : Option { x : X // Both fname sc er x }) (ax : Option { x : X // Both fname sc ea x }) (bx : Option { x : X // Both fname sc eb x }) :
    Option { s : S // SemS fname sc (.For (.Name x p) (.Call (.Name f np) [.Subscript (.Name xv pv) (.Constant c kk q) sp] [] cp)
      [.If t [.Return (some er) rp] [] ip, .Assign [.Tuple [.Name xh ph, .Name xl pl] k tp] (.Tuple [ea, eb] k' vp) apos] [] pos) s } :=
  match slotOf sc x, slotOf sc xv, slotOf sc xh, slotOf sc xl, c, tx, rx, ax, bx with
  | some ⟨i, hi⟩, some ⟨v, hv⟩, some ⟨h, hh⟩, some ⟨l, hl⟩, .int 0, some ⟨tX, ht⟩, some ⟨rX, hr⟩, some ⟨aX, ha⟩, some ⟨bX, hb⟩ =>
    if h1 : f = ("reversed" : Str) ∧ sc.names.lookup x = some .local ∧ sc.names.lookup xh = some .local ∧ sc.names.lookup xl = some .local ∧ (xv == ("__debug__" : Str)) = false ∧ sc.names.lookup ("reversed" : Str) = some .globalImplicit then
      if h2 : v ≠ h ∧ v ≠ l ∧ v ≠ i ∧ h ≠ l ∧ h ≠ i ∧ l ≠ i then
        if h3 : (pl.line == ph.line) = true ∧ xh ≠ xl ∧ noStar ea = true ∧ noStar eb = true ∧ ([ea, eb].all (foldedForSure 8)) = false ∧ ([ea, eb].all (constantsAlone 8)) = false then
          some ⟨.fold i v h l tX rX aX bX, by
            obtain ⟨a1, a2, a3, a4, a5, a6⟩ := h1
            obtain ⟨b1, b2, b3, b4, b5, b6⟩ := h2
            obtain ⟨c1, c2, c3, c4, c5, c6⟩ := h3
            subst a1
            exact sem_fold hi hv hh hl a2 a3 a4 a5 a6 b1 b2 b3 b4 b5 b6 c1 c2 c3 c4 c5 c6 ht.2 hr.1 ha.1 hb.1⟩
        else none
      else none
    else none
  | _, _, _, _, _, _, _, _, _ => none
noncomputable def cRung : (s1 s2 s3 : Stmt) → (r : List Stmt) → Option { z : Ss // SemSs fname sc r z } → Option { z : Ss // SemSs fname sc (s1 :: s2 :: s3 :: r) z }
  | .Expr (.Call (.Attribute (.Name x p) nm apos) [.Subscript (.Name xp pp) (.Constant c0 kk q) sp] [] pos) epos, .Assign [.Name xf pf] (.Name xs ps) pos2, .Assign [.Name xs' ps'] (.Subscript (.Name xp' pp') (.Constant c1 kk' q') sp') pos3, r, b =>
    match slotOf sc x, slotOf sc xp, slotOf sc xf, slotOf sc xs, c0, c1, b with
    | some ⟨st, hx⟩, some ⟨pr, hxp⟩, some ⟨fi, hxf⟩, some ⟨se, hxs⟩, .int 0, .int 1, some ⟨y, hy⟩ =>
      if h1 : nm = ("append" : Str) ∧ xs' = xs ∧ xp' = xp ∧ (x == ("__debug__" : Str)) = false ∧ (xp == ("__debug__" : Str)) = false ∧ (xs == ("__debug__" : Str)) = false ∧ (apos.endLine == pos.line) = true then
        if h2 : (sc.names.lookup xf = some .local ∨ sc.names.lookup xf = some .cell) ∧ (sc.names.lookup xs = some .local ∨ sc.names.lookup xs = some .cell) ∧ st ≠ pr ∧ st ≠ fi ∧ st ≠ se ∧ pr ≠ fi ∧ pr ≠ se ∧ fi ≠ se then
          some ⟨.cons (.rung st pr fi se) y, by
            obtain ⟨a1, a2, a3, a4, a5, a6, a7⟩ := h1
            obtain ⟨b1, b2, b3, b4, b5, b6, b7, b8⟩ := h2
            subst a1 a2 a3
            exact sem_rung hx hxp hxf hxs a4 a5 a6 a7 b1 b2 b3 b4 b5 b6 b7 b8 hy⟩
        else none
      else none
    | _, _, _, _, _, _, _ => none
  | _, _, _, _, _ => none

mutual
noncomputable def cS : (st : Stmt) → Option { z : S // SemS fname sc st z }
  | .Assign [.Name y py] (.ListComp (.Call (.Name f np) [.Name x' xp] [] cp) [⟨.Name x px, .Subscript (.Name xv pv) (.Constant c kk q) sp, [], 0⟩] scope pos) spos => cCopies fname sc f x x' xv y np xp cp px pv q sp pos py spos kk c scope
  | .Assign [.Name x p] e pos => cAssign fname sc x p pos e (cE fname fid sc e)
  | .Assign [.Tuple [.Name x px, .Name y py] k tp] (.Tuple [ea, eb] k' vp) pos => cPair fname sc x y px py tp vp pos k k' ea eb (cE fname fid sc ea) (cE fname fid sc eb)
  | .Expr (.Call (.Attribute (.Subscript (.Name x p) (.Constant c kk q) sp) nm apos) [.Constant c2 kk2 q2] [] pos) epos => match c, c2 with
    | .int k, .int z => cAppendAt fname sc x nm p q sp apos q2 pos epos kk kk2 k z
    | _, _ => none
  | .Expr (.Call (.Attribute (.Subscript (.Subscript (.Name x p) (.Constant c kk q) sp) (.Name xk pk) sp2) nm apos) [.Constant c2 kk2 q2] [] pos) epos => match c2 with
    | .int z => cAppend2 fname sc x xk nm p q sp pk sp2 apos q2 pos epos kk kk2 c z
    | _ => none
  | .Expr (.Call (.Attribute (.Name x p) nm apos) [e] [] pos) epos => cAppend fname sc x nm p apos pos epos e (cE fname fid sc e)
  | .Expr (.Call (.Attribute (.Name x p) nm apos) [] [] pos) epos => cReverse fname sc x nm p apos pos epos
  | .Expr e pos => if hn : noComp e = true then match cE fname fid sc e with
      | some ⟨y, hy⟩ => some ⟨.expr y, sem_expr hn hy.1⟩
      | none => none
    else none
  | .If t b o pos => match cE fname fid sc t, cSs b, cSs o with
    | some ⟨x, hx⟩, some ⟨y, hy⟩, some ⟨z, hz⟩ => some ⟨.ite x y z, sem_if hx.2 hy hz⟩
    | _, _, _ => none
  | .Return (some e) pos => match cE fname fid sc e with
    | some ⟨x, hx⟩ => some ⟨.ret x, sem_ret hx.1⟩
    | none => none
  | .While t b [] pos => match cE fname fid sc t, cSs b with
    | some ⟨x, hx⟩, some ⟨y, hy⟩ => some ⟨.whil x y, sem_while hx.2 hy⟩
    | _, _ => none
  | .For (.Name x p) (.Call (.Name f np) [.Subscript (.Name xv pv) (.Constant c kk q) sp] [] cp) [.If t [.Return (some er) rp] [] ip, .Assign [.Tuple [.Name xh ph, .Name xl pl] k tp] (.Tuple [ea, eb] k' vp) apos] [] pos =>
    cFold fname sc f x xv xh xl p np pv q sp cp rp ip ph pl tp vp apos pos kk k k' c t er ea eb (cE fname fid sc t) (cE fname fid sc er) (cE fname fid sc ea) (cE fname fid sc eb)
  | .For (.Name x p) (.Call (.Name f np) [it] [] cp) b [] pos => forCall fname sc f x p np cp pos it (cE fname fid sc it) b (cSs b)
  | .For (.Name x p) (.Call (.Name f np) [it, e1, e2] [] cp) b [] pos => forDown fname sc f x p np cp pos it e1 e2 (cE fname fid sc it) b (cSs b)
  | .For (.Name x p) it b [] pos => forItems fname sc x p pos it (cE fname fid sc it) b (cSs b)
  | .Raise .. => some ⟨.never, sem_never⟩
  | _ => none
noncomputable def cSs : (st : List Stmt) → Option { z : Ss // SemSs fname sc st z }
  | [] => some ⟨.nil, sem_snil⟩
  | s1 :: s2 :: s3 :: r => match cRung fname sc s1 s2 s3 r (cSs r) with
    | some z => some z
    | none => match cS s1, cSs (s2 :: s3 :: r) with
      | some ⟨x, hx⟩, some ⟨y, hy⟩ => some ⟨.cons x y, sem_scons hx hy⟩
      | _, _ => none
  | st :: r => match cS st, cSs r with
    | some ⟨x, hx⟩, some ⟨y, hy⟩ => some ⟨.cons x y, sem_scons hx hy⟩
    | _, _ => none
end

end
end Mine
set_option Elab.async false
set_option maxRecDepth 100000
set_option linter.unusedVariables false
namespace Mine
open PySem PySem.Calls PyProof.Rows

theorem filterMap_zip (tab : List (Str × Value)) : ∀ (ns : List Str) (vs : List Value), ns.length = vs.length → (∀ p ∈ ns.zip vs, tab.lookup p.1 = some p.2) → ns.filterMap (fun n => (tab.lookup n).map (n, ·)) = ns.zip vs
  | [], [], _, _ => rfl
  | [], _ :: _, h, _ => nomatch h
  | _ :: _, [], h, _ => nomatch h
  | n :: ns, v :: vs, h, hp => by
    rw [List.filterMap_cons, hp (n, v) (.head _), List.zip_cons_cons]
    simp only [Option.map_some]
    rw [filterMap_zip tab ns vs (by simpa using h) fun p hq => hp p (.tail _ hq)]
theorem filter_zip (tab : List (Str × Value)) : ∀ (ns : List Str) (vs : List Value), ns.length = vs.length → (∀ p ∈ ns.zip vs, tab.lookup p.1 = some p.2) → ns.filter (fun n => (tab.lookup n).isNone) = []
  | [], [], _, _ => rfl
  | [], _ :: _, h, _ => nomatch h
  | _ :: _, [], h, _ => nomatch h
  | n :: ns, v :: vs, h, hp => by
    rw [List.filter_cons, hp (n, v) (.head _)]
    exact filter_zip tab ns vs (by simpa using h) fun p hq => hp p (.tail _ hq)
theorem lookup_mem : ∀ (l : List (Str × Value)) (x : Str) (v : Value), (l.map (·.1)).Nodup → (x, v) ∈ l → l.lookup x = some v
  | [], _, _, _, h => nomatch h
  | p :: r, x, v, nd, hm => by
    simp only [List.map_cons, List.nodup_cons] at nd
    rw [List.lookup_cons]
    rcases List.mem_cons.mp hm with rfl | hm
    · simp
    · have hne : (x == p.1) = false := by
        rw [beq_eq_false_iff_ne]; rintro rfl
        exact nd.1 (List.mem_map.mpr ⟨_, hm, rfl⟩)
      simp only [hne]
      exact lookup_mem r x v nd.2 hm

theorem bind_plain {name : Str} {args : List Arg} {stmts : List Stmt} {sc : Scope} {pm cd doc : Value} (nd : (args.map (·.arg)).Nodup) {vs : List Value} (h : vs.length = args.length) :
    bindArgs (docDef name { posonlyargs := [], args := args, vararg := none, kwonlyargs := [], kw_defaults := [], kwarg := none, defaults := [] } stmts sc pm cd doc) ⟨vs, []⟩ = pure ((args.map (·.arg)).zip vs) := by
  have hl : (args.map (·.arg)).length = vs.length := by simp [h]
  have hz : ∀ p ∈ (args.map (·.arg)).zip vs, ((args.map (·.arg)).zip vs).lookup p.1 = some p.2 := fun p hp =>
    lookup_mem _ _ _ (by rw [List.map_fst_zip (by omega)]; exact nd) hp
  have e1 := filterMap_zip _ _ _ hl hz
  have e2 := filter_zip _ _ _ hl hz
  have hs : seqItems? Value.none = pure none := rfl
  have hg : (vs.length > (args.map (·.arg)).length) = False := by simp [hl]
  unfold bindArgs
  simp only [docDef, List.map_nil, List.nil_append, List.append_nil, List.forIn_nil, pure_bind, hs, hg, decide_false, Bool.false_and, Bool.false_eq_true, if_false, Option.getD_none, List.length_nil, Nat.sub_zero, Array.toList_empty, List.drop_nil, List.take_length, e2, List.isEmpty_nil, Bool.not_true, List.zip_nil_right, e1]

noncomputable def fnameOf (names : List (Nat × Str)) (f : Nat) : Str := (names.lookup f).getD Str.empty
noncomputable def fidOf (names : List (Nat × Str)) (x : Str) : Option Nat := (names.find? (·.2 == x)).map (·.1)

noncomputable def FnGood (d : DefRec) : Prop := (d.params.posonlyargs = [] ∧ d.params.vararg = none ∧ d.params.kwonlyargs = [] ∧ d.params.kw_defaults = [] ∧ d.params.kwarg = none ∧ d.params.defaults = []) ∧
  (d.scope.isGenerator = false ∧ d.scope.isCoroutine = false ∧ d.scope.kind = .function) ∧ (((cellsFrom 0 d.scope.names []).map (·.1)).Nodup ∧ ∀ x, d.scope.names.lookup x = some .cell → x ∈ (cellsFrom 0 d.scope.names []).map (·.1)) ∧ (slots d.scope).Nodup ∧ d.params.args.length ≤ (slots d.scope).length ∧
  (slots d.scope).take d.params.args.length = d.params.args.map (·.arg) ∧ ∀ x ∈ (slots d.scope).take d.params.args.length, d.scope.names.lookup x = some .local ∨ d.scope.names.lookup x = some .cell

noncomputable def nil? {α : Type} : List α → Bool
  | [] => true
  | _ => false
noncomputable def nodup? : List Str → Bool
  | [] => true
  | x :: xs => !xs.contains x && nodup? xs
noncomputable def fnGood (d : DefRec) : Bool := (nil? d.params.posonlyargs && d.params.vararg.isNone && nil? d.params.kwonlyargs && nil? d.params.kw_defaults && d.params.kwarg.isNone && nil? d.params.defaults) &&
  (!d.scope.isGenerator && !d.scope.isCoroutine && (match d.scope.kind with | .function => true | _ => false)) && (nodup? ((cellsFrom 0 d.scope.names []).map (·.1)) && (d.scope.names.all fun x => match x.2 with | .cell => ((cellsFrom 0 d.scope.names []).map (·.1)).contains x.1 | _ => true)) && nodup? (slots d.scope) &&
  decide (d.params.args.length ≤ (slots d.scope).length) && ((slots d.scope).take d.params.args.length == d.params.args.map (·.arg)) && (((slots d.scope).take d.params.args.length).all fun x => match d.scope.names.lookup x with | some .local => true | some .cell => true | _ => false)

theorem nil?_eq {α : Type} {l : List α} (h : nil? l = true) : l = [] := by cases l; rfl; cases h
theorem nodup?_of : ∀ {l : List Str}, nodup? l = true → l.Nodup
  | [], _ => List.nodup_nil
  | x :: xs, h => by
    simp only [nodup?, Bool.and_eq_true, Bool.not_eq_true', List.contains_eq_mem, decide_eq_false_iff_not] at h
    exact List.nodup_cons.mpr ⟨h.1, nodup?_of h.2⟩
theorem fnGood_of {d : DefRec} (h : fnGood d = true) : FnGood d := by
  simp only [fnGood, Bool.and_eq_true, Option.isNone_iff_eq_none, Bool.not_eq_true', List.all_eq_true, decide_eq_true_eq, beq_iff_eq] at h
  obtain ⟨⟨⟨⟨⟨⟨⟨⟨⟨⟨⟨a1, a2⟩, a3⟩, a4⟩, a5⟩, a6⟩, ⟨b1, b2⟩, b3⟩, c0, c⟩, e⟩, f⟩, k⟩, l⟩ := h
  refine ⟨⟨nil?_eq a1, a2, nil?_eq a3, nil?_eq a4, a5, nil?_eq a6⟩, ⟨b1, b2, ?_⟩, ⟨nodup?_of c0, ?_⟩, nodup?_of e, f, k, ?_⟩
  · split at b3
    · assumption
    · cases b3
  · intro x hx
    have hm : ∀ l : List (Str × NameKind), l.lookup x = some .cell → (x, NameKind.cell) ∈ l := by
      intro l
      induction l with
      | nil => intro q; cases q
      | cons p l ih =>
        intro q
        rw [List.lookup_cons] at q
        by_cases hq : (x == p.1) = true
        · simp only [hq, Option.some.injEq] at q; rw [eq_of_beq hq, ← q]; exact .head _
        · simp only [hq] at q; exact .tail _ (ih q)
    have := c _ (hm _ hx)
    simp only [List.contains_eq_mem, decide_eq_true_eq] at this
    exact this
  · intro x hx
    have := l x hx
    split at this
    · exact .inl ‹_›
    · exact .inr ‹_›
    · cases this

noncomputable def compFn (names : List (Nat × Str)) (view : Program) (f : Nat) : Option (Nat × Nat × Ss) :=
  match (recsOf view).find? (fun d => d.name == fnameOf names f) with
  | none => none
  | some d => if fnGood d = true then (cSs (fnameOf names) (fidOf names) d.scope d.body).map fun y => (d.params.args.length, (slots d.scope).length, y.1) else none

theorem params_eq {P : Arguments} (a1 : P.posonlyargs = []) (a2 : P.vararg = none) (a3 : P.kwonlyargs = []) (a4 : P.kw_defaults = []) (a5 : P.kwarg = none) (a6 : P.defaults = []) :
    P = { posonlyargs := [], args := P.args, vararg := none, kwonlyargs := [], kw_defaults := [], kwarg := none, defaults := [] } := by
  cases P; simp only at *; subst a1 a2 a3 a4 a5 a6; rfl
theorem fn_of_top {names : List (Nat × Str)} {view : Program} {loose : List Str} {mean : ExcName → Option Value} {g : Gx} (T : Top view loose mean g.mg g.mb g.base) {f k m : Nat} {body : Ss} (h : compFn names view f = some (k, m, body)) :
    FnIs (fnameOf names) g f k m body := by
  unfold compFn at h
  cases hf : (recsOf view).find? (fun d => d.name == fnameOf names f) with
  | none => rw [hf] at h; cases h
  | some d =>
    rw [hf] at h
    simp only [] at h
    split at h
    · rename_i hg
      obtain ⟨y, hy, e⟩ := Option.map_eq_some_iff.mp h
      cases e
      have hm := List.mem_of_find?_eq_some hf
      have hn : d.name = fnameOf names f := beq_iff_eq.mp (List.find?_some (p := fun d : DefRec => d.name == fnameOf names f) hf)
      obtain ⟨a, o, pm, cd, doc, h1, h2, h3, h4⟩ := T.fn d hm
      obtain ⟨⟨a1, a2, a3, a4, a5, a6⟩, b, c, e1, e2, e3, e4⟩ := fnGood_of hg
      refine ⟨a, d.name, d.params, d.body, d.scope, pm, cd, doc, o, hn ▸ h1, h2, h3, h4, y.2, b, c, ⟨e1, rfl, e2, e3⟩, e4, ?_⟩
      intro vs hv
      have ep : d.params = { posonlyargs := [], args := d.params.args, vararg := none, kwonlyargs := [], kw_defaults := [], kwarg := none, defaults := [] } := by
        exact params_eq a1 a2 a3 a4 a5 a6
      have hnd : (d.params.args.map (·.arg)).Nodup := by rw [← e3]; exact e1.sublist (List.take_sublist _ _)
      have := bind_plain (name := d.name) (stmts := d.body) (sc := d.scope) (pm := pm) (cd := cd) (doc := doc) hnd hv
      rw [← ep] at this
      exact this
    · cases h

noncomputable def ChainP (x : Str) (mg : Str → Option Value) (h : Heap) : Prop := ∃ C R o cd, mg x = some (.ref C) ∧ mg ("RowError" : Str) = some (.ref R) ∧ h.get? C = some o ∧ o.data = .cls cd ∧ cd.mro.contains (.ref R) = true
theorem ChainP.keeps {x : Str} {mg : Str → Option Value} {h h' : Heap} (c : ChainP x mg h) (k : ∀ b o, h.get? b = some o → h'.get? b = some o) : ChainP x mg h' :=
  let ⟨C, R, o, cd, h1, h2, h3, h4, h5⟩ := c; ⟨C, R, o, cd, h1, h2, k _ _ h3, h4, h5⟩
theorem gd_of_top {p view : Program} {w : World} {mean : ExcName → Option Value} {mg mb : Str → Option Value} {h : Heap} {loose : List Str} (T : Top view loose mean mg mb h) (ht : p.given.tree = none) (hi : importsNone view = true)
    (hb : (bltTab.all fun x => !startupNames.contains x.1 && !loose.contains x.1 && !((recsOf view).map (·.name)).contains x.1 && !((litsOf view).map (·.1)).contains x.1 && !((clssOf view loose).map (·.name)).contains x.1) = true) : Gd ⟨p, w, h, mg, mb⟩ := by
  refine ⟨T.g, T.b, T.nolimit, T.seer hi, ht, fun x v hx => ?_⟩
  have hq := List.all_eq_true.mp hb (x, v) hx
  simp only [Bool.and_eq_true, Bool.not_eq_true', List.contains_eq_mem, decide_eq_false_iff_not] at hq
  obtain ⟨⟨⟨⟨h1, h2⟩, h3⟩, h4⟩, h5⟩ := hq
  refine ⟨T.free x h1 h2 h3 h4 h5, ?_⟩
  have hb' : ∀ q ∈ bltTab, q.1 ≠ "__name__" ∧ bootBuiltins q.1 = some q.2 := by
    intro q hq
    simp only [bltTab, List.mem_cons, List.not_mem_nil, or_false] at hq
    rcases hq with rfl | rfl | rfl | rfl | rfl | rfl | rfl | rfl | rfl | rfl | rfl | rfl | rfl <;> exact ⟨by decide +kernel, by kernel_rfl⟩
  have := hb' (x, v) hx
  show mb x = some v
  rw [T.builtins x this.1, this.2]

theorem const_of_top {view : Program} {loose : List Str} {mean : ExcName → Option Value} {mg mb : Str → Option Value} {h : Heap} (T : Top view loose mean mg mb h) {x : Str} {i : Int} (hv : valOf view x = some (.int i)) : ∃ t, mg x = some (.int i t) := by
  obtain ⟨v, h1, h2⟩ := T.const x _ hv
  have := h2 h
  cases this
  exact ⟨_, h1⟩
end Mine
set_option Elab.async false
set_option maxRecDepth 100000
set_option linter.unusedVariables false
namespace Mine
open PySem PySem.Calls PyProof.Rows PySem.W

theorem lookup_of_mem : ∀ {l : List (Nat × Str)} {f : Nat} {x : Str}, l.lookup f = some x → (f, x) ∈ l
  | [], _, _, h => nomatch h
  | p :: r, f, x, h => by
    rw [List.lookup_cons] at h
    split at h
    · rename_i q; cases h; rw [beq_iff_eq.mp q]; exact .head _
    · exact .tail _ (lookup_of_mem h)

theorem named_of_top {names : List (Nat × Str)} {view : Program} {loose : List Str} {mean : ExcName → Option Value} {mg mb : Str → Option Value} {h : Heap} (T : Top view loose mean mg mb h)
    (hc : (names.all fun p => decide (1000 ≤ p.1) || (recsOf view).any (fun d => d.name == p.2)) = true) : ∀ f, f < 1000 → fnameOf names f ≠ Str.empty → ∃ fa o fd, mg (fnameOf names f) = some (.ref fa) ∧ h.get? fa = some o ∧ o.data = .func fd := by
  intro f hf hne
  unfold fnameOf at hne ⊢
  cases hl : names.lookup f with
  | none => rw [hl] at hne; exact absurd rfl hne
  | some x =>
    have := List.all_eq_true.mp hc _ (lookup_of_mem hl)
    simp only [Bool.or_eq_true, decide_eq_true_eq, List.any_eq_true, beq_iff_eq] at this
    rcases this with q | ⟨d, hd, e⟩
    · omega
    · obtain ⟨a, o, pm, cd, doc, h1, h2, h3, h4⟩ := T.fn d hd
      exact ⟨a, o, _, by rw [Option.getD_some, ← e]; exact h1, h2, h3⟩

theorem ints_rps {h : Heap} : ∀ {vs : List Value} {ns : List Int}, IntsAre vs ns → Rps h vs (iz ns) []
  | _, _, .nil => .nil
  | _, _, .cons n t r => .cons (as := []) (bs := []) (.int n t) (ints_rps r)
theorem intsAre_len : ∀ {vs : List Value} {ns : List Int}, IntsAre vs ns → vs.length = ns.length
  | _, _, .nil => rfl
  | _, _, .cons n t r => by simp [intsAre_len r]

theorem script_rp {P : Params} {h : Heap} {a : Addr} {vs : List Value} {ns : List Int} (w1 : Well P h (.ref a) (ofPy (.list (ns.map .int)))) (hL : h.IsList a vs.toArray) (hI : IntsAre vs ns) (hlen : ns.length ≤ 63) : Rp h (.ref a) (L ns) [a] := by
  obtain ⟨o, ho, hc, n, hd⟩ := hL
  have hdict : o.dict = none := by
    generalize hW : ofPy (.list (ns.map .int)) = W at w1
    cases w1 with
    | list e _ => rw [ho] at e; cases e; rfl
    | _ => simp [ofPy] at hW
  have hsz : vs.toArray.size ≤ sizeLine := by
    have := intsAre_len hI
    have h63 : (63 : Nat) ≤ sizeLine := by decide
    simp; omega
  exact .list ho hc hdict hd hsz (by simpa using ints_rps hI)

theorem law_run {names : List (Nat × Str)} {p : Program} {w : World} {s₁ : Shared} {mg mb : Str → Option Value} {n : Nat} {fa a : Addr} {ns : List Int} {Q E : Value → Shared → Prop}
    (S : Spec (fnameOf names) ⟨p, w, s₁.heap, mg, mb⟩ n 99 [L ns] (fun d _ => d = .bool true)) (hm : mg (fnameOf names 99) = some (.ref fa)) (hn : n ≤ 60) (hr : Rp s₁.heap (.ref a) (L ns) [a])
    (hQ : ∀ s' : Shared, (∀ b o, s₁.heap.get? b = some o → s'.heap.get? b = some o) → s'.os = s₁.os → s'.gens = s₁.gens → Q (.bool true) s') :
    wpAny (model p w) callerA (call (.ref fa) [.ref a]) Q E s₁ := by
  unfold Spec at S
  rw [if_neg (by decide), if_neg (by decide)] at S
  obtain ⟨fa', S⟩ := S
  have e : fa' = fa := by
    have := S.named
    simp only at this
    rw [hm] at this; cases this; rfl
  subst e
  have hd : (callerA.depth : Nat) + 60 + 150 < recursionLimit := by decide
  have hu : callerA.units + 8 * 60 + 300 < cLine := by decide
  refine S.run callerA s₁ [.ref a] [a] [] Q E ⟨rfl, by omega, by omega, rfl⟩ (fun _ _ e => e) ?_ ?_ ?_
  · exact trivial
  · exact .cons (as := [a]) (bs := []) hr .nil
  · rintro v s' d fr bs rfl hs hrp _
    cases hrp
    obtain ⟨h', tk, rfl, _, st⟩ := hs
    exact hQ _ (fun b o e => st b o e) rfl rfl
end Mine
namespace Mine
open PySem PySem.Calls PyProof.Rows PySem.W
noncomputable def nms : List (Nat × Str) := [(0, "whole"), (1, "is_base"), (2, "need_base"), (4, "is_row"), (5, "need_row"), (10, "trimmed"), (11, "order"), (12, "plain_sum"), (13, "plain_difference"), (14, "plain_scaled"), (15, "plain_shifted"), (28, "how_often"), (29, "plain_divided"), (32, "ladder"), (50, "_law_draw"), (51, "_law_base_by"), (52, "_law_row_by"), (60, "_law_cut"), (53, "_law_number"), (54, "_law_figures"), (55, "_law_is_number"), (61, "_law_is_row"), (99, "law"), (1000, "LEAST_BASE"), (1001, "MOST_BASE")]
structure Checks (view : Program) (loose : List Str) : Prop where
  c0 : compFn nms view 0 = some (1, 1, b_whole)
  c1 : compFn nms view 1 = some (1, 1, b_is_base)
  c2 : compFn nms view 2 = some (1, 1, b_need_base)
  c4 : compFn nms view 4 = some (2, 3, b_is_row)
  c5 : compFn nms view 5 = some (2, 2, b_need_row)
  c10 : compFn nms view 10 = some (1, 2, b_trimmed)
  c11 : compFn nms view 11 = some (2, 3, b_order)
  c12 : compFn nms view 12 = some (3, 6, b_plain_sum)
  c13 : compFn nms view 13 = some (3, 7, b_plain_difference)
  c14 : compFn nms view 14 = some (3, 6, b_plain_scaled)
  c15 : compFn nms view 15 = some (2, 2, b_plain_shifted)
  c28 : compFn nms view 28 = some (3, 6, b_how_often)
  c29 : compFn nms view 29 = some (3, 7, b_plain_divided)
  c32 : compFn nms view 32 = some (3, 7, b_ladder)
  c50 : compFn nms view 50 = some (2, 2, b_law_draw)
  c51 : compFn nms view 51 = some (1, 1, b_law_base_by)
  c52 : compFn nms view 52 = some (4, 10, b_law_row_by)
  c60 : compFn nms view 60 = some (2, 2, b_law_cut)
  c53 : compFn nms view 53 = some (2, 4, b_law_number)
  c54 : compFn nms view 54 = some (2, 3, b_law_figures)
  c55 : compFn nms view 55 = some (1, 1, b_law_is_number)
  c61 : compFn nms view 61 = some (2, 3, b_law_is_row)
  c99 : compFn nms view 99 = some (1, 14, b_law_11)
  k1000 : valOf view "LEAST_BASE" = some (.int 2)
  k1001 : valOf view "MOST_BASE" = some (.int 1000000)
  nm : (nms.all fun p => decide (1000 ≤ p.1) || (recsOf view).any (fun d => d.name == p.2)) = true
  imp : importsNone view = true
  blt : (bltTab.all fun x => !startupNames.contains x.1 && !loose.contains x.1 && !((recsOf view).map (·.name)).contains x.1 && !((litsOf view).map (·.1)).contains x.1 && !((clssOf view loose).map (·.name)).contains x.1) = true
theorem specs {p view : Program} {w : World} {loose : List Str} {mean : ExcName → Option Value} {mg mb : Str → Option Value} {h : Heap} (T : Top view loose mean mg mb h) (ht : p.given.tree = none) (C : Checks view loose) :
    ∀ n f ds K, Φ n f ds K → Spec (fnameOf nms) ⟨p, w, h, mg, mb⟩ n f ds K := by
  have GD := gd_of_top (w := w) T ht C.imp C.blt
  have NM := named_of_top T C.nm
  refine all_sound Φ GD NM ?_ ?_
  · intro f ds K h
    unfold Φ at h
    split at h <;> first | exact h.elim | exact absurd h.1 (by decide)
  · intro n f ds K ih h
    have h' := h
    unfold Φ at h'
    split at h' 
    · exact .inr (.inl ⟨by decide, 1, 1, b_whole, fn_of_top (g := ⟨p, w, _, mg, mb⟩) T C.c0, by obtain ⟨_, h⟩ := h'; revert h; first | (rintro ⟨_, rfl, _⟩; rfl) | (rintro ⟨_, _, rfl, _⟩; rfl) | (rintro ⟨_, _, _, rfl, _⟩; rfl) | (rintro ⟨_, _, _, _, rfl, _⟩; rfl) | (rintro ⟨_, _, _, _, _, rfl, _⟩; rfl), t_whole h⟩)
    · exact .inr (.inl ⟨by decide, 1, 1, b_is_base, fn_of_top (g := ⟨p, w, _, mg, mb⟩) T C.c1, by obtain ⟨_, h⟩ := h'; revert h; first | (rintro ⟨_, rfl, _⟩; rfl) | (rintro ⟨_, _, rfl, _⟩; rfl) | (rintro ⟨_, _, _, rfl, _⟩; rfl) | (rintro ⟨_, _, _, _, rfl, _⟩; rfl) | (rintro ⟨_, _, _, _, _, rfl, _⟩; rfl), t_is_base h⟩)
    · exact .inr (.inl ⟨by decide, 1, 1, b_need_base, fn_of_top (g := ⟨p, w, _, mg, mb⟩) T C.c2, by obtain ⟨_, h⟩ := h'; revert h; first | (rintro ⟨_, rfl, _⟩; rfl) | (rintro ⟨_, _, rfl, _⟩; rfl) | (rintro ⟨_, _, _, rfl, _⟩; rfl) | (rintro ⟨_, _, _, _, rfl, _⟩; rfl) | (rintro ⟨_, _, _, _, _, rfl, _⟩; rfl), t_need_base h⟩)
    · exact .inr (.inl ⟨by decide, 2, 3, b_is_row, fn_of_top (g := ⟨p, w, _, mg, mb⟩) T C.c4, by obtain ⟨_, h⟩ := h'; revert h; first | (rintro ⟨_, rfl, _⟩; rfl) | (rintro ⟨_, _, rfl, _⟩; rfl) | (rintro ⟨_, _, _, rfl, _⟩; rfl) | (rintro ⟨_, _, _, _, rfl, _⟩; rfl) | (rintro ⟨_, _, _, _, _, rfl, _⟩; rfl), t_is_row h⟩)
    · exact .inr (.inl ⟨by decide, 2, 2, b_need_row, fn_of_top (g := ⟨p, w, _, mg, mb⟩) T C.c5, by obtain ⟨_, h⟩ := h'; revert h; first | (rintro ⟨_, rfl, _⟩; rfl) | (rintro ⟨_, _, rfl, _⟩; rfl) | (rintro ⟨_, _, _, rfl, _⟩; rfl) | (rintro ⟨_, _, _, _, rfl, _⟩; rfl) | (rintro ⟨_, _, _, _, _, rfl, _⟩; rfl), t_need_row h⟩)
    · exact .inr (.inl ⟨by decide, 1, 2, b_trimmed, fn_of_top (g := ⟨p, w, _, mg, mb⟩) T C.c10, by obtain ⟨_, h⟩ := h'; revert h; first | (rintro ⟨_, rfl, _⟩; rfl) | (rintro ⟨_, _, rfl, _⟩; rfl) | (rintro ⟨_, _, _, rfl, _⟩; rfl) | (rintro ⟨_, _, _, _, rfl, _⟩; rfl) | (rintro ⟨_, _, _, _, _, rfl, _⟩; rfl), t_trimmed h⟩)
    · exact .inr (.inl ⟨by decide, 2, 3, b_order, fn_of_top (g := ⟨p, w, _, mg, mb⟩) T C.c11, by obtain ⟨_, h⟩ := h'; revert h; first | (rintro ⟨_, rfl, _⟩; rfl) | (rintro ⟨_, _, rfl, _⟩; rfl) | (rintro ⟨_, _, _, rfl, _⟩; rfl) | (rintro ⟨_, _, _, _, rfl, _⟩; rfl) | (rintro ⟨_, _, _, _, _, rfl, _⟩; rfl), t_order h⟩)
    · exact .inr (.inl ⟨by decide, 3, 6, b_plain_sum, fn_of_top (g := ⟨p, w, _, mg, mb⟩) T C.c12, by obtain ⟨_, h⟩ := h'; revert h; first | (rintro ⟨_, rfl, _⟩; rfl) | (rintro ⟨_, _, rfl, _⟩; rfl) | (rintro ⟨_, _, _, rfl, _⟩; rfl) | (rintro ⟨_, _, _, _, rfl, _⟩; rfl) | (rintro ⟨_, _, _, _, _, rfl, _⟩; rfl), t_plain_sum h⟩)
    · exact .inr (.inl ⟨by decide, 3, 6, b_plain_scaled, fn_of_top (g := ⟨p, w, _, mg, mb⟩) T C.c14, by obtain ⟨_, h⟩ := h'; revert h; first | (rintro ⟨_, rfl, _⟩; rfl) | (rintro ⟨_, _, rfl, _⟩; rfl) | (rintro ⟨_, _, _, rfl, _⟩; rfl) | (rintro ⟨_, _, _, _, rfl, _⟩; rfl) | (rintro ⟨_, _, _, _, _, rfl, _⟩; rfl), t_plain_scaled h⟩)
    · exact .inr (.inl ⟨by decide, 2, 2, b_plain_shifted, fn_of_top (g := ⟨p, w, _, mg, mb⟩) T C.c15, by obtain ⟨_, h⟩ := h'; revert h; first | (rintro ⟨_, rfl, _⟩; rfl) | (rintro ⟨_, _, rfl, _⟩; rfl) | (rintro ⟨_, _, _, rfl, _⟩; rfl) | (rintro ⟨_, _, _, _, rfl, _⟩; rfl) | (rintro ⟨_, _, _, _, _, rfl, _⟩; rfl), t_plain_shifted h⟩)
    · exact .inr (.inl ⟨by decide, 3, 7, b_plain_difference, fn_of_top (g := ⟨p, w, _, mg, mb⟩) T C.c13, by obtain ⟨_, h⟩ := h'; revert h; first | (rintro ⟨_, rfl, _⟩; rfl) | (rintro ⟨_, _, rfl, _⟩; rfl) | (rintro ⟨_, _, _, rfl, _⟩; rfl) | (rintro ⟨_, _, _, _, rfl, _⟩; rfl) | (rintro ⟨_, _, _, _, _, rfl, _⟩; rfl), t_plain_difference h⟩)
    · exact .inr (.inl ⟨by decide, 3, 6, b_how_often, fn_of_top (g := ⟨p, w, _, mg, mb⟩) T C.c28, by obtain ⟨_, h⟩ := h'; revert h; first | (rintro ⟨_, rfl, _⟩; rfl) | (rintro ⟨_, _, rfl, _⟩; rfl) | (rintro ⟨_, _, _, rfl, _⟩; rfl) | (rintro ⟨_, _, _, _, rfl, _⟩; rfl) | (rintro ⟨_, _, _, _, _, rfl, _⟩; rfl), t_how_often h⟩)
    · exact .inr (.inl ⟨by decide, 3, 7, b_plain_divided, fn_of_top (g := ⟨p, w, _, mg, mb⟩) T C.c29, by obtain ⟨_, h⟩ := h'; revert h; first | (rintro ⟨_, rfl, _⟩; rfl) | (rintro ⟨_, _, rfl, _⟩; rfl) | (rintro ⟨_, _, _, rfl, _⟩; rfl) | (rintro ⟨_, _, _, _, rfl, _⟩; rfl) | (rintro ⟨_, _, _, _, _, rfl, _⟩; rfl), t_plain_divided h⟩)
    · exact .inr (.inl ⟨by decide, 3, 7, b_ladder, fn_of_top (g := ⟨p, w, _, mg, mb⟩) T C.c32, by obtain ⟨_, h⟩ := h'; revert h; first | (rintro ⟨_, rfl, _⟩; rfl) | (rintro ⟨_, _, rfl, _⟩; rfl) | (rintro ⟨_, _, _, rfl, _⟩; rfl) | (rintro ⟨_, _, _, _, rfl, _⟩; rfl) | (rintro ⟨_, _, _, _, _, rfl, _⟩; rfl), t_ladder h⟩)
    · exact .inr (.inl ⟨by decide, 2, 2, b_law_draw, fn_of_top (g := ⟨p, w, _, mg, mb⟩) T C.c50, by obtain ⟨_, h⟩ := h'; revert h; first | (rintro ⟨_, rfl, _⟩; rfl) | (rintro ⟨_, _, rfl, _⟩; rfl) | (rintro ⟨_, _, _, rfl, _⟩; rfl) | (rintro ⟨_, _, _, _, rfl, _⟩; rfl) | (rintro ⟨_, _, _, _, _, rfl, _⟩; rfl), t_law_draw h⟩)
    · exact .inr (.inl ⟨by decide, 1, 1, b_law_base_by, fn_of_top (g := ⟨p, w, _, mg, mb⟩) T C.c51, by obtain ⟨_, h⟩ := h'; revert h; first | (rintro ⟨_, rfl, _⟩; rfl) | (rintro ⟨_, _, rfl, _⟩; rfl) | (rintro ⟨_, _, _, rfl, _⟩; rfl) | (rintro ⟨_, _, _, _, rfl, _⟩; rfl) | (rintro ⟨_, _, _, _, _, rfl, _⟩; rfl), t_law_base_by h⟩)
    · exact .inr (.inl ⟨by decide, 4, 10, b_law_row_by, fn_of_top (g := ⟨p, w, _, mg, mb⟩) T C.c52, by obtain ⟨_, h⟩ := h'; revert h; first | (rintro ⟨_, rfl, _⟩; rfl) | (rintro ⟨_, _, rfl, _⟩; rfl) | (rintro ⟨_, _, _, rfl, _⟩; rfl) | (rintro ⟨_, _, _, _, rfl, _⟩; rfl) | (rintro ⟨_, _, _, _, _, rfl, _⟩; rfl), t_law_row_by h⟩)
    · exact .inr (.inl ⟨by decide, 2, 4, b_law_number, fn_of_top (g := ⟨p, w, _, mg, mb⟩) T C.c53, by obtain ⟨_, h⟩ := h'; revert h; first | (rintro ⟨_, rfl, _⟩; rfl) | (rintro ⟨_, _, rfl, _⟩; rfl) | (rintro ⟨_, _, _, rfl, _⟩; rfl) | (rintro ⟨_, _, _, _, rfl, _⟩; rfl) | (rintro ⟨_, _, _, _, _, rfl, _⟩; rfl), t_law_number h⟩)
    · exact .inr (.inl ⟨by decide, 2, 3, b_law_figures, fn_of_top (g := ⟨p, w, _, mg, mb⟩) T C.c54, by obtain ⟨_, h⟩ := h'; revert h; first | (rintro ⟨_, rfl, _⟩; rfl) | (rintro ⟨_, _, rfl, _⟩; rfl) | (rintro ⟨_, _, _, rfl, _⟩; rfl) | (rintro ⟨_, _, _, _, rfl, _⟩; rfl) | (rintro ⟨_, _, _, _, _, rfl, _⟩; rfl), t_law_figures h⟩)
    · exact .inr (.inl ⟨by decide, 1, 1, b_law_is_number, fn_of_top (g := ⟨p, w, _, mg, mb⟩) T C.c55, by obtain ⟨_, h⟩ := h'; revert h; first | (rintro ⟨_, rfl, _⟩; rfl) | (rintro ⟨_, _, rfl, _⟩; rfl) | (rintro ⟨_, _, _, rfl, _⟩; rfl) | (rintro ⟨_, _, _, _, rfl, _⟩; rfl) | (rintro ⟨_, _, _, _, _, rfl, _⟩; rfl), t_law_is_number h⟩)
    · exact .inr (.inl ⟨by decide, 2, 2, b_law_cut, fn_of_top (g := ⟨p, w, _, mg, mb⟩) T C.c60, by obtain ⟨_, h⟩ := h'; revert h; first | (rintro ⟨_, rfl, _⟩; rfl) | (rintro ⟨_, _, rfl, _⟩; rfl) | (rintro ⟨_, _, _, rfl, _⟩; rfl) | (rintro ⟨_, _, _, _, rfl, _⟩; rfl) | (rintro ⟨_, _, _, _, _, rfl, _⟩; rfl), t_law_cut h⟩)
    · exact .inr (.inl ⟨by decide, 2, 3, b_law_is_row, fn_of_top (g := ⟨p, w, _, mg, mb⟩) T C.c61, by obtain ⟨_, h⟩ := h'; revert h; first | (rintro ⟨_, rfl, _⟩; rfl) | (rintro ⟨_, _, rfl, _⟩; rfl) | (rintro ⟨_, _, _, rfl, _⟩; rfl) | (rintro ⟨_, _, _, _, rfl, _⟩; rfl) | (rintro ⟨_, _, _, _, _, rfl, _⟩; rfl), t_law_is_row h⟩)
    · exact .inr (.inl ⟨by decide, 1, 14, b_law_11, fn_of_top (g := ⟨p, w, _, mg, mb⟩) T C.c99, by obtain ⟨_, h⟩ := h'; revert h; first | (rintro ⟨_, rfl, _⟩; rfl) | (rintro ⟨_, _, rfl, _⟩; rfl) | (rintro ⟨_, _, _, rfl, _⟩; rfl) | (rintro ⟨_, _, _, _, rfl, _⟩; rfl) | (rintro ⟨_, _, _, _, _, rfl, _⟩; rfl), t_law_11 h⟩)
    · obtain ⟨t, e⟩ := const_of_top T C.k1000; exact .inl ⟨by decide, 2, t, e, h'.2.1, h'.2.2⟩
    · obtain ⟨t, e⟩ := const_of_top T C.k1001; exact .inl ⟨by decide, 1000000, t, e, h'.2.1, h'.2.2⟩
    · exact h'.elim
theorem fin {p view : Program} {w : World} {loose : List Str} {mean : ExcName → Option Value} {mg mb : Str → Option Value} {s₁ : Shared} {fa a : Addr} {vs : List Value} {ns : List Int} {Q E : Value → Shared → Prop} (T : Top view loose mean mg mb s₁.heap) (ht : p.given.tree = none) (C : Checks view loose)
    (hm : mg (fnameOf nms 99) = some (.ref fa)) (w1 : Well w.params s₁.heap (.ref a) (ofPy (.list (ns.map .int)))) (hL : s₁.heap.IsList a vs.toArray) (hI : IntsAre vs ns) (hlen : ns.length ≤ 63)
    (hQ : ∀ s' : Shared, (∀ b o, s₁.heap.get? b = some o → s'.heap.get? b = some o) → s'.os = s₁.os → s'.gens = s₁.gens → Q (.bool true) s') :
    wpAny (model p w) callerA (call (.ref fa) [.ref a]) Q E s₁ :=
  law_run (n := 50) (specs T ht C 50 99 _ _ ⟨by decide, ns, rfl, hlen, rfl⟩) hm (by decide) (script_rp w1 hL hI hlen) hQ
end Mine
namespace Mine
open PySem
noncomputable def view : Program := { PySem.Challenge.pw_uf030001_11 with main := { PySem.Challenge.pw_uf030001_11.main with body := (((((PySem.Challenge.pw_uf030001_11.main.body.eraseIdx 23).eraseIdx 19).eraseIdx 14).eraseIdx 4).eraseIdx 0) } }
end Mine
open PySem PySem.W PyProof.Rows
set_option maxRecDepth 100000 in
set_option maxHeartbeats 8000000 in
theorem PySem.Challenge.cw_uf030001_11_holds : PySem.Challenge.rw_uf030001_11.Holds := by
  w_on; o_law
  refine holds_open (q := Mine.view) (loose := []) (Xt := fun s => xlAt Mine.view [] s && recOk (RowW.records _) s) (XP := XL Mine.view []) (Yf := Hook.obs Hook.none) (Ya := Hook.val Hook.none) (YP := Hook.says Hook.none) (N := 10000) ?hl (Hook.of Hook.none) (Hook.keeps Hook.none) (fun s e => xl_of s (Bool.and_eq_true_iff.mp e).1) XL.keeps (by rfl) (by rfl) (by rfl) (fun s e => recFacts_of (Bool.and_eq_true_iff.mp e).2) (by rfl) (by first | assumption | decide +kernel) (by decide +kernel) ⟨rfl, rfl, rfl, rfl, rfl, by decide +kernel⟩ ?hw ?hc
  case hl => intro w; kernel_rfl
  case hw => w_witness2
  intro w s₀ s₁ mg mb G Y fa o pm cd doc dV kV ho hd hcd hD hmg hg args vals as hpre hlay hrd hwl hlo
  have G0 := G
  refine Ground.open G ?_
  intro T B D TE TW
  wrow_args hpre hlay hrd hwl hlo
  refine Mine.fin T (by kernel_rfl) ⟨by kernel_rfl, by kernel_rfl, by kernel_rfl, by kernel_rfl, by kernel_rfl, by kernel_rfl, by kernel_rfl, by kernel_rfl, by kernel_rfl, by kernel_rfl, by kernel_rfl, by kernel_rfl, by kernel_rfl, by kernel_rfl, by kernel_rfl, by kernel_rfl, by kernel_rfl, by kernel_rfl, by kernel_rfl, by kernel_rfl, by kernel_rfl, by kernel_rfl, by kernel_rfl, by kernel_rfl, by kernel_rfl, by decide +kernel, by decide +kernel, by decide +kernel⟩ hmg (by assumption) (by assumption) (by assumption) (by omega) ?_
  intro s' hk ho' hg'
  exact GoodW.toG ⟨.inl ⟨.bool true, .bool true, [], rfl, fun cls => by cases cls <;> rfl, .bool true, by kernel_rfl, fun _ => ⟨List.nodup_nil, fun _ h => (nomatch h)⟩⟩, hk, ho', hg'.trans hg⟩
