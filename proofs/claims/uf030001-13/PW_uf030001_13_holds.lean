import PyProof.Rows.All
import Wide.All
import Open.Line
import Wide.FinOn
import PyProof.Rows.Top
import PyProof.Rows.Many
import PyProof.EqLayable
import PyProof.Rows.Globals
import PyProof.Rows.Exc
import PyProof.PureInt
import PyProof.IsiPairs
import PyProof.NoPylong
import PyProof.StationsW
import PyProof.Rows.OwnQ
import PyProof.Rows.SeqMore
import PyProof.Rows.RuleB_floordiv
import PyProof.Rows.RuleB_mod
import PyProof.Rows.RuleB_pow
import PyProof.Rows.ListMul
import PyProof.Rows.ListMulArg
import PyProof.Rows.Chain
import PyProof.Rows.Nodes
import PyProof.FitsBits
import PyProof.Cells
import PyProof.StrOps2
import PyProof.StrBlock2
import PyProof.IsRules
import PyProof.WalkInts
import PyProof.Truth
import PyProof.ListTruth
import PyProof.Rows.TupMore
import PyProof.Rows.Lst
import PyProof.Rows.StrTemp
import PyProof.Rows.Tup
import PyProof.Rows.TupSub
import PyProof.ListIndexNeg
import PyProof.SliceMore
import PyProof.ListCopy
import PyProof.Conv_int
import PyProof.Conv_int_bool
import PyProof.StrOps
import PyProof.IsiHeapPairs
import PyProof.IsiNone
import PyProof.StrLawsIn
import PyProof.StrLawsTight
import PyProof.CallStr
import KE.KIntText
import PyProof.SliceSyntax
import PyProof.SliceStr2
import PyProof.Rows.TupAssign
import PyProof.Rows.TupIter
import PyProof.ForAppend
import PyProof.Walks
import PyProof.WalksMore
import KE.KRevIter
import PyProof.Rows.SeqWords
import PyProof.RangeFor
import PyProof.Rows.Range3
import KE.KRevSl
import PyProof.StrLoop
import PyProof.Rows.CellsNews
import PyProof.EnumMake
import PyProof.WalksEnum
import PyProof.ForAny
import PyProof.Rows.SeqMore3
import PyProof.EnumFor
import PyProof.DictStraight
import PyProof.ListOps
import PyProof.CompFree
import PyProof.Rows.GenSrcRange
import PyProof.Rows.CatchOwn
import PyProof.ExcBaseAll.ValueError
import PyProof.RulesAs
import PyProof.RulesDel
import PyProof.IsInstance
import PyProof.MeetsStr2
import PyProof.StrCalls2
import PyProof.Rows.StrItems
import PyProof.Rows.StrJoin2
import PySem.Challenge.RW_uf030001_13
set_option Elab.async false
set_option maxRecDepth 100000
set_option Elab.async false
namespace Mine
open PySem

noncomputable abbrev D := PyData

noncomputable def st (l : List Nat) : Str := ⟨l.toArray⟩
noncomputable def isDig (c : Nat) : Bool := decide (48 ≤ c) && decide (c ≤ 57)
noncomputable def dval (l : List Nat) : Nat := l.foldl (fun a c => a * 10 + (c - 48)) 0
noncomputable def spl : List Nat → List (List Nat)
  | [] => [[]]
  | c :: l => if c = 46 then [] :: spl l else match spl l with
    | w :: r => (c :: w) :: r
    | [] => [[c]]
noncomputable def txt (n : Int) : List Nat := (Nat.toDigits 10 n.toNat).map Char.toNat
noncomputable def jn : List (List Nat) → List Nat
  | [] => []
  | [w] => w
  | w :: v :: r => w ++ 46 :: jn (v :: r)

inductive Cell where
  | unset
  | val (d : D)
  | own (d : D)

noncomputable abbrev Vars := List Cell

structure Fg where
  sh : Bool
  u : List Nat

noncomputable abbrev ff : Fg := ⟨false, []⟩

inductive Op where
  | add | sub | mul | fdiv | mod | pow
inductive Cm where
  | eq | ne | lt | le | gt | ge | is | isnt | isin | notin
inductive Ty where
  | int | bool | list | tuple | str

noncomputable def imm : D → Bool
  | .none | .bool _ | .int _ | .str _ => true
  | .list _ | .tuple _ | .dict _ => false

mutual
noncomputable def eqD : D → D → Bool
  | .none, .none => true
  | .bool a, .bool b => a == b
  | .bool a, .int j => (if a then 1 else 0) == j
  | .int i, .bool b => i == (if b then 1 else 0)
  | .int i, .int j => i == j
  | .str x, .str y => x == y
  | .list xs, .list ys => eqDs xs ys
  | .tuple xs, .tuple ys => eqDs xs ys
  | _, _ => false
noncomputable def eqDs : List D → List D → Bool
  | [], [] => true
  | x :: xs, y :: ys => eqD x y && eqDs xs ys
  | _, _ => false
end

noncomputable def okD : Nat → D → Bool
  | _, .none | _, .bool _ | _, .int _ => true
  | _, .str x => x.cps.all (· < 0x110000)
  | n + 1, .list xs | n + 1, .tuple xs => xs.all (okD n)
  | _, _ => false

noncomputable def truth : D → Bool
  | .none => false
  | .bool b => b
  | .int n => n != 0
  | .str s => s.cps.size != 0
  | .list xs | .tuple xs => !xs.isEmpty
  | .dict kvs => !kvs.isEmpty

noncomputable def isTy : Ty → D → Bool
  | .int, .int _ | .int, .bool _ => true
  | .bool, .bool _ => true
  | .list, .list _ => true
  | .tuple, .tuple _ => true
  | .str, .str _ => true
  | _, _ => false

set_option genInjectivity false
set_option genSizeOfSpec false
inductive Ar where
  | k
  | var (i : Nat)
  | int (n : Int)
  | bin (op : Op) (a b : Ar)
  | ask (f i : Nat) (n : Int)
mutual
inductive X where
  | var (i : Nat)
  | int (n : Int)
  | str (s : Str)
  | bool (b : Bool)
  | none
  | glob (i : Nat)
  | bin (op : Op) (a b : X)
  | neg (a : X)
  | not (a : X)
  | and (xs : Xs)
  | or (xs : Xs)
  | cmp (op : Cm) (a b : X)
  | cmp2 (o1 o2 : Cm) (a b c : X)
  | ite (t a b : X)
  | call (f : Nat) (xs : Xs)
  | len (a : X)
  | isinst (a : X) (t : Ty)
  | max (a b : X)
  | min (a b : X)
  | listOf (a : X)
  | intOf (a : X)
  | idx (a i : X)
  | upto (a i : X)
  | from (a i : X)
  | rev (a : X)
  | list (xs : Xs)
  | tup (xs : Xs)
  | comp (n : X) (a : Ar) (i : Nat)
  | strOf (a : X)
  | split (a : X)
  | joinS (a : X)
inductive Xs where
  | nil
  | cons (x : X) (xs : Xs)
end

inductive It where
  | items (e : X)
  | back (e : X)
  | range (e : X)
  | down (e : X)

mutual
inductive S where
  | assign (i : Nat) (e : X)
  | pair (i j : Nat) (a b : X)
  | pairF (i j : Nat) (a b : X)
  | append (i : Nat) (e : X)
  | reverse (i : Nat)
  | expr (e : X)
  | ite (t : X) (a b : Ss)
  | ret (e : X)
  | retS (e : X)
  | whil (t : X) (b : Ss)
  | loop (i : Nat) (it : It) (b : Ss)
  | enum (i j : Nat) (e : X) (b : Ss)
  | never
  | raise (c : Nat)
  | tryA (i f : Nat) (xs : Xs) (c j : Nat) (b : Bool)
  | tryI (f : Nat) (xs : Xs) (c j : Nat)
  | tryR (i f : Nat) (xs : Xs) (c j o : Nat) (em : Bool)
  | appendAt (i k : Nat) (z : Int)
  | rung (st pr fi se : Nat)
  | fold (i v h l : Nat) (t r a b : X)
  | copies (j v : Nat)
  | append2 (i j : Nat) (z : Int)
  | compCall (i f j : Nat) (e : X)
  | tryN (f : Nat) (xs : Xs) (c j : Nat)
inductive Ss where
  | nil
  | cons (s : S) (r : Ss)
end

inductive Fl where
  | next | brk | cont
  | ret (d : D) (fresh : Bool)

noncomputable def sizeLid : Nat := 2 ^ 24
noncomputable def wordLid : Int := 2 ^ 63
noncomputable def rangeLid : Int := 2 ^ 62

noncomputable def mulOk (a b : Int) : Prop := (a.natAbs < 2 ^ 64 ∨ b.natAbs < 2 ^ 64) ∨ (a.natAbs < 2 ^ 100000 ∧ b.natAbs < 2 ^ 100000)

noncomputable def flat (xs : List D) : Bool := xs.all imm

noncomputable def cpF (xs : List D) (f : Fg) : Fg := if flat xs then ff else ⟨true, f.u⟩

noncomputable def binK (op : Op) (x : D) (f : Fg) (y : D) (g : Fg) (K : D → Fg → Prop) : Prop :=
  match op, x, y with
  | .add, .int a, .int b => K (.int (a + b)) ff
  | .sub, .int a, .int b => K (.int (a - b)) ff
  | .mul, .int a, .int b => mulOk a b ∧ K (.int (a * b)) ff
  | .fdiv, .int a, .int b => b ≠ 0 ∧ K (.int (a.fdiv b)) ff
  | .mod, .int a, .int b => b ≠ 0 ∧ K (.int (a.fmod b)) ff
  | .pow, .int a, .int b => 0 ≤ b ∧ b < 1000 ∧ a.natAbs < 2 ^ 64 ∧ K (.int (a ^ b.toNat)) ff
  | .add, .list xs, .list ys => xs.length + ys.length ≤ sizeLid ∧ K (.list (xs ++ ys)) (cpF (xs ++ ys) ⟨true, f.u ++ g.u⟩)
  | .add, .str x, .str y => x.cps.toList.length + y.cps.toList.length ≤ sizeLid ∧ K (.str (st (x.cps.toList ++ y.cps.toList))) ff
  | .mul, .str x, .int n => 0 ≤ n ∧ n ≤ 1000 ∧ x.cps.toList.length ≤ 1000 ∧ K (.str (st (List.replicate n.toNat x.cps.toList).flatten)) ff
  | .mul, .list xs, .int n => flat xs = true ∧ n < wordLid ∧ -wordLid ≤ n ∧ xs.length * n.toNat ≤ sizeLid ∧ K (.list (List.replicate n.toNat xs).flatten) ff
  | _, _, _ => False

noncomputable def cmpK (op : Cm) (x y : D) (K : Bool → Prop) : Prop :=
  match op, x, y with
  | .eq, .int a, .int b => K (decide (a = b))
  | .ne, .int a, .int b => K (decide (a ≠ b))
  | .lt, .int a, .int b => K (decide (a < b))
  | .le, .int a, .int b => K (decide (a ≤ b))
  | .gt, .int a, .int b => K (decide (b < a))
  | .ge, .int a, .int b => K (decide (b ≤ a))
  | .eq, x, y => okD 8 x = true ∧ okD 8 y = true ∧ K (eqD x y)
  | .ne, x, y => okD 8 x = true ∧ okD 8 y = true ∧ K (!eqD x y)
  | .is, x, .bool b => K (match x with | .bool a => a == b | _ => false)
  | .is, x, .none => K (match x with | .none => true | _ => false)
  | .isnt, x, .bool b => K (!(match x with | .bool a => a == b | _ => false))
  | .isnt, x, .none => K (!(match x with | .none => true | _ => false))
  | .notin, .str y, .str x => ∃ c, y.cps.toList = [c] ∧ K (!x.cps.toList.contains c)
  | _, _, _ => False

noncomputable def place (n : Nat) (k : Int) : Int := if k < 0 then k + n else k

noncomputable def idxK (d : D) (f : Fg) (k : D) (K : D → Fg → Prop) : Prop :=
  match d, k with
  | .list xs, .int i | .tuple xs, .int i => -wordLid ≤ i ∧ i < wordLid ∧ 0 ≤ place xs.length i ∧ ∃ x, xs[(place xs.length i).toNat]? = some x ∧ K x (if imm x then ff else f)
  | .str s, .int i => -wordLid ≤ i ∧ i < wordLid ∧ 0 ≤ place s.cps.toList.length i ∧ ∃ c, s.cps.toList[(place s.cps.toList.length i).toNat]? = some c ∧ K (.str (st [c])) ff
  | _, _ => False

noncomputable def cut (n : Nat) (k : Int) : Nat := if k < 0 then (k + n).toNat else k.toNat

noncomputable def rd (ρ : Vars) (i : Nat) (K : D → Fg → Prop) : Prop :=
  match ρ[i]? with
  | some (.val d) => K d ⟨!imm d, []⟩
  | some (.own d) => K d ⟨false, if imm d then [] else [i]⟩
  | _ => False

noncomputable def br : Bool → Prop → Prop → Prop
  | true, a, _ => a
  | false, _, b => b
theorem br_of {c : Bool} {a b : Prop} (h1 : c = true → a) (h2 : c = false → b) : br c a b := by cases c; exact h2 rfl; exact h1 rfl
theorem br_tt {c : Bool} {a b : Prop} (h : c = true) (h1 : a) : br c a b := by subst h; exact h1
theorem br_ff {c : Bool} {a b : Prop} (h : c = false) (h1 : b) : br c a b := by subst h; exact h1

noncomputable abbrev Calls := Nat → List D → (D → Bool → Prop) → Prop

noncomputable def arK (Φ : Calls) (ρ : Vars) (k : Int) : Ar → (Int → Prop) → Prop
  | .k, K => K k
  | .var i, K => match ρ[i]? with
    | some (.val (.int n)) => K n
    | _ => False
  | .int n, K => K n
  | .bin op a b, K => arK Φ ρ k a fun x => arK Φ ρ k b fun y => binK op (.int x) ff (.int y) ff fun d _ => match d with
    | .int z => K z
    | _ => False
  | .ask f i n, K => match ρ[i]? with
    | some (.val d) => Φ f [d, .int n] fun r _ => match r with
      | .int z => K z
      | _ => False
    | _ => False

mutual
noncomputable def wE (Φ : Calls) (ρ : Vars) : X → (D → Fg → Prop) → Prop
  | .var i, K => rd ρ i K
  | .int n, K => K (.int n) ff
  | .str s, K => K (.str s) ff
  | .bool b, K => K (.bool b) ff
  | .none, K => K .none ff
  | .glob i, K => Φ (1000 + i) [] fun d _ => imm d = true ∧ K d ff
  | .bin op a b, K => wE Φ ρ a fun x f => wE Φ ρ b fun y g => binK op x f y g K
  | .neg a, K => wE Φ ρ a fun x _ => match x with | .int n => K (.int (-n)) ff | _ => False
  | .not a, K => wE Φ ρ a fun x _ => K (.bool (!truth x)) ff
  | .and xs, K => wAnd Φ ρ xs K
  | .or xs, K => wOr Φ ρ xs K
  | .cmp op a b, K => wE Φ ρ a fun x _ => wE Φ ρ b fun y _ => cmpK op x y fun r => K (.bool r) ff
  | .cmp2 o1 o2 a b c, K => wE Φ ρ a fun x _ => wE Φ ρ b fun y _ => cmpK o1 x y fun r => br r (wE Φ ρ c fun z _ => cmpK o2 y z fun r => K (.bool r) ff) (K (.bool false) ff)
  | .ite t a b, K => wE Φ ρ t fun d _ => br (truth d) (wE Φ ρ a K) (wE Φ ρ b K)
  | .call f xs, K => wL Φ ρ xs fun ds _ => Φ f ds fun d fr => K d (if imm d then ff else if fr then ff else ⟨true, List.range ρ.length⟩)
  | .len a, K => wE Φ ρ a fun x _ => match x with
      | .list xs => K (.int xs.length) ff
      | .tuple xs => K (.int xs.length) ff
      | .str s => K (.int s.cps.size) ff
      | _ => False
  | .isinst a t, K => wE Φ ρ a fun x _ => K (.bool (isTy t x)) ff
  | .max a b, K => wE Φ ρ a fun x _ => wE Φ ρ b fun y _ => match x, y with
      | .int m, .int n => K (.int (if n > m then n else m)) ff
      | _, _ => False
  | .min a b, K => wE Φ ρ a fun x _ => wE Φ ρ b fun y _ => match x, y with
      | .int m, .int n => K (.int (if n < m then n else m)) ff
      | _, _ => False
  | .listOf a, K => wE Φ ρ a fun x f => match x with
      | .list xs => K (.list xs) (cpF xs f)
      | _ => False
  | .intOf a, K => wE Φ ρ a fun x _ => match x with
      | .bool b => K (.int (if b then 1 else 0)) ff
      | .int n => K (.int n) ff
      | .str s => s.cps.toList ≠ [] ∧ s.cps.toList.length ≤ 640 ∧ (∀ c ∈ s.cps.toList, isDig c = true) ∧ K (.int (dval s.cps.toList)) ff
      | _ => False
  | .idx a i, K => wE Φ ρ a fun x f => wE Φ ρ i fun k _ => idxK x f k K
  | .upto a i, K => wE Φ ρ a fun x f => wE Φ ρ i fun k _ => match x, k with
      | .list xs, .int n => K (.list (xs.take (cut xs.length n))) (cpF (xs.take (cut xs.length n)) f)
      | .str s, .int n => K (.str (st (s.cps.toList.take (cut s.cps.toList.length n)))) ff
      | _, _ => False
  | .from a i, K => wE Φ ρ a fun x f => wE Φ ρ i fun k _ => match x, k with
      | .list xs, .int n => K (.list (xs.drop (cut xs.length n))) (cpF (xs.drop (cut xs.length n)) f)
      | .str s, .int n => K (.str (st (s.cps.toList.drop (cut s.cps.toList.length n)))) ff
      | _, _ => False
  | .rev a, K => wE Φ ρ a fun x f => match x with
      | .list xs => K (.list xs.reverse) (cpF xs.reverse f)
      | _ => False
  | .list xs, K => wL Φ ρ xs fun ds f => ds.length ≤ sizeLid ∧ K (.list ds) f
  | .tup xs, K => wL Φ ρ xs fun ds f => ds.length ≤ sizeLid ∧ K (.tuple ds) f
  | .comp n a i, K => wE Φ ρ n fun x _ => match x with
      | .int m => 0 ≤ m ∧ m ≤ 5000 ∧ ∃ b : Int, ρ[i]? = some (.val (.int b)) ∧ 0 < b ∧ (∀ k : Nat, (k : Int) < m → arK Φ ρ k a fun _ => True) ∧
        ∀ zs : List Int, zs.length = m.toNat → (∀ z ∈ zs, 0 ≤ z ∧ z < b) → K (.list (zs.map .int)) ff
      | _ => False
  | .strOf a, K => wE Φ ρ a fun x _ => match x with
      | .int n => 0 ≤ n ∧ n < 10000000000 ∧ K (.str (st (txt n))) ff
      | _ => False
  | .split a, K => wE Φ ρ a fun x _ => match x with
      | .str s => s.cps.toList.length ≤ 5000 ∧ K (.list ((spl s.cps.toList).map fun w => .str (st w))) ff
      | _ => False
  | .joinS a, K => wE Φ ρ a fun x _ => match x with
      | .list ds => ∃ ns : List Int, ds = ns.map .int ∧ ns ≠ [] ∧ ns.length ≤ 1000 ∧ (∀ n ∈ ns, 0 ≤ n ∧ n < 10000000000) ∧ K (.str (st (jn (ns.reverse.map txt)))) ff
      | _ => False
noncomputable def wAnd (Φ : Calls) (ρ : Vars) : Xs → (D → Fg → Prop) → Prop
  | .nil, _ => False
  | .cons x .nil, K => wE Φ ρ x K
  | .cons x xs, K => wE Φ ρ x fun d f => br (truth d) (wAnd Φ ρ xs K) (K d f)
noncomputable def wOr (Φ : Calls) (ρ : Vars) : Xs → (D → Fg → Prop) → Prop
  | .nil, _ => False
  | .cons x .nil, K => wE Φ ρ x K
  | .cons x xs, K => wE Φ ρ x fun d f => br (truth d) (K d f) (wOr Φ ρ xs K)
noncomputable def wL (Φ : Calls) (ρ : Vars) : Xs → (List D → Fg → Prop) → Prop
  | .nil, K => K [] ff
  | .cons x xs, K => wE Φ ρ x fun d f => wL Φ ρ xs fun ds g => K (d :: ds) ⟨f.sh || g.sh, f.u ++ g.u⟩
end

noncomputable def wT (Φ : Calls) (ρ : Vars) (x : X) (K : Bool → Prop) : Prop := wE Φ ρ x fun d _ => K (truth d)

noncomputable def dem : Vars → List Nat → Vars
  | ρ, [] => ρ
  | ρ, j :: r => match ρ[j]? with
    | some (.own d) => dem (ρ.set j (.val d)) r
    | _ => dem ρ r

noncomputable def asg (ρ : Vars) (i : Nat) (d : D) (f : Fg) : Vars :=
  if imm d then ρ.set i (.val d) else if f.sh = false ∧ f.u = [] then ρ.set i (.own d) else (dem ρ f.u).set i (.val d)

noncomputable def pairAsg (ρ : Vars) (i j : Nat) (x : D) (f : Fg) (y : D) (k : Fg) : Vars :=
  if f.sh = false ∧ k.sh = false ∧ f.u ++ k.u = [] then asg (asg ρ j y k) i x f else asg (asg ρ j y ⟨true, f.u ++ k.u⟩) i x ⟨true, f.u ++ k.u⟩

noncomputable def wIt (Φ : Calls) (ρ : Vars) : It → (List D → List Nat → Prop) → Prop
  | .items e, K => wE Φ ρ e fun x f => match x with | .list xs => K xs f.u | .str s => K (s.cps.toList.map fun c => .str (st [c])) [] | _ => False
  | .back e, K => wE Φ ρ e fun x f => match x with | .list xs => K xs.reverse f.u | _ => False
  | .range e, K => wE Φ ρ e fun x _ => match x with | .int n => n < rangeLid ∧ -rangeLid ≤ n ∧ K ((List.range n.toNat).map fun (k : Nat) => .int k) [] | _ => False
  | .down e, K => wE Φ ρ e fun x _ => match x with | .int n => n < rangeLid ∧ -rangeLid ≤ n ∧ K ((List.range (n + 1).toNat).map fun (k : Nat) => .int (n - k)) [] | _ => False

noncomputable def compK (Φ : Calls) (ρ : Vars) (i f j : Nat) (e : X) (Z : Nat → Prop) (Q : Fl → Vars → Prop) : Prop := wE Φ ρ e fun x _ => match x with
  | .list ws => ∃ b, ρ[j]? = some (.val b) ∧ imm b = true ∧ flat ws = true ∧ ws.length ≤ 5000 ∧
      (∀ w ∈ ws, (∃ z : Int, Φ f [b, w] fun r _ => r = .int z) ∨ Φ (500 + f) [b, w] fun d _ => ∃ c : Nat, d = .int (c : Int) ∧ Z c) ∧
      ∀ zs : List Int, zs.length = ws.length → (∀ (k : Nat) (w : D) (z : Int), ws[k]? = some w → zs[k]? = some z → Φ f [b, w] fun r _ => r = .int z) → Q .next (ρ.set i (.own (.list (zs.map .int))))
  | _ => False

noncomputable def foldV (ρ : Vars) (v h l i : Nat) (d x y z : D) : Vars := (((ρ.set v (.val d)).set h (.val x)).set l (.val y)).set i (.val z)
noncomputable def flatL : D → Bool
  | .list xs => flat xs
  | _ => false

mutual
noncomputable def wS (Φ : Calls) : S → (Fl → Vars → Prop) → Vars → Prop
  | .assign i e, Q, ρ => wE Φ ρ e fun d f => Q .next (asg ρ i d f)
  | .pair i j a b, Q, ρ => wE Φ ρ a fun x f => wE Φ ρ b fun y k => Q .next (pairAsg ρ i j x f y k)
  | .pairF i j a b, Q, ρ => wE Φ ρ a fun x _ => wE Φ ρ b fun y _ => imm x = true ∧ imm y = true ∧ Q .next ((ρ.set i (.val x)).set j (.val y))
  | .append i e, Q, ρ => match ρ[i]? with
      | some (.own (.list xs)) => wE Φ ρ e fun d f => f.sh = false ∧ f.u = [] ∧ xs.length + 1 ≤ sizeLid ∧ Q .next (ρ.set i (.own (.list (xs ++ [d]))))
      | _ => False
  | .reverse i, Q, ρ => match ρ[i]? with
      | some (.own (.list xs)) => Q .next (ρ.set i (.own (.list xs.reverse)))
      | _ => False
  | .expr e, Q, ρ => wE Φ ρ e fun _ _ => Q .next ρ
  | .ite t a b, Q, ρ => wT Φ ρ t fun r => br r (wSs Φ a Q ρ) (wSs Φ b Q ρ)
  | .ret e, Q, ρ => wE Φ ρ e fun d f => Q (.ret d (!f.sh && decide f.u.Nodup)) ρ
  | .retS e, Q, ρ => wE Φ ρ e fun d _ => Q (.ret d false) ρ
  | .whil t b, Q, ρ => ∃ I : Nat → Vars → Prop, (∃ n, I n ρ) ∧ ∀ n σ, I n σ → wT Φ σ t fun r =>
      br r (wSs Φ b (fun fl τ => match fl with | .next | .cont => ∃ m, m < n ∧ I m τ | .brk => Q .next τ | .ret d fr => Q (.ret d fr) τ) σ) (Q .next σ)
  | .loop i it b, Q, ρ => wIt Φ ρ it fun ds u => ∃ I : Nat → Vars → Prop, I 0 (dem ρ u) ∧
      (∀ k σ d, ds[k]? = some d → I k σ → wSs Φ b (fun fl τ => match fl with | .next | .cont => I (k + 1) τ | .brk => Q .next τ | .ret d fr => Q (.ret d fr) τ) (asg σ i d ⟨true, []⟩)) ∧
      ∀ σ, I ds.length σ → Q .next σ
  | .enum i j e b, Q, ρ => wE Φ ρ e fun x f => match x with
      | .list ds => ∃ I : Nat → Vars → Prop, I 0 (dem ρ f.u) ∧
        (∀ k σ d, ds[k]? = some d → I k σ → wSs Φ b (fun fl τ => match fl with | .next | .cont => I (k + 1) τ | .brk => Q .next τ | .ret d fr => Q (.ret d fr) τ) (asg (asg σ i (.int k) ff) j d ⟨true, []⟩)) ∧
        ∀ σ, I ds.length σ → Q .next σ
      | _ => False
  | .never, _, _ => False
  | .raise _, _, _ => False
  | .tryA i f xs c j b, Q, ρ => (wL Φ ρ xs fun ds _ => Φ f ds fun d fr => Q .next (asg ρ i d (if imm d then ff else if fr then ff else ⟨true, List.range ρ.length⟩))) ∨
      (wL Φ ρ xs fun ds _ => Φ (500 + f) ds fun d _ => d = .int c ∧ Q .next (ρ.set j (.val (.bool b))))
  | .tryI f xs c j, Q, ρ => ρ[j]? = some .unset ∧ wL Φ ρ xs fun ds _ => Φ (500 + f) ds fun d _ => d = .int c ∧ Q (.ret (.bool true) true) ρ
  | .tryR i f xs c j o em, Q, ρ => (wL Φ ρ xs fun ds _ => Φ f ds fun d fr => Q .next (asg ρ i d (if imm d then ff else if fr then ff else ⟨true, List.range ρ.length⟩))) ∨
      (ρ[j]? = some .unset ∧ ρ[o]? = some (.val (match em with | true => .list [] | false => .int 0)) ∧ wL Φ ρ xs fun ds _ => Φ (500 + f) ds fun d _ => d = .int c ∧ Q (.ret (.bool true) true) ρ)
  | .appendAt i k z, Q, ρ => match ρ[i]? with
      | some (.own (.tuple ds)) => (match ds[k]? with
        | some (.list xs) => xs.length + 1 ≤ sizeLid ∧ Q .next (ρ.set i (.own (.tuple (ds.set k (.list (xs ++ [.int z]))))))
        | _ => False)
      | _ => False
  | .rung st pr fi se, Q, ρ => ∃ (xs : List D) (a b c : D), ρ[st]? = some (.own (.list xs)) ∧ ρ[pr]? = some (.own (.tuple [a, b])) ∧ ρ[se]? = some (.own c) ∧ xs.length + 1 ≤ sizeLid ∧
      Q .next ((((ρ.set pr .unset).set st (.own (.list (xs ++ [a])))).set fi (.own c)).set se (.own b))
  | .fold i v h l t r a b, Q, ρ => ∃ (xs ds : List D) (x₀ y₀ : D) (I : Nat → D → D → Prop), ρ[v]? = some (.own (.tuple (.list xs :: ds))) ∧ ρ[h]? = some (.val x₀) ∧ ρ[l]? = some (.val y₀) ∧ I 0 x₀ y₀ ∧ (∀ k x y, I k x y → imm x = true ∧ imm y = true) ∧
      (∀ k x y z, xs.reverse[k]? = some z → I k x y → wT Φ (foldV ρ v h l i (.tuple (.list xs :: ds)) x y z) t fun c =>
        br c (wE Φ (foldV ρ v h l i (.tuple (.list xs :: ds)) x y z) r fun d _ => Q (.ret d false) (foldV ρ v h l i (.tuple (.list xs :: ds)) x y z))
          (wE Φ (foldV ρ v h l i (.tuple (.list xs :: ds)) x y z) a fun x' _ => wE Φ (foldV ρ v h l i (.tuple (.list xs :: ds)) x y z) b fun y' _ => I (k + 1) x' y')) ∧
      ∀ x y, I xs.length x y → Q .next (((ρ.set h (.val x)).set l (.val y)).set i .unset)
  | .copies j v, Q, ρ => ∃ (xs ds : List D), ρ[v]? = some (.own (.tuple (.list xs :: ds))) ∧ xs.all flatL = true ∧ Q .next (ρ.set j (.own (.list xs)))
  | .append2 i j z, Q, ρ => ∃ (xs ds ys : List D) (k : Nat), ρ[i]? = some (.own (.tuple (.list xs :: ds))) ∧ ρ[j]? = some (.val (.int k)) ∧ xs[k]? = some (.list ys) ∧ k < 1000000 ∧ ys.length + 1 ≤ sizeLid ∧
      Q .next (ρ.set i (.own (.tuple (.list (xs.set k (.list (ys ++ [.int z]))) :: ds))))
  | .compCall i f j e, Q, ρ => compK Φ ρ i f j e (fun _ => False) Q
  | .tryN f xs c j, Q, ρ => ρ[j]? = some .unset ∧ wL Φ ρ xs fun ds _ => Φ (500 + f) ds fun d _ => d = .int c ∧ Q (.ret (.bool true) true) ρ
noncomputable def wSs (Φ : Calls) : Ss → (Fl → Vars → Prop) → Vars → Prop
  | .nil, Q, ρ => Q .next ρ
  | .cons s r, Q, ρ => wS Φ s (fun fl σ => match fl with | .next => wSs Φ r Q σ | fl => Q fl σ) ρ
end
noncomputable def xE (Φ : Calls) (ρ : Vars) (Z : Nat → Prop) : X → Prop
  | .call f xs => wL Φ ρ xs fun ds _ => Φ (500 + f) ds fun d _ => ∃ c : Nat, d = .int (c : Int) ∧ Z c
  | .not a => xE Φ ρ Z a
  | _ => False
mutual
noncomputable def xS (Φ : Calls) : S → (Fl → Vars → Prop) → (Nat → Prop) → Vars → Prop
  | .raise c, _, Z, _ => Z c
  | .expr e, Q, Z, ρ => xE Φ ρ Z e ∨ wE Φ ρ e fun _ _ => Q .next ρ
  | .ret e, Q, Z, ρ => xE Φ ρ Z e ∨ wS Φ (.ret e) Q ρ
  | .ite t a b, Q, Z, ρ => xE Φ ρ Z t ∨ wT Φ ρ t fun r => br r (xSs Φ a Q Z ρ) (xSs Φ b Q Z ρ)
  | .loop i it b, Q, Z, ρ => wIt Φ ρ it fun ds u => ∃ I : Nat → Vars → Prop, I 0 (dem ρ u) ∧
      (∀ k σ d, ds[k]? = some d → I k σ → xSs Φ b (fun fl τ => match fl with | .next | .cont => I (k + 1) τ | .brk => Q .next τ | .ret d fr => Q (.ret d fr) τ) Z (asg σ i d ⟨true, []⟩)) ∧
      ∀ σ, I ds.length σ → Q .next σ
  | .compCall i f j e, Q, Z, ρ => compK Φ ρ i f j e Z Q
  | s, Q, _, ρ => wS Φ s Q ρ
noncomputable def xSs (Φ : Calls) : Ss → (Fl → Vars → Prop) → (Nat → Prop) → Vars → Prop
  | .nil, Q, _, ρ => Q .next ρ
  | .cons s r, Q, Z, ρ => xS Φ s (fun fl σ => match fl with | .next => xSs Φ r Q Z σ | fl => Q fl σ) Z ρ
end
noncomputable def startVars (ds : List D) (m : Nat) : Vars := ds.map .val ++ List.replicate (m - ds.length) .unset
noncomputable def retPost (K : D → Bool → Prop) : Fl → Vars → Prop
  | .ret d fr, _ => K d fr
  | .next, _ => K .none true
  | _, _ => False
end Mine
set_option Elab.async false
namespace Mine
open PySem

noncomputable def iz (xs : List Int) : List D := xs.map .int
noncomputable abbrev L (xs : List Int) : D := .list (iz xs)

noncomputable def num (b : Int) : List Int → Int
  | [] => 0
  | x :: xs => x + b * num b xs

noncomputable def Fig (b x : Int) : Prop := 0 ≤ x ∧ x < b
noncomputable def Figs (b : Int) (xs : List Int) : Prop := ∀ x ∈ xs, Fig b x
noncomputable def Trim (xs : List Int) : Prop := xs.getLast? ≠ some 0
structure Row (b : Int) (xs : List Int) : Prop where
  lo : 2 ≤ b
  hi : b ≤ 1000000
  figs : Figs b xs
  trim : Trim xs
  len : xs.length ≤ 4000

theorem Figs.nil {b : Int} : Figs b [] := fun _ h => (nomatch h)
theorem Figs.cons {b x : Int} {xs : List Int} (h : Fig b x) (r : Figs b xs) : Figs b (x :: xs) := fun y hy => by
  rcases List.mem_cons.mp hy with rfl | hy
  · exact h
  · exact r y hy
theorem Figs.tail {b x : Int} {xs : List Int} (h : Figs b (x :: xs)) : Figs b xs := fun y hy => h y (.tail _ hy)
theorem Figs.append {b : Int} {xs ys : List Int} (h : Figs b xs) (r : Figs b ys) : Figs b (xs ++ ys) := fun y hy => (List.mem_append.mp hy).elim (h y) (r y)
theorem Figs.take {b : Int} {xs : List Int} (h : Figs b xs) (k : Nat) : Figs b (xs.take k) := fun y hy => h y (List.mem_of_mem_take hy)
theorem Figs.drop {b : Int} {xs : List Int} (h : Figs b xs) (k : Nat) : Figs b (xs.drop k) := fun y hy => h y (List.mem_of_mem_drop hy)

noncomputable def digN (b : Nat) : Nat → Nat → List Int
  | 0, _ => []
  | k + 1, n => if n = 0 then [] else ((n % b : Nat) : Int) :: digN b k (n / b)
noncomputable def dig (b n : Int) : List Int := digN b.toNat n.toNat n.toNat

theorem Trim.nil : Trim [] := by simp [Trim]
theorem Trim.cons {x : Int} {xs : List Int} (h : Trim xs) (hx : xs = [] → x ≠ 0) : Trim (x :: xs) := by
  unfold Trim at *
  cases xs with
  | nil => simpa using hx rfl
  | cons y ys => rw [List.getLast?_cons_cons]; exact h
theorem Trim.tail {x : Int} {xs : List Int} (h : Trim (x :: xs)) : Trim xs := by
  unfold Trim at *
  cases xs with
  | nil => simp
  | cons y ys => rw [List.getLast?_cons_cons] at h; exact h

theorem digN_ok {b : Nat} (hb : 2 ≤ b) : ∀ (k n : Nat), n ≤ k → Figs b (digN b k n) ∧ Trim (digN b k n) ∧ num b (digN b k n) = n
  | 0, n, h => by
    have : n = 0 := by omega
    subst this
    exact ⟨Figs.nil, Trim.nil, rfl⟩
  | k + 1, n, h => by
    unfold digN
    split
    · rename_i h0; subst h0; exact ⟨Figs.nil, Trim.nil, rfl⟩
    · rename_i h0
      have hlt : n / b ≤ k := by
        have : n / b < n := Nat.div_lt_self (by omega) (by omega)
        omega
      obtain ⟨h1, h2, h3⟩ := digN_ok hb k (n / b) hlt
      have hm : n % b < b := Nat.mod_lt _ (by omega)
      refine ⟨Figs.cons ⟨by omega, by omega⟩ h1, Trim.cons h2 fun e => ?_, ?_⟩
      · rw [e] at h3
        simp only [num] at h3
        have hz : n / b = 0 := by omega
        have := Nat.div_add_mod n b
        rw [hz] at this
        omega
      · simp only [num, h3]
        have := Nat.div_add_mod n b
        have e : ((n % b : Nat) : Int) + (b : Int) * ((n / b : Nat) : Int) = ((b * (n / b) + n % b : Nat) : Int) := by push_cast; omega
        rw [e, this]

theorem dig_ok {b n : Int} (hb : 2 ≤ b) (hn : 0 ≤ n) : Figs b (dig b n) ∧ Trim (dig b n) ∧ num b (dig b n) = n := by
  have h := digN_ok (b := b.toNat) (by omega) n.toNat n.toNat (Nat.le_refl _)
  have e : ((b.toNat : Nat) : Int) = b := by omega
  have e' : ((n.toNat : Nat) : Int) = n := by omega
  rw [e, e'] at h
  exact h
theorem num_ge {b : Int} (hb : 2 ≤ b) : ∀ {xs : List Int}, Figs b xs → Trim xs → xs ≠ [] → b ^ (xs.length - 1) ≤ num b xs
  | [], _, _, h => absurd rfl h
  | [x], h, t, _ => by
    have := (h x (.head _)).1
    have : x ≠ 0 := by simpa [Trim] using t
    simp [num]; omega
  | x :: y :: xs, h, t, _ => by
    have h1 := num_ge hb h.tail t.tail (by simp)
    have h2 := (h x (.head _)).1
    have h3 : b * b ^ ((y :: xs).length - 1) ≤ b * num b (y :: xs) := Int.mul_le_mul_of_nonneg_left h1 (by omega)
    have e : b ^ ((x :: y :: xs).length - 1) = b * b ^ ((y :: xs).length - 1) := by
      simp only [List.length_cons, Nat.add_sub_cancel]
      rw [Int.pow_succ, Int.mul_comm]
    rw [e, num]; omega

theorem pow_mono {b : Int} (hb : 1 ≤ b) {m k : Nat} (h : m ≤ k) : b ^ m ≤ b ^ k := by
  induction h with
  | refl => exact Int.le_refl _
  | @step k _ ih =>
    rw [Int.pow_succ]
    have h0 : 0 ≤ b ^ k := Int.le_trans (Int.le_of_lt (Int.pow_pos (by omega))) (Int.le_refl _)
    have := Int.mul_le_mul_of_nonneg_left hb h0
    omega
theorem dig_len {b n : Int} (hb : 2 ≤ b) (hn : 0 ≤ n) {k : Nat} (h : n < b ^ k) : (dig b n).length ≤ k := by
  have hd := dig_ok hb hn
  by_cases he : dig b n = []
  · rw [he]; simp
  · have h1 := num_ge hb hd.1 hd.2.1 he
    rw [hd.2.2] at h1
    by_cases hk : k < (dig b n).length
    · have := pow_mono (b := b) (by omega) (show k ≤ (dig b n).length - 1 by omega)
      omega
    · omega
theorem Row.dig {b n : Int} (lo : 2 ≤ b) (hi : b ≤ 1000000) (hn : 0 ≤ n) (h : n < b ^ 4000) : Row b (dig b n) :=
  ⟨lo, hi, (dig_ok lo hn).1, (dig_ok lo hn).2.1, dig_len lo hn h⟩
end Mine
set_option Elab.async false
namespace Mine
open PySem

theorem spl_ne (l : List Nat) : spl l ≠ [] := by
  cases l with
  | nil => simp [spl]
  | cons c l =>
    unfold spl
    split
    · simp
    · split <;> simp
theorem spl_free : ∀ (w : List Nat), 46 ∉ w → spl w = [w]
  | [], _ => rfl
  | c :: w, h => by
    have h1 : c ≠ 46 := fun q => h (by rw [q]; exact .head _)
    have ih := spl_free w fun q => h (.tail _ q)
    unfold spl
    rw [if_neg h1, ih]
theorem spl_word : ∀ (w l : List Nat), 46 ∉ w → spl (w ++ 46 :: l) = w :: spl l
  | [], l, _ => by simp [spl]
  | c :: w, l, h => by
    have h1 : c ≠ 46 := fun q => h (by rw [q]; exact .head _)
    have ih := spl_word w l fun q => h (.tail _ q)
    rw [List.cons_append, spl, if_neg h1, ih]
theorem spl_jn : ∀ (ws : List (List Nat)), ws ≠ [] → (∀ w ∈ ws, 46 ∉ w) → spl (jn ws) = ws
  | [], h, _ => absurd rfl h
  | [w], _, h => spl_free w (h w (.head _))
  | w :: v :: r, _, h => by
    rw [jn, spl_word w _ (h w (.head _)), spl_jn (v :: r) (by simp) fun x hx => h x (.tail _ hx)]
theorem spl_of {ws : List (List Nat)} {l : List Nat} (hne : ws ≠ []) (hf : ∀ w ∈ ws, 46 ∉ w) (h : jn ws = l) : spl l = ws := by rw [← h]; exact spl_jn ws hne hf
theorem spl_mem : ∀ (l w : List Nat), w ∈ spl l → 46 ∉ w ∧ ∀ c ∈ w, c ∈ l
  | [], w, h => by simp [spl] at h; subst h; simp
  | c :: l, w, h => by
    have ih := spl_mem l
    unfold spl at h
    split at h
    · rcases List.mem_cons.mp h with rfl | h
      · simp
      · exact ⟨(ih w h).1, fun d hd => .tail _ ((ih w h).2 d hd)⟩
    · rename_i h1
      split at h
      · rename_i v r hs
        rcases List.mem_cons.mp h with rfl | h
        · have := ih v (by rw [hs]; exact .head _)
          refine ⟨fun q => ?_, fun d hd => ?_⟩
          · rcases List.mem_cons.mp q with q | q
            · exact h1 q.symm
            · exact this.1 q
          · rcases List.mem_cons.mp hd with rfl | hd
            · exact .head _
            · exact .tail _ (this.2 d hd)
        · have := ih w (by rw [hs]; exact .tail _ h)
          exact ⟨this.1, fun d hd => .tail _ (this.2 d hd)⟩
      · rename_i hs; exact absurd hs (spl_ne l)
theorem spl_len : ∀ (l : List Nat), (spl l).length ≤ l.length + 1 ∧ ∀ w ∈ spl l, w.length ≤ l.length
  | [] => by simp [spl]
  | c :: l => by
    obtain ⟨h1, h2⟩ := spl_len l
    unfold spl
    split
    · refine ⟨by simp; omega, fun w hw => ?_⟩
      rcases List.mem_cons.mp hw with rfl | hw
      · simp
      · have := h2 w hw; simp; omega
    · split
      · rename_i v r hs
        rw [hs] at h1 h2
        refine ⟨by simp at h1 ⊢; omega, fun w hw => ?_⟩
        rcases List.mem_cons.mp hw with rfl | hw
        · have := h2 v (.head _); simp; omega
        · have := h2 w (.tail _ hw); simp; omega
      · simp

theorem txt_small {m : Nat} (h : m < 10) : (Nat.toDigits 10 m).map Char.toNat = [48 + m] := by
  rw [Nat.toDigits_of_lt_base h]
  have : ∀ m : Nat, m < 10 → (Nat.digitChar m).toNat = 48 + m := by decide
  simp [this m h]
theorem txt_big {m : Nat} (h : ¬ m < 10) : (Nat.toDigits 10 m).map Char.toNat = (Nat.toDigits 10 (m / 10)).map Char.toNat ++ [48 + m % 10] := by
  have hm : m % 10 < 10 := Nat.mod_lt m (by decide)
  have t : Nat.toDigits 10 (m / 10) ++ Nat.toDigits 10 (m % 10) = Nat.toDigits 10 (10 * (m / 10) + m % 10) := Nat.toDigits_append_toDigits (by decide) (by omega) hm
  rw [Nat.div_add_mod] at t
  rw [← t, List.map_append, txt_small hm]
theorem dval_snoc (l : List Nat) (c : Nat) : dval (l ++ [c]) = dval l * 10 + (c - 48) := by simp [dval]
theorem digits_facts (m : Nat) : dval ((Nat.toDigits 10 m).map Char.toNat) = m ∧ (∀ c ∈ (Nat.toDigits 10 m).map Char.toNat, isDig c = true) ∧ (Nat.toDigits 10 m).map Char.toNat ≠ [] ∧ (m ≠ 0 → ((Nat.toDigits 10 m).map Char.toNat).head? ≠ some 48) := by
  induction m using Nat.strongRecOn with
  | _ m ih =>
    by_cases h : m < 10
    · rw [txt_small h]
      refine ⟨by simp [dval], fun c hc => ?_, by simp, fun h0 => by simp; omega⟩
      rw [List.mem_singleton.mp hc]; simp [isDig]; omega
    · obtain ⟨i1, i2, i3, i4⟩ := ih (m / 10) (by omega)
      rw [txt_big h]
      refine ⟨by rw [dval_snoc, i1]; omega, fun c hc => ?_, by simp, fun _ => ?_⟩
      · rcases List.mem_append.mp hc with hc | hc
        · exact i2 c hc
        · rw [List.mem_singleton.mp hc]; simp [isDig]; omega
      · have := i4 (by omega)
        cases hq : (Nat.toDigits 10 (m / 10)).map Char.toNat with
        | nil => exact absurd hq i3
        | cons a l => rw [hq] at this; simpa using this
theorem digits_len : ∀ (k m : Nat), m < 10 ^ (k + 1) → ((Nat.toDigits 10 m).map Char.toNat).length ≤ k + 1
  | 0, m, h => by rw [txt_small (by simpa using h)]; simp
  | k + 1, m, h => by
    by_cases h' : m < 10
    · rw [txt_small h']; simp
    · rw [txt_big h']
      have := digits_len k (m / 10) (by rw [Nat.pow_succ] at h; omega)
      simp only [List.length_append, List.length_singleton]; omega
theorem dval_cons (c : Nat) (l : List Nat) : dval (c :: l) = (c - 48) * 10 ^ l.length + dval l := by
  have key : ∀ (l : List Nat) (a : Nat), l.foldl (fun a c => a * 10 + (c - 48)) a = a * 10 ^ l.length + l.foldl (fun a c => a * 10 + (c - 48)) 0 := by
    intro l
    induction l with
    | nil => intro a; simp
    | cons d l ih =>
      intro a
      simp only [List.foldl_cons, List.length_cons]
      rw [ih, ih (0 * 10 + (d - 48)), Nat.pow_succ, Nat.add_mul, Nat.zero_mul, Nat.zero_add]
      have : a * 10 * 10 ^ l.length = a * (10 ^ l.length * 10) := by rw [Nat.mul_assoc, Nat.mul_comm 10]
      omega
  show List.foldl _ (0 * 10 + (c - 48)) l = _
  rw [Nat.zero_mul, Nat.zero_add, key]; rfl

noncomputable def gw (b : Int) (w : List Nat) : Bool := !w.isEmpty && !(decide (w.head? = some 48) && decide (w ≠ [48])) && w.all isDig && decide ((dval w : Int) < b)
theorem gw_len {b : Int} (hb : b ≤ 1000000) {w : List Nat} (h : gw b w = true) : w.length ≤ 6 := by
  simp only [gw, Bool.and_eq_true, decide_eq_true_eq, Bool.not_eq_true', Bool.and_eq_false_iff, decide_eq_false_iff_not, List.all_eq_true] at h
  obtain ⟨⟨⟨h1, h2⟩, h3⟩, h4⟩ := h
  cases w with
  | nil => simp
  | cons c l =>
    have hc := h3 c (.head _)
    simp only [isDig, Bool.and_eq_true, decide_eq_true_eq] at hc
    by_cases h0 : c = 48
    · subst h0
      rcases h2 with h2 | h2
      · simp at h2
      · have : l = [] := by simpa using h2
        subst this; simp
    · rw [dval_cons] at h4
      have h5 : 1 * 10 ^ l.length ≤ (c - 48) * 10 ^ l.length := Nat.mul_le_mul_right _ (by omega)
      by_cases hl : l.length ≤ 5
      · simp; omega
      · have h6 : 10 ^ 6 ≤ 10 ^ l.length := Nat.pow_le_pow_right (by decide) (by omega)
        have h7 : (10 : Nat) ^ 6 = 1000000 := by decide
        omega
theorem gw_of {b : Int} {w : List Nat} (h1 : w ≠ []) (h2 : w.head? ≠ some 48 ∨ w = [48]) (h3 : ∀ c ∈ w, isDig c = true) (h4 : (dval w : Int) < b) : gw b w = true := by
  simp only [gw, Bool.and_eq_true, decide_eq_true_eq, Bool.not_eq_true', Bool.and_eq_false_iff, decide_eq_false_iff_not, List.all_eq_true]
  refine ⟨⟨⟨by cases w with
    | nil => exact absurd rfl h1
    | cons a l => rfl, ?_⟩, h3⟩, h4⟩
  rcases h2 with h2 | h2
  · exact .inl h2
  · exact .inr fun q => q h2
theorem gw_txt {b n : Int} (h0 : 0 ≤ n) (h1 : n < b) : gw b (txt n) = true := by
  obtain ⟨i1, i2, i3, i4⟩ := digits_facts n.toNat
  refine gw_of i3 ?_ i2 ?_
  · by_cases hn : n.toNat = 0
    · right; unfold txt; rw [hn]; decide
    · left; exact i4 hn
  · unfold txt; rw [i1]; omega
theorem dval_txt {n : Int} (h0 : 0 ≤ n) : ((dval (txt n) : Nat) : Int) = n := by
  have := (digits_facts n.toNat).1
  unfold txt; rw [this]; omega
theorem txt_free (n : Int) : 46 ∉ txt n := fun h => by
  have := (digits_facts n.toNat).2.1 46 h
  simp [isDig] at this
theorem txt_len {n : Int} (h1 : n < 1000000) : (txt n).length ≤ 6 := digits_len 5 n.toNat (by have : (10 : Nat) ^ 6 = 1000000 := by decide
                                                                                              omega)
theorem txt_signs (n : Int) : ∀ c ∈ txt n, c < 128 := fun c h => by
  have := (digits_facts n.toNat).2.1 c h
  simp [isDig] at this; omega

noncomputable def wr (xs : List Int) : List Nat := if xs = [] then [48] else jn (xs.reverse.map txt)
noncomputable def rdl (b : Int) (l : List Nat) : Option (List Int) :=
  if l = [48] then some [] else if (spl l).all (gw b) && decide (dval ((spl l).headD []) ≠ 0) then some (((spl l).map fun w => ((dval w : Nat) : Int)).reverse) else none
theorem jn_len : ∀ (ws : List (List Nat)) (k : Nat), (∀ w ∈ ws, w.length ≤ k) → (jn ws).length ≤ ws.length * (k + 1)
  | [], _, _ => by simp [jn]
  | [w], k, h => by have := h w (.head _); simp [jn]; omega
  | w :: v :: r, k, h => by
    have h1 := h w (.head _)
    have h2 := jn_len (v :: r) k fun x hx => h x (.tail _ hx)
    rw [jn, List.length_append, List.length_cons, List.length_cons, Nat.add_mul]
    omega
theorem jn_signs : ∀ (ws : List (List Nat)), (∀ w ∈ ws, ∀ c ∈ w, c < 128) → ∀ c ∈ jn ws, c < 128
  | [], _, c, h => by simp [jn] at h
  | [w], h, c, hc => h w (.head _) c hc
  | w :: v :: r, h, c, hc => by
    rw [jn] at hc
    rcases List.mem_append.mp hc with hc | hc
    · exact h w (.head _) c hc
    · rcases List.mem_cons.mp hc with rfl | hc
      · decide
      · exact jn_signs (v :: r) (fun x hx => h x (.tail _ hx)) c hc
theorem wr_signs (xs : List Int) : ∀ c ∈ wr xs, c < 128 := by
  intro c hc
  unfold wr at hc
  split at hc
  · rw [List.mem_singleton.mp hc]; decide
  · refine jn_signs _ (fun w hw => ?_) c hc
    obtain ⟨n, _, rfl⟩ := List.mem_map.mp hw
    exact txt_signs n
theorem wr_len {b : Int} {xs : List Int} (h : Row b xs) : (wr xs).length ≤ 7 * xs.length + 1 := by
  unfold wr
  split
  · simp
  · have := jn_len (xs.reverse.map txt) 6 fun w hw => by
      obtain ⟨n, hn, rfl⟩ := List.mem_map.mp hw
      have := h.figs n (by simpa using hn)
      have hi := h.hi
      unfold Fig at this
      exact txt_len (by omega)
    simp only [List.length_map, List.length_reverse] at this; omega
theorem wr_more {xs : List Int} (h : xs ≠ []) : wr (xs ++ [1]) = 49 :: 46 :: wr xs := by
  unfold wr
  rw [if_neg (by simp), if_neg h]
  simp only [List.reverse_append, List.reverse_cons, List.reverse_nil, List.nil_append, List.singleton_append, List.map_cons]
  cases hq : xs.reverse.map txt with
  | nil => simp at hq; exact absurd hq h
  | cons a l =>
    rw [jn]
    have : txt 1 = [49] := by decide
    rw [this]; rfl
theorem last_rev {xs : List Int} (h : xs ≠ []) : ∃ x r, xs.reverse = x :: r ∧ xs.getLast? = some x := by
  cases hq : xs.reverse with
  | nil => simp at hq; exact absurd hq h
  | cons x r => exact ⟨x, r, rfl, by rw [← List.head?_reverse, hq]; rfl⟩
theorem head_jn (w : List Nat) (r : List (List Nat)) (h : w ≠ []) : (jn (w :: r)).head? = w.head? := by
  cases r with
  | nil => rfl
  | cons v r => rw [jn]; cases w with
    | nil => exact absurd rfl h
    | cons a l => rfl
theorem rdl_wr {b : Int} {xs : List Int} (h : Row b xs) : rdl b (wr xs) = some xs := by
  by_cases hx : xs = []
  · subst hx; rfl
  · obtain ⟨x, r, hr, hl⟩ := last_rev hx
    have hf : ∀ n ∈ xs, 0 ≤ n ∧ n < b := fun n hn => h.figs n hn
    have hx0 : x ≠ 0 := fun q => h.trim (by rw [hl, q])
    have fx := hf x (by have : x ∈ xs.reverse := by rw [hr]; exact .head _
                        simpa using this)
    have fr : ∀ n ∈ xs.reverse, 0 ≤ n ∧ n < b := fun n hn => hf n (by simpa using hn)
    have hw : wr xs = jn (xs.reverse.map txt) := by unfold wr; rw [if_neg hx]
    have hs : spl (wr xs) = xs.reverse.map txt := by
      rw [hw]
      refine spl_jn _ (by rw [hr]; simp) fun w hw => ?_
      obtain ⟨n, _, rfl⟩ := List.mem_map.mp hw
      exact txt_free n
    obtain ⟨i1, i2, i3, i4⟩ := digits_facts x.toNat
    have hne : wr xs ≠ [48] := fun q => by
      have : (wr xs).head? = (txt x).head? := by rw [hw, hr, List.map_cons]; exact head_jn _ _ i3
      rw [q] at this
      exact i4 (by omega) this.symm
    unfold rdl
    rw [if_neg hne, hs, if_pos]
    · congr 1
      rw [List.map_map]
      have : xs.reverse.map ((fun w => ((dval w : Nat) : Int)) ∘ txt) = xs.reverse.map id := List.map_congr_left fun n hn => dval_txt (fr n hn).1
      rw [this]; simp
    · simp only [Bool.and_eq_true, List.all_eq_true, decide_eq_true_eq]
      refine ⟨fun w hw => ?_, ?_⟩
      · obtain ⟨n, hn, rfl⟩ := List.mem_map.mp hw
        exact gw_txt (fr n hn).1 (fr n hn).2
      · rw [hr, List.map_cons, List.headD_cons]
        have := dval_txt fx.1
        omega
end Mine
namespace Mine
open PySem
noncomputable def b_whole : Ss := Ss.cons (S.ret (X.and (Xs.cons (X.isinst (X.var 0) Ty.int) (Xs.cons (X.not (X.isinst (X.var 0) Ty.bool)) Xs.nil)))) Ss.nil
noncomputable def b_is_base : Ss := Ss.cons (S.ret (X.and (Xs.cons (X.call 0 (Xs.cons (X.var 0) Xs.nil)) (Xs.cons (X.cmp2 Cm.le Cm.le (X.glob 0) (X.var 0) (X.glob 1)) Xs.nil)))) Ss.nil
noncomputable def b_need_base : Ss := Ss.cons (S.ite (X.not (X.call 1 (Xs.cons (X.var 0) Xs.nil))) (Ss.cons S.never Ss.nil) Ss.nil) Ss.nil
noncomputable def b_is_row : Ss := Ss.cons (S.expr (X.call 2 (Xs.cons (X.var 0) Xs.nil))) (Ss.cons (S.ite (X.not (X.isinst (X.var 1) Ty.list)) (Ss.cons (S.ret (X.bool false)) Ss.nil) Ss.nil) (Ss.cons (S.loop 2 (It.items (X.var 1)) (Ss.cons (S.ite (X.or (Xs.cons (X.not (X.call 0 (Xs.cons (X.var 2) Xs.nil))) (Xs.cons (X.not (X.cmp2 Cm.le Cm.lt (X.int 0) (X.var 2) (X.var 0))) Xs.nil))) (Ss.cons (S.ret (X.bool false)) Ss.nil) Ss.nil) Ss.nil)) (Ss.cons (S.ret (X.or (Xs.cons (X.cmp Cm.eq (X.len (X.var 1)) (X.int 0)) (Xs.cons (X.cmp Cm.ne (X.idx (X.var 1) (X.neg (X.int 1))) (X.int 0)) Xs.nil)))) Ss.nil)))
noncomputable def b_need_row : Ss := Ss.cons (S.ite (X.not (X.call 4 (Xs.cons (X.var 0) (Xs.cons (X.var 1) Xs.nil)))) (Ss.cons S.never Ss.nil) Ss.nil) Ss.nil
noncomputable def b_written : Ss := Ss.cons (S.expr (X.call 5 (Xs.cons (X.var 0) (Xs.cons (X.var 1) Xs.nil)))) (Ss.cons (S.ite (X.cmp Cm.eq (X.len (X.var 1)) (X.int 0)) (Ss.cons (S.ret (X.str { cps := #[48] })) Ss.nil) Ss.nil) (Ss.cons (S.ret (X.joinS (X.var 1))) Ss.nil))
noncomputable def b_figure_of : Ss := Ss.cons (S.ite (X.or (Xs.cons (X.cmp Cm.eq (X.len (X.var 1)) (X.int 0)) (Xs.cons (X.cmp Cm.gt (X.len (X.var 1)) (X.glob 3)) (Xs.cons (X.and (Xs.cons (X.cmp Cm.gt (X.len (X.var 1)) (X.int 1)) (Xs.cons (X.cmp Cm.eq (X.idx (X.var 1) (X.int 0)) (X.str { cps := #[48] })) Xs.nil))) Xs.nil)))) (Ss.cons S.never Ss.nil) Ss.nil) (Ss.cons (S.loop 2 (It.items (X.var 1)) (Ss.cons (S.ite (X.cmp Cm.notin (X.var 2) (X.str { cps := #[48, 49, 50, 51, 52, 53, 54, 55, 56, 57] })) (Ss.cons S.never Ss.nil) Ss.nil) Ss.nil)) (Ss.cons (S.assign 3 (X.intOf (X.var 1))) (Ss.cons (S.ite (X.cmp Cm.ge (X.var 3) (X.var 0)) (Ss.cons S.never Ss.nil) Ss.nil) (Ss.cons (S.ret (X.var 3)) Ss.nil))))
noncomputable def b_read : Ss := Ss.cons (S.expr (X.call 2 (Xs.cons (X.var 0) Xs.nil))) (Ss.cons (S.ite (X.not (X.isinst (X.var 1) Ty.str)) (Ss.cons S.never Ss.nil) Ss.nil) (Ss.cons (S.ite (X.cmp Cm.eq (X.var 1) (X.str { cps := #[48] })) (Ss.cons (S.ret (X.list Xs.nil)) Ss.nil) Ss.nil) (Ss.cons (S.compCall 2 35 0 (X.split (X.var 1))) (Ss.cons (S.ite (X.cmp Cm.eq (X.idx (X.var 2) (X.int 0)) (X.int 0)) (Ss.cons S.never Ss.nil) Ss.nil) (Ss.cons (S.reverse 2) (Ss.cons (S.ret (X.var 2)) Ss.nil))))))
noncomputable def b_law_draw : Ss := Ss.cons (S.ret (X.ite (X.cmp Cm.gt (X.len (X.var 0)) (X.var 1)) (X.idx (X.var 0) (X.var 1)) (X.int 0))) Ss.nil
noncomputable def b_law_base_by : Ss := Ss.cons (S.ite (X.cmp Cm.eq (X.bin Op.mod (X.var 0) (X.int 4)) (X.int 0)) (Ss.cons (S.ret (X.bin Op.add (X.int 2) (X.bin Op.mod (X.bin Op.fdiv (X.var 0) (X.int 4)) (X.int 15)))) Ss.nil) Ss.nil) (Ss.cons (S.ite (X.cmp Cm.eq (X.bin Op.mod (X.var 0) (X.int 4)) (X.int 1)) (Ss.cons (S.ret (X.idx (X.list (Xs.cons (X.int 2) (Xs.cons (X.int 3) (Xs.cons (X.int 10) (Xs.cons (X.int 256) (Xs.cons (X.int 999999) (Xs.cons (X.int 1000000) Xs.nil))))))) (X.bin Op.mod (X.bin Op.fdiv (X.var 0) (X.int 4)) (X.int 6)))) Ss.nil) Ss.nil) (Ss.cons (S.ret (X.bin Op.add (X.int 2) (X.bin Op.mod (X.bin Op.fdiv (X.var 0) (X.int 4)) (X.int 999999)))) Ss.nil))
noncomputable def b_law_row_by : Ss := Ss.cons (S.assign 4 (X.bin Op.mod (X.call 50 (Xs.cons (X.var 0) (Xs.cons (X.var 1) Xs.nil))) (X.int 9))) (Ss.cons (S.ite (X.cmp Cm.eq (X.bin Op.mod (X.bin Op.fdiv (X.call 50 (Xs.cons (X.var 0) (Xs.cons (X.var 1) Xs.nil))) (X.int 9)) (X.int 4)) (X.int 1)) (Ss.cons (S.assign 4 (X.bin Op.mod (X.bin Op.fdiv (X.call 50 (Xs.cons (X.var 0) (Xs.cons (X.var 1) Xs.nil))) (X.int 36)) (X.var 3))) Ss.nil) Ss.nil) (Ss.cons (S.assign 5 (X.bin Op.mod (X.call 50 (Xs.cons (X.var 0) (Xs.cons (X.bin Op.add (X.var 1) (X.int 1)) Xs.nil))) (X.int 5))) (Ss.cons (S.assign 6 (X.bin Op.fdiv (X.call 50 (Xs.cons (X.var 0) (Xs.cons (X.bin Op.add (X.var 1) (X.int 1)) Xs.nil))) (X.int 5))) (Ss.cons (S.assign 7 (X.list Xs.nil)) (Ss.cons (S.loop 8 (It.range (X.var 4)) (Ss.cons (S.assign 9 (X.bin Op.mod (X.bin Op.add (X.var 6) (X.bin Op.mul (X.bin Op.mul (X.var 8) (X.var 8)) (X.int 48271))) (X.var 2))) (Ss.cons (S.assign 6 (X.bin Op.fdiv (X.var 6) (X.var 2))) (Ss.cons (S.ite (X.cmp Cm.eq (X.var 5) (X.int 2)) (Ss.cons (S.assign 9 (X.bin Op.sub (X.var 2) (X.int 1))) Ss.nil) Ss.nil) (Ss.cons (S.ite (X.cmp Cm.eq (X.var 5) (X.int 3)) (Ss.cons (S.assign 9 (X.intOf (X.cmp Cm.eq (X.var 8) (X.bin Op.sub (X.var 4) (X.int 1))))) Ss.nil) Ss.nil) (Ss.cons (S.ite (X.and (Xs.cons (X.cmp Cm.eq (X.var 5) (X.int 4)) (Xs.cons (X.cmp Cm.eq (X.bin Op.mod (X.var 8) (X.int 2)) (X.int 0)) Xs.nil))) (Ss.cons (S.assign 9 (X.int 0)) Ss.nil) Ss.nil) (Ss.cons (S.append 7 (X.var 9)) Ss.nil))))))) (Ss.cons (S.whil (X.and (Xs.cons (X.cmp Cm.ne (X.var 7) (X.list Xs.nil)) (Xs.cons (X.cmp Cm.eq (X.idx (X.var 7) (X.neg (X.int 1))) (X.int 0)) Xs.nil))) (Ss.cons (S.assign 7 (X.upto (X.var 7) (X.neg (X.int 1)))) Ss.nil)) (Ss.cons (S.ret (X.var 7)) Ss.nil)))))))
noncomputable def b_law_is_number : Ss := Ss.cons (S.ite (X.or (Xs.cons (X.cmp Cm.is (X.var 0) (X.bool true)) (Xs.cons (X.cmp Cm.is (X.var 0) (X.bool false)) Xs.nil))) (Ss.cons (S.ret (X.bool false)) Ss.nil) Ss.nil) (Ss.cons (S.ret (X.isinst (X.var 0) Ty.int)) Ss.nil)
noncomputable def b_law_same : Ss := Ss.cons (S.ite (X.or (Xs.cons (X.not (X.isinst (X.var 0) Ty.list)) (Xs.cons (X.cmp Cm.ne (X.len (X.var 0)) (X.len (X.var 1))) Xs.nil))) (Ss.cons (S.ret (X.bool false)) Ss.nil) Ss.nil) (Ss.cons (S.loop 2 (It.range (X.len (X.var 1))) (Ss.cons (S.ite (X.or (Xs.cons (X.not (X.call 55 (Xs.cons (X.idx (X.var 0) (X.var 2)) Xs.nil))) (Xs.cons (X.cmp Cm.ne (X.idx (X.var 0) (X.var 2)) (X.idx (X.var 1) (X.var 2))) Xs.nil))) (Ss.cons (S.ret (X.bool false)) Ss.nil) Ss.nil) Ss.nil)) (Ss.cons (S.ret (X.bool true)) Ss.nil))
noncomputable def b_law_word_by : Ss := Ss.cons (S.ite (X.cmp Cm.eq (X.bin Op.mod (X.var 1) (X.int 3)) (X.int 0)) (Ss.cons (S.ret (X.strOf (X.bin Op.mod (X.bin Op.fdiv (X.var 1) (X.int 3)) (X.bin Op.add (X.var 0) (X.int 2))))) Ss.nil) Ss.nil) (Ss.cons (S.ite (X.cmp Cm.eq (X.bin Op.mod (X.var 1) (X.int 3)) (X.int 1)) (Ss.cons (S.ret (X.strOf (X.bin Op.mod (X.bin Op.fdiv (X.var 1) (X.int 3)) (X.var 0)))) Ss.nil) Ss.nil) (Ss.cons (S.assign 2 (X.list (Xs.cons (X.str { cps := #[] }) (Xs.cons (X.str { cps := #[48, 48] }) (Xs.cons (X.str { cps := #[48, 49] }) (Xs.cons (X.str { cps := #[45, 49] }) (Xs.cons (X.str { cps := #[43, 49] }) (Xs.cons (X.str { cps := #[32, 49] }) (Xs.cons (X.str { cps := #[49, 32] }) (Xs.cons (X.str { cps := #[49, 95, 48] }) (Xs.cons (X.str { cps := #[97] }) (Xs.cons (X.str { cps := #[48, 120, 49] }) (Xs.cons (X.str { cps := #[49, 44, 48] }) (Xs.cons (X.str { cps := #[48] }) (Xs.cons (X.bin Op.mul (X.str { cps := #[49] }) (X.int 60)) (Xs.cons (X.str { cps := #[55, 10] }) Xs.nil)))))))))))))))) (Ss.cons (S.ret (X.idx (X.var 2) (X.bin Op.mod (X.bin Op.fdiv (X.var 1) (X.int 3)) (X.int 14)))) Ss.nil)))
noncomputable def b_law_line_by : Ss := Ss.cons (S.assign 2 (X.str { cps := #[] })) (Ss.cons (S.loop 3 (It.range (X.bin Op.mod (X.call 50 (Xs.cons (X.var 0) (Xs.cons (X.int 3) Xs.nil))) (X.int 5))) (Ss.cons (S.assign 4 (X.call 50 (Xs.cons (X.var 0) (Xs.cons (X.bin Op.add (X.int 4) (X.var 3)) Xs.nil)))) (Ss.cons (S.ite (X.cmp Cm.gt (X.var 3) (X.int 0)) (Ss.cons (S.assign 2 (X.bin Op.add (X.var 2) (X.idx (X.list (Xs.cons (X.str { cps := #[46] }) (Xs.cons (X.str { cps := #[46] }) (Xs.cons (X.str { cps := #[46] }) (Xs.cons (X.str { cps := #[46] }) (Xs.cons (X.str { cps := #[46] }) (Xs.cons (X.str { cps := #[46] }) (Xs.cons (X.str { cps := #[46] }) (Xs.cons (X.str { cps := #[46] }) (Xs.cons (X.str { cps := #[44] }) (Xs.cons (X.str { cps := #[46, 46] }) (Xs.cons (X.str { cps := #[46] }) (Xs.cons (X.str { cps := #[32] }) Xs.nil))))))))))))) (X.bin Op.mod (X.var 4) (X.int 12))))) Ss.nil) Ss.nil) (Ss.cons (S.assign 2 (X.bin Op.add (X.var 2) (X.call 66 (Xs.cons (X.var 1) (Xs.cons (X.bin Op.fdiv (X.var 4) (X.int 12)) Xs.nil))))) Ss.nil)))) (Ss.cons (S.ret (X.var 2)) Ss.nil))
noncomputable def b_law_sign_by : Ss := Ss.cons (S.assign 1 (X.str { cps := #[48, 49, 50, 51, 52, 53, 54, 55, 56, 57, 46, 44, 59, 58, 33, 63, 47, 124, 43, 45, 42, 61, 95, 32, 10, 9, 65, 66, 67, 68, 69, 70, 71, 72, 73, 74, 75, 76, 77, 78, 79, 80, 81, 82, 83, 84, 85, 86, 87, 88, 89, 90] })) (Ss.cons (S.assign 1 (X.bin Op.add (X.var 1) (X.str { cps := #[97, 98, 99, 100, 101, 102, 103, 104, 105, 106, 107, 108, 109, 110, 111, 112, 113, 114, 115, 116, 117, 118, 119, 120, 121, 122, 34, 35, 36, 38, 39, 40, 41, 60, 62, 64, 91, 92, 93, 94, 96, 123, 125, 126] }))) (Ss.cons (S.ret (X.idx (X.var 1) (X.bin Op.mod (X.var 0) (X.len (X.var 1))))) Ss.nil))
noncomputable def b_law_due_of : Ss := Ss.cons (S.ite (X.cmp Cm.eq (X.var 1) (X.str { cps := #[48] })) (Ss.cons (S.ret (X.list Xs.nil)) Ss.nil) Ss.nil) (Ss.cons (S.assign 2 (X.list Xs.nil)) (Ss.cons (S.loop 3 (It.items (X.split (X.var 1))) (Ss.cons (S.ite (X.or (Xs.cons (X.cmp Cm.eq (X.var 3) (X.str { cps := #[] })) (Xs.cons (X.and (Xs.cons (X.cmp Cm.eq (X.idx (X.var 3) (X.int 0)) (X.str { cps := #[48] })) (Xs.cons (X.cmp Cm.ne (X.var 3) (X.str { cps := #[48] })) Xs.nil))) Xs.nil))) (Ss.cons (S.ret X.none) Ss.nil) Ss.nil) (Ss.cons (S.loop 4 (It.items (X.var 3)) (Ss.cons (S.ite (X.cmp Cm.notin (X.var 4) (X.str { cps := #[48, 49, 50, 51, 52, 53, 54, 55, 56, 57] })) (Ss.cons (S.ret X.none) Ss.nil) Ss.nil) Ss.nil)) (Ss.cons (S.ite (X.cmp Cm.ge (X.intOf (X.var 3)) (X.var 0)) (Ss.cons (S.ret X.none) Ss.nil) Ss.nil) (Ss.cons (S.assign 2 (X.bin Op.add (X.list (Xs.cons (X.intOf (X.var 3)) Xs.nil)) (X.var 2))) Ss.nil))))) (Ss.cons (S.ret (X.ite (X.cmp Cm.ne (X.idx (X.var 2) (X.neg (X.int 1))) (X.int 0)) (X.var 2) X.none)) Ss.nil)))
noncomputable def b_law_refused : Ss := Ss.cons (S.tryN 36 (Xs.cons (X.var 0) (Xs.cons (X.var 1) Xs.nil)) 2003 2) (Ss.cons (S.ret (X.bool false)) Ss.nil)
noncomputable def b_law_13 : Ss := Ss.cons (S.assign 1 (X.call 51 (Xs.cons (X.call 50 (Xs.cons (X.var 0) (Xs.cons (X.int 0) Xs.nil))) Xs.nil))) (Ss.cons (S.assign 2 (X.call 52 (Xs.cons (X.var 0) (Xs.cons (X.int 1) (Xs.cons (X.var 1) (Xs.cons (X.int 70) Xs.nil)))))) (Ss.cons (S.assign 3 (X.str { cps := #[48] })) (Ss.cons (S.ite (X.cmp Cm.ne (X.var 2) (X.list Xs.nil)) (Ss.cons (S.assign 3 (X.joinS (X.var 2))) Ss.nil) Ss.nil) (Ss.cons (S.assign 4 (X.listOf (X.var 2))) (Ss.cons (S.assign 5 (X.call 34 (Xs.cons (X.var 1) (Xs.cons (X.var 4) Xs.nil)))) (Ss.cons (S.ite (X.or (Xs.cons (X.not (X.isinst (X.var 5) Ty.str)) (Xs.cons (X.cmp Cm.ne (X.var 5) (X.var 3)) (Xs.cons (X.cmp Cm.ne (X.var 4) (X.var 2)) Xs.nil)))) (Ss.cons (S.ret (X.bool false)) Ss.nil) Ss.nil) (Ss.cons (S.ite (X.cmp Cm.ne (X.call 34 (Xs.cons (X.var 1) (Xs.cons (X.bin Op.add (X.var 2) (X.list (Xs.cons (X.int 1) Xs.nil))) Xs.nil))) (X.bin Op.add (X.bin Op.add (X.bin Op.mul (X.str { cps := #[49, 46] }) (X.intOf (X.cmp Cm.ne (X.var 2) (X.list Xs.nil)))) (X.bin Op.mul (X.str { cps := #[49] }) (X.intOf (X.cmp Cm.eq (X.var 2) (X.list Xs.nil))))) (X.bin Op.mul (X.var 3) (X.intOf (X.cmp Cm.ne (X.var 2) (X.list Xs.nil)))))) (Ss.cons (S.ret (X.bool false)) Ss.nil) Ss.nil) (Ss.cons (S.ite (X.cmp Cm.ne (X.call 34 (Xs.cons (X.var 1) (Xs.cons (X.var 4) Xs.nil))) (X.var 3)) (Ss.cons (S.ret (X.bool false)) Ss.nil) Ss.nil) (Ss.cons (S.assign 6 (X.call 36 (Xs.cons (X.var 1) (Xs.cons (X.var 3) Xs.nil)))) (Ss.cons (S.ite (X.not (X.call 56 (Xs.cons (X.var 6) (Xs.cons (X.var 2) Xs.nil)))) (Ss.cons (S.ret (X.bool false)) Ss.nil) Ss.nil) (Ss.cons (S.append 6 (X.int 1)) (Ss.cons (S.ite (X.not (X.call 56 (Xs.cons (X.call 36 (Xs.cons (X.var 1) (Xs.cons (X.var 3) Xs.nil))) (Xs.cons (X.var 2) Xs.nil)))) (Ss.cons (S.ret (X.bool false)) Ss.nil) Ss.nil) (Ss.cons (S.ite (X.cmp Cm.eq (X.bin Op.mod (X.call 50 (Xs.cons (X.var 0) (Xs.cons (X.int 8) Xs.nil))) (X.int 16)) (X.int 5)) (Ss.cons (S.ret (X.call 70 (Xs.cons (X.var 1) (Xs.cons (X.idx (X.list (Xs.cons X.none (Xs.cons (X.int 7) (Xs.cons (X.list (Xs.cons (X.str { cps := #[49] }) Xs.nil)) (Xs.cons (X.bool true) (Xs.cons (X.tup (Xs.cons (X.str { cps := #[49] }) (Xs.cons (X.str { cps := #[50] }) Xs.nil))) Xs.nil)))))) (X.bin Op.mod (X.bin Op.fdiv (X.call 50 (Xs.cons (X.var 0) (Xs.cons (X.int 8) Xs.nil))) (X.int 16)) (X.int 5))) Xs.nil)))) Ss.nil) Ss.nil) (Ss.cons (S.assign 7 (X.call 67 (Xs.cons (X.var 0) (Xs.cons (X.var 1) Xs.nil)))) (Ss.cons (S.assign 8 (X.call 50 (Xs.cons (X.var 0) (Xs.cons (X.int 9) Xs.nil)))) (Ss.cons (S.ite (X.cmp Cm.eq (X.bin Op.mod (X.var 8) (X.int 3)) (X.int 1)) (Ss.cons (S.assign 9 (X.bin Op.mod (X.bin Op.fdiv (X.var 8) (X.int 3)) (X.bin Op.add (X.len (X.var 3)) (X.int 1)))) (Ss.cons (S.assign 10 (X.call 68 (Xs.cons (X.bin Op.fdiv (X.bin Op.fdiv (X.var 8) (X.int 3)) (X.bin Op.add (X.len (X.var 3)) (X.int 1))) Xs.nil))) (Ss.cons (S.assign 7 (X.bin Op.add (X.bin Op.add (X.upto (X.var 3) (X.var 9)) (X.var 10)) (X.from (X.var 3) (X.bin Op.add (X.var 9) (X.bin Op.mod (X.call 50 (Xs.cons (X.var 0) (Xs.cons (X.int 10) Xs.nil))) (X.int 2)))))) Ss.nil))) Ss.nil) (Ss.cons (S.assign 11 (X.call 69 (Xs.cons (X.var 1) (Xs.cons (X.var 7) Xs.nil)))) (Ss.cons (S.ite (X.cmp Cm.is (X.var 11) X.none) (Ss.cons (S.ret (X.call 70 (Xs.cons (X.var 1) (Xs.cons (X.var 7) Xs.nil)))) Ss.nil) Ss.nil) (Ss.cons (S.ret (X.call 56 (Xs.cons (X.call 36 (Xs.cons (X.var 1) (Xs.cons (X.var 7) Xs.nil))) (Xs.cons (X.var 11) Xs.nil)))) Ss.nil)))))))))))))))))))
noncomputable def b_figure_of_x : Ss := Ss.cons (S.ite (X.or (Xs.cons (X.cmp Cm.eq (X.len (X.var 1)) (X.int 0)) (Xs.cons (X.cmp Cm.gt (X.len (X.var 1)) (X.glob 3)) (Xs.cons (X.and (Xs.cons (X.cmp Cm.gt (X.len (X.var 1)) (X.int 1)) (Xs.cons (X.cmp Cm.eq (X.idx (X.var 1) (X.int 0)) (X.str { cps := #[48] })) Xs.nil))) Xs.nil)))) (Ss.cons (S.raise 2003) Ss.nil) Ss.nil) (Ss.cons (S.loop 2 (It.items (X.var 1)) (Ss.cons (S.ite (X.cmp Cm.notin (X.var 2) (X.str { cps := #[48, 49, 50, 51, 52, 53, 54, 55, 56, 57] })) (Ss.cons (S.raise 2003) Ss.nil) Ss.nil) Ss.nil)) (Ss.cons (S.assign 3 (X.intOf (X.var 1))) (Ss.cons (S.ite (X.cmp Cm.ge (X.var 3) (X.var 0)) (Ss.cons (S.raise 2003) Ss.nil) Ss.nil) (Ss.cons (S.ret (X.var 3)) Ss.nil))))
noncomputable def b_read_x : Ss := Ss.cons (S.expr (X.call 2 (Xs.cons (X.var 0) Xs.nil))) (Ss.cons (S.ite (X.not (X.isinst (X.var 1) Ty.str)) (Ss.cons (S.raise 2003) Ss.nil) Ss.nil) (Ss.cons (S.ite (X.cmp Cm.eq (X.var 1) (X.str { cps := #[48] })) (Ss.cons (S.ret (X.list Xs.nil)) Ss.nil) Ss.nil) (Ss.cons (S.compCall 2 35 0 (X.split (X.var 1))) (Ss.cons (S.ite (X.cmp Cm.eq (X.idx (X.var 2) (X.int 0)) (X.int 0)) (Ss.cons (S.raise 2003) Ss.nil) Ss.nil) (Ss.cons (S.reverse 2) (Ss.cons (S.ret (X.var 2)) Ss.nil))))))
end Mine
set_option Elab.async false
namespace Mine
open PySem
noncomputable def isW : D → Bool
  | .int _ => true
  | _ => false
noncomputable def isB : D → Bool
  | .int b => decide (2 ≤ b) && decide (b ≤ 1000000)
  | _ => false
noncomputable def isF (b : Int) : D → Bool
  | .int x => decide (0 ≤ x) && decide (x < b)
  | _ => false
noncomputable def isR (b : Int) : D → Bool
  | .list xs => xs.all (isF b) && (match xs.getLast? with | some (.int 0) => false | _ => true)
  | _ => false

noncomputable def sp_whole (ds : List D) (K : D → Bool → Prop) : Prop := ∃ x, ds = [x] ∧ K (.bool (isW x)) true
noncomputable def sp_is_base (ds : List D) (K : D → Bool → Prop) : Prop := ∃ x, ds = [x] ∧ K (.bool (isB x)) true
noncomputable def sp_need_base (ds : List D) (K : D → Bool → Prop) : Prop := ∃ x, ds = [x] ∧ isB x = true ∧ K .none true
noncomputable def sp_is_row (ds : List D) (K : D → Bool → Prop) : Prop := ∃ b x, ds = [.int b, x] ∧ 2 ≤ b ∧ b ≤ 1000000 ∧ K (.bool (isR b x)) true
noncomputable def sp_need_row (ds : List D) (K : D → Bool → Prop) : Prop := ∃ b x, ds = [.int b, x] ∧ 2 ≤ b ∧ b ≤ 1000000 ∧ isR b x = true ∧ K .none true
noncomputable def sp_law_draw (ds : List D) (K : D → Bool → Prop) : Prop := ∃ ns k, ds = [L ns, .int k] ∧ 0 ≤ k ∧ k < 1000 ∧ ns.length ≤ 63 ∧ ∀ c, K (.int c) true
noncomputable def sp_law_base_by (ds : List D) (K : D → Bool → Prop) : Prop := ∃ c, ds = [.int c] ∧ ∀ b, 2 ≤ b → b ≤ 1000000 → K (.int b) true
noncomputable def sp_law_row_by (ds : List D) (K : D → Bool → Prop) : Prop := ∃ ns k b m, ds = [L ns, .int k, .int b, .int m] ∧ ns.length ≤ 63 ∧ 0 ≤ k ∧ k < 900 ∧ 2 ≤ b ∧ b ≤ 1000000 ∧ 1 ≤ m ∧ m ≤ 90 ∧ ∀ xs, Row b xs → xs.length ≤ 90 → K (L xs) true
noncomputable def sp_law_is_number (ds : List D) (K : D → Bool → Prop) : Prop := ∃ x, ds = [x] ∧ K (.bool (isW x)) true
noncomputable def sp_law_same (ds : List D) (K : D → Bool → Prop) : Prop := ∃ xs ys, ds = [L xs, L ys] ∧ ys.length ≤ 5000 ∧ K (.bool (decide (xs = ys))) true
noncomputable def trim (xs : List Int) : List Int := (xs.reverse.dropWhile (fun x => decide (x = 0))).reverse
noncomputable def sz (b x : Int) : Nat := (dig b x).length
noncomputable def Tex (k : Nat) (l : List Nat) : Prop := l.length ≤ k ∧ ∀ c ∈ l, c < 128
noncomputable def sp_written (ds : List D) (K : D → Bool → Prop) : Prop := ∃ b xs, ds = [.int b, L xs] ∧ Row b xs ∧ xs.length ≤ 100 ∧ K (.str (st (wr xs))) true
noncomputable def sp_figure_of (ds : List D) (K : D → Bool → Prop) : Prop := ∃ b w, ds = [.int b, .str (st w)] ∧ 2 ≤ b ∧ b ≤ 1000000 ∧ Tex 640 w ∧ gw b w = true ∧ K (.int (dval w : Nat)) true
noncomputable def sp_figure_of_x (ds : List D) (K : D → Bool → Prop) : Prop := ∃ b w, ds = [.int b, .str (st w)] ∧ 2 ≤ b ∧ b ≤ 1000000 ∧ Tex 640 w ∧ gw b w = false ∧ K (.int 2003) true
noncomputable def sp_read (ds : List D) (K : D → Bool → Prop) : Prop := ∃ b l r, ds = [.int b, .str (st l)] ∧ 2 ≤ b ∧ b ≤ 1000000 ∧ Tex 640 l ∧ rdl b l = some r ∧ K (L r) true
noncomputable def badL (b : Int) (x : D) : Prop := (∃ l, x = .str (st l) ∧ Tex 640 l ∧ rdl b l = none) ∨ isTy .str x = false
noncomputable def sp_read_x (ds : List D) (K : D → Bool → Prop) : Prop := ∃ b x, ds = [.int b, x] ∧ 2 ≤ b ∧ b ≤ 1000000 ∧ badL b x ∧ K (.int 2003) true
noncomputable def sp_law_word_by (ds : List D) (K : D → Bool → Prop) : Prop := ∃ b c, ds = [.int b, .int c] ∧ 2 ≤ b ∧ b ≤ 1000000 ∧ ∀ w, Tex 60 w → K (.str (st w)) true
noncomputable def sp_law_line_by (ds : List D) (K : D → Bool → Prop) : Prop := ∃ ns b, ds = [L ns, .int b] ∧ ns.length ≤ 63 ∧ 2 ≤ b ∧ b ≤ 1000000 ∧ ∀ w, Tex 400 w → K (.str (st w)) true
noncomputable def sp_law_sign_by (ds : List D) (K : D → Bool → Prop) : Prop := ∃ c, ds = [.int c] ∧ ∀ s, s < 128 → K (.str (st [s])) true
noncomputable def sp_law_due_of (ds : List D) (K : D → Bool → Prop) : Prop := ∃ b l, ds = [.int b, .str (st l)] ∧ 2 ≤ b ∧ b ≤ 1000000 ∧ Tex 640 l ∧ K (match rdl b l with | some r => L r | none => .none) true
noncomputable def sp_law_refused (ds : List D) (K : D → Bool → Prop) : Prop := ∃ b x, ds = [.int b, x] ∧ 2 ≤ b ∧ b ≤ 1000000 ∧ badL b x ∧ K (.bool true) true
noncomputable def sp_law (ds : List D) (K : D → Bool → Prop) : Prop := ∃ ns, ds = [L ns] ∧ ns.length ≤ 63 ∧ K (.bool true) true

noncomputable def Φ (n f : Nat) (ds : List D) (K : D → Bool → Prop) : Prop := match f with
  | 0 => 1 ≤ n ∧ sp_whole ds K
  | 1 => 2 ≤ n ∧ sp_is_base ds K
  | 2 => 3 ≤ n ∧ sp_need_base ds K
  | 4 => 4 ≤ n ∧ sp_is_row ds K
  | 5 => 5 ≤ n ∧ sp_need_row ds K
  | 34 => 6 ≤ n ∧ sp_written ds K
  | 35 => 2 ≤ n ∧ sp_figure_of ds K
  | 36 => 4 ≤ n ∧ sp_read ds K
  | 50 => 1 ≤ n ∧ sp_law_draw ds K
  | 51 => 1 ≤ n ∧ sp_law_base_by ds K
  | 52 => 2 ≤ n ∧ sp_law_row_by ds K
  | 55 => 1 ≤ n ∧ sp_law_is_number ds K
  | 56 => 2 ≤ n ∧ sp_law_same ds K
  | 66 => 1 ≤ n ∧ sp_law_word_by ds K
  | 67 => 2 ≤ n ∧ sp_law_line_by ds K
  | 68 => 1 ≤ n ∧ sp_law_sign_by ds K
  | 69 => 1 ≤ n ∧ sp_law_due_of ds K
  | 70 => 6 ≤ n ∧ sp_law_refused ds K
  | 99 => 40 ≤ n ∧ sp_law ds K
  | 535 => 2 ≤ n ∧ sp_figure_of_x ds K
  | 536 => 4 ≤ n ∧ sp_read_x ds K
  | 1000 => 1 ≤ n ∧ ds = [] ∧ K (.int 2) true
  | 1001 => 1 ≤ n ∧ ds = [] ∧ K (.int 1000000) true
  | 1003 => 1 ≤ n ∧ ds = [] ∧ K (.int 60) true
  | _ => False

end Mine
set_option Elab.async false
namespace Mine
open PySem
local macro_rules | `(tactic| walk_at "w") => `(tactic| conv => whnf)

theorem t_whole {n : Nat} {ds K} (h : Φ (n + 1) 0 ds K) : wSs (Φ n) b_whole (retPost K) (startVars ds 1) := by
  obtain ⟨_, x, rfl, hk⟩ := h
  cases x <;> exact hk
theorem t_is_base {n : Nat} {ds K} (h : Φ (n + 1) 1 ds K) : wSs (Φ n) b_is_base (retPost K) (startVars ds 1) := by
  obtain ⟨hn, x, rfl, hk⟩ := h
  walk_at "w"
  refine ⟨by omega, x, rfl, ?_⟩
  cases x with
  | int b =>
    walk_at "w"
    refine ⟨by omega, rfl, rfl, ?_⟩
    walk_at "w"
    refine br_of (fun h1 => ?_) (fun h1 => ?_)
    · walk_at "w"
      refine ⟨by omega, rfl, rfl, ?_⟩
      have e : isB (.int b) = decide (b ≤ 1000000) := by simp only [isB]; rw [h1]; rfl
      rw [e] at hk; exact hk
    · have e : isB (.int b) = false := by simp only [isB]; rw [h1]; rfl
      rw [e] at hk; exact hk
  | _ => exact hk
theorem t_need_base {n : Nat} {ds K} (h : Φ (n + 1) 2 ds K) : wSs (Φ n) b_need_base (retPost K) (startVars ds 1) := by
  obtain ⟨hn, x, rfl, hb, hk⟩ := h
  walk_at "w"
  refine ⟨by omega, x, rfl, ?_⟩
  rw [hb]
  exact hk

theorem all_take {p : D → Bool} {xs : List D} {k : Nat} {d : D} (h : ∀ x ∈ xs.take k, p x = true) (hd : xs[k]? = some d) (hp : p d = true) : ∀ x ∈ xs.take (k + 1), p x = true := by
  intro x hx
  rw [List.take_add_one, hd] at hx
  rcases List.mem_append.mp hx with hx | hx
  · exact h x hx
  · simp at hx; subst hx; exact hp

theorem t_is_row {n : Nat} {ds K} (h : Φ (n + 1) 4 ds K) : wSs (Φ n) b_is_row (retPost K) (startVars ds 3) := by
  obtain ⟨hn, b, x, rfl, h1, h2, hk⟩ := h
  have hb : isB (.int b) = true := by simp [isB, h1, h2]
  walk_at "w"
  refine ⟨by omega, _, rfl, hb, ?_⟩
  cases x with
  | list xs =>
    walk_at "w"
    refine ⟨fun k σ => (∀ x ∈ xs.take k, isF b x = true) ∧ ∃ c, σ = [.val (.int b), .val (.list xs), c], ⟨by simp, _, rfl⟩, ?_, ?_⟩
    · rintro k σ d hd ⟨hp, c, rfl⟩
      have base : ∀ d', isF b d' = isF b d → isF b d = false → K (.bool false) true := by
        intro _ _ hf
        have : isR b (.list xs) = false := by
          simp only [isR, Bool.and_eq_false_iff, List.all_eq_false]
          exact .inl ⟨d, List.mem_of_getElem? hd, by simp [hf]⟩
        rw [this] at hk; exact hk
      cases d with
      | int v =>
        walk_at "w"
        refine ⟨by omega, _, rfl, ?_⟩
        walk_at "w"
        refine br_of (fun h3 => ?_) (fun h3 => ?_)
        · walk_at "w"
          refine br_of (fun h4 => ?_) (fun h4 => ?_)
          · walk_at "w"
            refine base _ rfl ?_
            simp [truth] at h3 h4
            simp only [isF, Bool.and_eq_false_iff, decide_eq_false_iff_not]; omega
          · walk_at "w"
            refine ⟨all_take hp hd ?_, _, rfl⟩
            simp [truth] at h3 h4
            simp only [isF, Bool.and_eq_true, decide_eq_true_eq]; omega
        · walk_at "w"
          refine base _ rfl ?_
          simp only [isF]; rw [h3]; rfl
      | _ =>
        walk_at "w"
        refine ⟨by omega, _, rfl, ?_⟩
        exact base _ rfl rfl
    · rintro σ ⟨hp, c, rfl⟩
      rw [List.take_length] at hp
      have hall : xs.all (isF b) = true := List.all_eq_true.mpr hp
      walk_at "w"
      refine br_of (fun h3 => ?_) (fun h3 => ?_)
      · have e : xs = [] := by simpa [truth] using h3
        subst e
        exact hk
      · have hne : xs ≠ [] := by intro q; subst q; simp [truth] at h3
        have hlen : 0 < xs.length := List.length_pos_iff.mpr hne
        obtain ⟨z, hz⟩ : ∃ z, xs[xs.length - 1]? = some z := ⟨xs[xs.length - 1], by simp⟩
        have hlast : xs.getLast? = some z := by rw [List.getLast?_eq_getElem?]; exact hz
        have hzf := hp z (List.mem_of_getElem? hz)
        obtain ⟨v, rfl⟩ : ∃ v, z = .int v := by cases z <;> first | exact ⟨_, rfl⟩ | cases hzf
        walk_at "w"
        refine ⟨by decide, by decide, ?_, .int v, ?_, ?_⟩
        · simp [place]; omega
        · have : (place xs.length (-1)).toNat = xs.length - 1 := by simp [place]; omega
          rw [this]; exact hz
        · walk_at "w"
          have e : isR b (.list xs) = decide (v ≠ 0) := by
            simp only [isR, hall, hlast, Bool.true_and]
            by_cases hv : v = 0
            · subst hv; rfl
            · simp only [ne_eq, hv, not_false_eq_true, decide_true]
              split
              · rename_i q; simp at q; exact absurd q hv
              · rfl
          rw [e] at hk; exact hk
  | _ => exact hk

theorem t_need_row {n : Nat} {ds K} (h : Φ (n + 1) 5 ds K) : wSs (Φ n) b_need_row (retPost K) (startVars ds 2) := by
  obtain ⟨hn, b, x, rfl, h1, h2, h3, hk⟩ := h
  walk_at "w"
  refine ⟨by omega, b, x, rfl, h1, h2, ?_⟩
  rw [h3]
  exact hk

theorem ints_length (xs : List Int) : (iz xs).length = xs.length := by simp [iz]
theorem ints_get (xs : List Int) (k : Nat) : (iz xs)[k]? = (xs[k]?).map .int := by simp [iz]
theorem ints_flat (xs : List Int) : flat (iz xs) = true := by simp [flat, iz, imm]

theorem isR_ints {b : Int} {xs : List Int} (h : Figs b xs) (t : Trim xs) : isR b (L xs) = true := by
  simp only [isR, Bool.and_eq_true, List.all_eq_true]
  refine ⟨fun x hx => ?_, ?_⟩
  · obtain ⟨v, hv, rfl⟩ := List.mem_map.mp hx
    have := h v hv
    simp [isF, this.1, this.2]
  · simp only [iz, List.getLast?_map]
    cases hl : xs.getLast? with
    | none => rfl
    | some v =>
      have hv : v ≠ 0 := fun q => t (by rw [hl, q])
      simp only [Option.map_some]
      split
      · rename_i q; simp at q; exact absurd q hv
      · rfl
theorem Row.isR {b : Int} {xs : List Int} (r : Row b xs) : isR b (L xs) = true := isR_ints r.figs r.trim

theorem range_get {m k : Nat} {d : D} (h : ((List.range m).map fun (k : Nat) => PyData.int k)[k]? = some d) : k < m ∧ d = .int k := by
  rw [List.getElem?_map] at h
  by_cases hk : k < m
  · rw [List.getElem?_range hk] at h; simp at h; exact ⟨hk, h.symm⟩
  · rw [List.getElem?_eq_none (by simpa using hk)] at h; cases h
theorem range_len {m : Nat} : ((List.range m).map fun (k : Nat) => PyData.int k).length = m := by simp

theorem idx_ok {xs : List Int} {k : Nat} {P : D → Prop} (h : k < xs.length) (hl : xs.length ≤ 5000) (hk : P (.int (xs.getD k 0))) :
    -wordLid ≤ (k : Int) ∧ (k : Int) < wordLid ∧ 0 ≤ place (iz xs).length (k : Int) ∧ ∃ x, (iz xs)[(place (iz xs).length (k : Int)).toNat]? = some x ∧ P x := by
  refine ⟨?_, ?_, ?_, .int (xs.getD k 0), ?_, hk⟩
  · show -(2 ^ 63 : Int) ≤ _; omega
  · show _ < (2 ^ 63 : Int); omega
  · simp [place]; omega
  · have e : (place (iz xs).length (k : Int)).toNat = k := by simp [place]; omega
    rw [e, ints_get, List.getElem?_eq_getElem h]
    simp [List.getD_eq_getElem?_getD, List.getElem?_eq_getElem h]

theorem fmod_eq {a b : Int} (h : 0 ≤ b) : a.fmod b = a % b := Int.fmod_eq_emod_of_nonneg a h
end Mine
set_option Elab.async false
namespace Mine
open PySem
local macro_rules | `(tactic| walk_at "w") => `(tactic| conv => whnf)

theorem t_law_draw {n : Nat} {ds K} (h : Φ (n + 1) 50 ds K) : wSs (Φ n) b_law_draw (retPost K) (startVars ds 2) := by
  obtain ⟨hn, ns, k, rfl, h0, h1, hl, hk⟩ := h
  obtain ⟨k, rfl⟩ := Int.eq_ofNat_of_zero_le h0
  walk_at "w"
  refine br_of (fun h2 => ?_) (fun h2 => ?_) <;> simp only [truth, decide_eq_true_eq, decide_eq_false_iff_not, ints_length] at h2
  · walk_at "w"
    refine idx_ok (xs := ns) (k := k) (by omega) (by omega) ?_
    exact hk _
  · exact hk _

theorem t_law_base_by {n : Nat} {ds K} (h : Φ (n + 1) 51 ds K) : wSs (Φ n) b_law_base_by (retPost K) (startVars ds 1) := by
  obtain ⟨hn, c, rfl, hk⟩ := h
  walk_at "w"
  refine ⟨by decide, ?_⟩
  refine br_of (fun h2 => ?_) (fun h2 => ?_)
  · walk_at "w"
    refine ⟨by decide, ?_⟩
    walk_at "w"
    refine ⟨by decide, ?_⟩
    have e := Int.emod_nonneg (c.fdiv 4) (show (15 : Int) ≠ 0 by decide)
    have e' := Int.emod_lt_of_pos (c.fdiv 4) (show (0 : Int) < 15 by decide)
    refine hk _ ?_ ?_ <;> rw [fmod_eq (by decide)] <;> omega
  · walk_at "w"
    refine ⟨by decide, ?_⟩
    refine br_of (fun h3 => ?_) (fun h3 => ?_)
    · walk_at "w"
      refine ⟨by decide, ?_⟩
      walk_at "w"
      refine ⟨by decide, ?_⟩
      walk_at "w"
      refine ⟨by decide, ?_⟩
      walk_at "w"
      rw [fmod_eq (by decide)]
      have e := Int.emod_nonneg (c.fdiv 4) (show (6 : Int) ≠ 0 by decide)
      have e' := Int.emod_lt_of_pos (c.fdiv 4) (show (0 : Int) < 6 by decide)
      generalize (c.fdiv 4) % 6 = j at *
      have hp : place 6 j = j := by simp [place]; omega
      refine ⟨?_, ?_, ?_, ?_⟩
      · show -(2 ^ 63 : Int) ≤ _; omega
      · show _ < (2 ^ 63 : Int); omega
      · show 0 ≤ place 6 j; omega
      · have hj : (place 6 j).toNat < 6 := by omega
        show ∃ x, ([PyData.int 2, PyData.int 3, PyData.int 10, PyData.int 256, PyData.int 999999, PyData.int 1000000] : List D)[(place 6 j).toNat]? = some x ∧ _
        generalize (place 6 j).toNat = i at *
        match i, hj with
        | 0, _ => exact ⟨_, rfl, hk _ (by decide) (by decide)⟩
        | 1, _ => exact ⟨_, rfl, hk _ (by decide) (by decide)⟩
        | 2, _ => exact ⟨_, rfl, hk _ (by decide) (by decide)⟩
        | 3, _ => exact ⟨_, rfl, hk _ (by decide) (by decide)⟩
        | 4, _ => exact ⟨_, rfl, hk _ (by decide) (by decide)⟩
        | 5, _ => exact ⟨_, rfl, hk _ (by decide) (by decide)⟩
    · walk_at "w"
      refine ⟨by decide, ?_⟩
      walk_at "w"
      refine ⟨by decide, ?_⟩
      have e := Int.emod_nonneg (c.fdiv 4) (show (999999 : Int) ≠ 0 by decide)
      have e' := Int.emod_lt_of_pos (c.fdiv 4) (show (0 : Int) < 999999 by decide)
      refine hk _ ?_ ?_ <;> rw [fmod_eq (by decide)] <;> omega

theorem t_law_is_number {n : Nat} {ds K} (h : Φ (n + 1) 55 ds K) : wSs (Φ n) b_law_is_number (retPost K) (startVars ds 1) := by
  obtain ⟨hn, x, rfl, hk⟩ := h
  cases x with
  | bool b => cases b <;> exact hk
  | _ => exact hk

theorem ints_reverse (xs : List Int) : (iz xs).reverse = iz xs.reverse := by simp [iz]
theorem mul_small {a b : Int} (h : 0 ≤ b) (h' : b ≤ 1000000) : mulOk a b := .inl (.inr (by omega))

theorem L_snoc (xs : List Int) (x : Int) : L (xs ++ [x]) = .list (iz xs ++ [.int x]) := by simp [L, iz]

theorem t_law_same {n : Nat} {ds K} (h : Φ (n + 1) 56 ds K) : wSs (Φ n) b_law_same (retPost K) (startVars ds 3) := by
  obtain ⟨hn, xs, ys, rfl, hl, hk⟩ := h
  walk_at "w"
  refine br_of (fun h2 => ?_) (fun h2 => ?_) <;> simp only [truth, decide_eq_true_eq, decide_eq_false_iff_not, ints_length, ne_eq, Decidable.not_not] at h2
  · have : xs ≠ ys := fun q => h2 (by rw [q])
    rw [decide_eq_false this] at hk
    exact hk
  · have hlen : xs.length = ys.length := by omega
    walk_at "w"
    refine ⟨?_, ?_, ?_⟩
    · show _ < (2 ^ 62 : Int); rw [ints_length]; omega
    · show -(2 ^ 62 : Int) ≤ _; omega
    rw [Int.toNat_natCast, ints_length]
    refine ⟨fun k σ => xs.take k = ys.take k ∧ ∃ c, σ = [.val (L xs), .val (L ys), c], ⟨rfl, _, rfl⟩, ?_, ?_⟩
    · rintro k σ d hd ⟨he, c, rfl⟩
      obtain ⟨hkm, rfl⟩ := range_get hd
      walk_at "w"
      refine idx_ok (xs := xs) (k := k) (by omega) (by omega) ?_
      walk_at "w"
      refine ⟨by omega, _, rfl, ?_⟩
      walk_at "w"
      refine idx_ok (xs := xs) (k := k) (by omega) (by omega) ?_
      walk_at "w"
      refine idx_ok (xs := ys) (k := k) (by omega) (by omega) ?_
      walk_at "w"
      refine br_of (fun h3 => ?_) (fun h3 => ?_) <;> simp only [truth, decide_eq_true_eq, decide_eq_false_iff_not, ne_eq, Decidable.not_not] at h3
      · have : xs ≠ ys := fun q => h3 (by rw [q])
        rw [decide_eq_false this] at hk
        exact hk
      · walk_at "w"
        refine ⟨?_, _, rfl⟩
        have hx : k < xs.length := by omega
        rw [List.take_add_one, List.take_add_one, he, List.getElem?_eq_getElem hx, List.getElem?_eq_getElem hkm]
        simp only [List.getD_eq_getElem?_getD, List.getElem?_eq_getElem hx, List.getElem?_eq_getElem hkm, Option.getD_some] at h3
        rw [h3]
    · rintro σ ⟨he, c, rfl⟩
      rw [range_len, List.take_length, ← hlen, List.take_length] at he
      subst he
      simp only [decide_true] at hk
      exact hk

theorem trim_drop {xs : List Int} (h : xs ≠ []) (h' : xs.getD (xs.length - 1) 0 ≠ 0) : Trim xs := by
  unfold Trim
  rw [List.getLast?_eq_getElem?]
  have : xs.length - 1 < xs.length := by have := List.length_pos_iff.mpr h; omega
  simp only [List.getD_eq_getElem?_getD, List.getElem?_eq_getElem this, Option.getD_some] at h' ⊢
  simpa using h'

theorem idx_last {xs : List Int} {P : D → Prop} (h : xs ≠ []) (hl : xs.length ≤ 5000) (hk : P (.int (xs.getD (xs.length - 1) 0))) :
    -wordLid ≤ (-1 : Int) ∧ (-1 : Int) < wordLid ∧ 0 ≤ place (iz xs).length (-1 : Int) ∧ ∃ x, (iz xs)[(place (iz xs).length (-1 : Int)).toNat]? = some x ∧ P x := by
  have hp := List.length_pos_iff.mpr h
  refine ⟨by decide, by decide, ?_, .int (xs.getD (xs.length - 1) 0), ?_, hk⟩
  · simp [place, ints_length]; omega
  · have e : (place (iz xs).length (-1 : Int)).toNat = xs.length - 1 := by simp [place, ints_length]; omega
    have hlt : xs.length - 1 < xs.length := by omega
    rw [e, ints_get, List.getElem?_eq_getElem hlt]
    simp [List.getD_eq_getElem?_getD, List.getElem?_eq_getElem hlt]

theorem okD_ints (xs : List Int) (k : Nat) : okD (k + 1) (L xs) = true := by
  simp only [okD, List.all_eq_true]
  intro x hx
  obtain ⟨v, _, rfl⟩ := List.mem_map.mp hx
  cases k <;> rfl
theorem eqDs_ints : ∀ xs ys : List Int, eqDs (iz xs) (iz ys) = decide (xs = ys)
  | [], [] => rfl
  | [], _ :: _ => by simp [iz, eqDs]
  | _ :: _, [] => by simp [iz, eqDs]
  | x :: xs, y :: ys => by
    have ih := eqDs_ints xs ys
    simp only [iz, List.map_cons, eqDs, eqD] at ih ⊢
    rw [ih, Bool.eq_iff_iff]
    simp
theorem eqD_L (xs ys : List Int) : eqD (L xs) (L ys) = decide (xs = ys) := by rw [← eqDs_ints]; simp [L, eqD]
theorem eqD_nil (xs : List Int) : eqD (L xs) (.list []) = decide (xs = []) := eqD_L xs []

theorem ints_take (xs : List Int) (k : Nat) : (iz xs).take k = iz (xs.take k) := by simp [iz]
theorem cpF_ints (xs : List Int) (f : Fg) : cpF (iz xs) f = ff := by simp [cpF, ints_flat]

theorem seq_nil {Φ : Calls} {Q : Fl → Vars → Prop} {ρ : Vars} (h : Q .next ρ) : wSs Φ .nil Q ρ := h
theorem t_law_row_by {n : Nat} {ds K} (h : Φ (n + 1) 52 ds K) : wSs (Φ n) b_law_row_by (retPost K) (startVars ds 10) := by
  obtain ⟨hn, ns, k, b, m, rfl, hl, k0, k1, b0, b1, m0, m1, hk⟩ := h
  walk_at "w"
  refine ⟨by omega, ns, k, rfl, by omega, by omega, hl, fun c₁ => ?_⟩
  walk_at "w"
  refine ⟨by decide, ?_⟩
  walk_at "w"
  refine ⟨by omega, ns, k, rfl, by omega, by omega, hl, fun c₂ => ?_⟩
  walk_at "w"
  refine ⟨by decide, ?_⟩
  walk_at "w"
  refine ⟨by decide, ?_⟩
  -- the rest, for any size
  have rest : ∀ sz, 0 ≤ sz → sz ≤ 90 → ∀ σ : Vars, σ = [.val (L ns), .val (.int k), .val (.int b), .val (.int m), .val (.int sz), .unset, .unset, .unset, .unset, .unset] → wSs (Φ n) (match b_law_row_by with | .cons _ (.cons _ r) => r | _ => .nil) (retPost K) σ := by
    rintro sz s0 s1 σ rfl
    walk_at "w"
    refine ⟨by omega, ns, k + 1, rfl, by omega, by omega, hl, fun c₃ => ?_⟩
    walk_at "w"
    refine ⟨by decide, ?_⟩
    walk_at "w"
    refine ⟨by omega, ns, k + 1, rfl, by omega, by omega, hl, fun c₄ => ?_⟩
    walk_at "w"
    refine ⟨by decide, ?_⟩
    walk_at "w"
    refine ⟨by decide, ?_⟩
    walk_at "w"
    refine ⟨?_, ?_, ?_⟩
    · show _ < (2 ^ 62 : Int); omega
    · show -(2 ^ 62 : Int) ≤ _; omega
    refine ⟨fun j σ => ∃ F left c c', Figs b F ∧ F.length = j ∧ σ = [.val (L ns), .val (.int k), .val (.int b), .val (.int m), .val (.int sz), .val (.int (c₃.fmod 5)), .val (.int left), .own (L F), c, c'], ⟨[], _, _, _, Figs.nil, rfl, rfl⟩, ?_, ?_⟩
    · rintro j σ d hd ⟨F, left, c, c', hF, hFl, rfl⟩
      obtain ⟨hj, rfl⟩ := range_get hd
      have hsz : (iz F).length + 1 ≤ sizeLid := by show _ ≤ 2 ^ 24; rw [ints_length]; omega
      have hm0 := Int.emod_nonneg (left + j * j * 48271) (show b ≠ 0 by omega)
      have hm1 := Int.emod_lt_of_pos (left + j * j * 48271) (show 0 < b by omega)
      walk_at "w"
      refine ⟨mul_small (by omega) (by omega), ?_⟩
      walk_at "w"
      refine ⟨mul_small (by omega) (by omega), ?_⟩
      walk_at "w"
      refine ⟨by omega, ?_⟩
      walk_at "w"
      refine ⟨by omega, ?_⟩
      walk_at "w"
      rw [fmod_eq (a := left + j * j * 48271) (by omega)]
      generalize (left + j * j * 48271) % b = v at *
      -- the figure, whatever the way
      have fin : ∀ (u : Int) (left' : Int) (τ : Vars), Fig b u → τ = [.val (L ns), .val (.int k), .val (.int b), .val (.int m), .val (.int sz), .val (.int (c₃.fmod 5)), .val (.int left'), .own (.list (iz F ++ [.int u])), .val (.int j), .val (.int u)] →
          ∃ F left c c', Figs b F ∧ F.length = j + 1 ∧ τ = [.val (L ns), .val (.int k), .val (.int b), .val (.int m), .val (.int sz), .val (.int (c₃.fmod 5)), .val (.int left), .own (L F), c, c'] := by
        intro u left' τ hu hτ
        refine ⟨F ++ [u], left', .val (.int j), .val (.int u), hF.append (Figs.cons hu Figs.nil), by simp [hFl], ?_⟩
        rw [hτ, L_snoc]
      have f0 : Fig b v := ⟨hm0, hm1⟩
      have f1 : Fig b (b - 1) := ⟨by omega, by omega⟩
      have f2 : ∀ c : Bool, Fig b (if c = true then 1 else 0) := by intro c; split <;> exact ⟨by omega, by omega⟩
      have f3 : Fig b 0 := ⟨by omega, by omega⟩
      refine br_of (fun h1 => ?_) (fun h1 => ?_)
      · walk_at "w"
        refine br_of (fun h2 => ?_) (fun h2 => ?_)
        · walk_at "w"
          refine br_of (fun h3 => ?_) (fun h3 => ?_)
          · walk_at "w"
            refine ⟨by decide, ?_⟩
            refine br_of (fun h4 => ?_) (fun h4 => ?_)
            · walk_at "w"; exact ⟨rfl, rfl, hsz, fin _ _ _ f3 rfl⟩
            · walk_at "w"; exact ⟨rfl, rfl, hsz, fin _ _ _ (f2 _) rfl⟩
          · walk_at "w"
            refine br_of (fun h4 => absurd h4 (by rw [h3]; decide)) (fun h4 => ?_)
            walk_at "w"; exact ⟨rfl, rfl, hsz, fin _ _ _ (f2 _) rfl⟩
        · walk_at "w"
          refine br_of (fun h3 => ?_) (fun h3 => ?_)
          · walk_at "w"
            refine ⟨by decide, ?_⟩
            refine br_of (fun h4 => ?_) (fun h4 => ?_)
            · walk_at "w"; exact ⟨rfl, rfl, hsz, fin _ _ _ f3 rfl⟩
            · walk_at "w"; exact ⟨rfl, rfl, hsz, fin _ _ _ f1 rfl⟩
          · walk_at "w"
            refine br_of (fun h4 => absurd h4 (by rw [h3]; decide)) (fun h4 => ?_)
            walk_at "w"; exact ⟨rfl, rfl, hsz, fin _ _ _ f1 rfl⟩
      · walk_at "w"
        refine br_of (fun h2 => ?_) (fun h2 => ?_)
        · walk_at "w"
          refine br_of (fun h3 => ?_) (fun h3 => ?_)
          · walk_at "w"
            refine ⟨by decide, ?_⟩
            refine br_of (fun h4 => ?_) (fun h4 => ?_)
            · walk_at "w"; exact ⟨rfl, rfl, hsz, fin _ _ _ f3 rfl⟩
            · walk_at "w"; exact ⟨rfl, rfl, hsz, fin _ _ _ (f2 _) rfl⟩
          · walk_at "w"
            refine br_of (fun h4 => absurd h4 (by rw [h3]; decide)) (fun h4 => ?_)
            walk_at "w"; exact ⟨rfl, rfl, hsz, fin _ _ _ (f2 _) rfl⟩
        · walk_at "w"
          refine br_of (fun h3 => ?_) (fun h3 => ?_)
          · walk_at "w"
            refine ⟨by decide, ?_⟩
            refine br_of (fun h4 => ?_) (fun h4 => ?_)
            · walk_at "w"; exact ⟨rfl, rfl, hsz, fin _ _ _ f3 rfl⟩
            · walk_at "w"; exact ⟨rfl, rfl, hsz, fin _ _ _ f0 rfl⟩
          · walk_at "w"
            refine br_of (fun h4 => absurd h4 (by rw [h3]; decide)) (fun h4 => ?_)
            walk_at "w"; exact ⟨rfl, rfl, hsz, fin _ _ _ f0 rfl⟩
    · rintro σ ⟨F, left, c, c', hF, hFl, rfl⟩
      rw [range_len] at hFl
      walk_at "w"
      refine ⟨fun i σ => ∃ F, Figs b F ∧ F.length ≤ 90 ∧ F.length = i ∧ σ = [.val (L ns), .val (.int k), .val (.int b), .val (.int m), .val (.int sz), .val (.int (c₃.fmod 5)), .val (.int left), .own (L F), c, c'], ⟨_, F, hF, by omega, rfl, rfl⟩, ?_⟩
      rintro i σ ⟨F, hF, hFl, rfl, rfl⟩
      walk_at "w"
      refine ⟨by decide, ?_⟩
      walk_at "w"
      refine ⟨okD_ints _ _, rfl, ?_⟩
      walk_at "w"
      refine br_of (fun h1 => ?_) (fun h1 => ?_) <;> rw [eqD_nil] at h1 <;> simp only [truth, Bool.not_eq_true', Bool.not_eq_false', decide_eq_true_eq, decide_eq_false_iff_not] at h1
      · walk_at "w"
        refine idx_last h1 (by omega) ?_
        walk_at "w"
        refine br_of (fun h2 => ?_) (fun h2 => ?_) <;> simp only [truth, decide_eq_true_eq, decide_eq_false_iff_not] at h2
        · have hp := List.length_pos_iff.mpr h1
          walk_at "w"
          have e : cut (iz F).length (-1) = F.length - 1 := by simp [cut, ints_length]; omega
          rw [e, ints_take, cpF_ints]
          exact ⟨F.length - 1, by omega, F.take (F.length - 1), hF.take _, by simp; omega, by simp, rfl⟩
        · walk_at "w"
          exact hk F ⟨b0, b1, hF, trim_drop h1 h2, by omega⟩ hFl
      · subst h1
        refine br_ff rfl ?_
        exact hk [] ⟨b0, b1, Figs.nil, Trim.nil, by decide⟩ (by decide)
  refine br_of (fun h4 => ?_) (fun h4 => ?_)
  · walk_at "w"
    refine ⟨by omega, ns, k, rfl, by omega, by omega, hl, fun c₅ => ?_⟩
    walk_at "w"
    refine ⟨by decide, ?_⟩
    walk_at "w"
    refine ⟨by omega, ?_⟩
    have e0 := Int.emod_nonneg (c₅.fdiv 36) (show m ≠ 0 by omega)
    have e1 := Int.emod_lt_of_pos (c₅.fdiv 36) (show 0 < m by omega)
    rw [← fmod_eq (by omega)] at e0 e1
    exact rest ((c₅.fdiv 36).fmod m) e0 (by omega) _ rfl
  · have e0 := Int.emod_nonneg c₁ (show (9 : Int) ≠ 0 by omega)
    have e1 := Int.emod_lt_of_pos c₁ (show (0 : Int) < 9 by omega)
    rw [← fmod_eq (by omega)] at e0 e1
    refine seq_nil ?_
    exact rest (c₁.fmod 9) e0 (by omega) _ rfl
end Mine
set_option Elab.async false
namespace Mine
open PySem
local macro_rules | `(tactic| walk_at "w") => `(tactic| conv => whnf)

theorem idxd {xs : List D} {x : D} {P : D → Prop} (k : Nat) (e : xs[k]? = some x) (hk : k < 5000) (h : P x) :
    -wordLid ≤ (k : Int) ∧ (k : Int) < wordLid ∧ 0 ≤ place xs.length (k : Int) ∧ ∃ x, xs[(place xs.length (k : Int)).toNat]? = some x ∧ P x := by
  have hp : place xs.length (k : Int) = k := by simp [place]; omega
  rw [hp]
  refine ⟨?_, ?_, by omega, x, ?_, h⟩
  · show -(2 ^ 63 : Int) ≤ _; omega
  · show _ < (2 ^ 63 : Int); omega
  · rw [Int.toNat_natCast]; exact e

end Mine
set_option Elab.async false
namespace Mine
open PySem
local macro_rules | `(tactic| walk_at "w") => `(tactic| conv => whnf)

end Mine
set_option Elab.async false
namespace Mine
open PySem
local macro_rules | `(tactic| walk_at "w") => `(tactic| conv => whnf)

theorem Figs.reverse {b : Int} {xs : List Int} (h : Figs b xs) : Figs b xs.reverse := fun y hy => h y (by simpa using hy)

theorem Row.more {b : Int} {xs : List Int} (h : Row b xs) (hl : xs.length ≤ 3999) : Row b (xs ++ [1]) := by
  have := h.lo
  refine ⟨h.lo, h.hi, h.figs.append (Figs.cons ⟨by omega, by omega⟩ Figs.nil), ?_, by simp; omega⟩
  unfold Trim; simp

end Mine
set_option Elab.async false
namespace Mine
open PySem
local macro_rules | `(tactic| walk_at "w") => `(tactic| conv => whnf)

end Mine
set_option Elab.async false
namespace Mine
open PySem
local macro_rules | `(tactic| walk_at "w") => `(tactic| conv => whnf)

end Mine
set_option Elab.async false
namespace Mine
open PySem
local macro_rules | `(tactic| walk_at "w") => `(tactic| conv => whnf)

end Mine
set_option Elab.async false
namespace Mine
open PySem
local macro_rules | `(tactic| walk_at "w") => `(tactic| conv => whnf)

theorem Row.before {b : Int} {xs zs : List Int} (h : Row b xs) (hx : xs ≠ []) (hz : Figs b zs) (hl : zs.length + xs.length ≤ 4000) : Row b (zs ++ xs) := by
  refine ⟨h.lo, h.hi, hz.append h.figs, ?_, by simpa using hl⟩
  have t := h.trim
  unfold Trim at *
  rw [List.getLast?_append]
  cases hq : xs.getLast? with
  | none => exact absurd (List.getLast?_eq_none_iff.mp hq) hx
  | some v => rw [hq] at t; simpa using t
end Mine
set_option Elab.async false
namespace Mine
open PySem
local macro_rules | `(tactic| walk_at "w") => `(tactic| conv => whnf)

end Mine
set_option Elab.async false
namespace Mine
open PySem
local macro_rules | `(tactic| walk_at "w") => `(tactic| conv => whnf)

end Mine
set_option Elab.async false
namespace Mine
open PySem
local macro_rules | `(tactic| walk_at "w") => `(tactic| conv => whnf)

end Mine
set_option Elab.async false
namespace Mine
open PySem
local macro_rules | `(tactic| walk_at "w") => `(tactic| conv => whnf)
local macro_rules | `(tactic| walk_at "same") => `(tactic| (conv => whnf); (refine ⟨by omega, _, _, rfl, by omega, ?_⟩); rw [decide_eq_true (by first | rfl | assumption)])

end Mine
set_option Elab.async false
namespace Mine
open PySem
local macro_rules | `(tactic| walk_at "w") => `(tactic| conv => whnf)

end Mine
set_option Elab.async false
namespace Mine
open PySem
local macro_rules | `(tactic| walk_at "w") => `(tactic| conv => whnf)

theorem okD_st {l : List Nat} {k n : Nat} (h : Tex k l) : okD n (.str (st l)) = true := by
  have : l.all (fun c => decide (c < 0x110000)) = true := by
    rw [List.all_eq_true]; intro c hc; have := h.2 c hc; simp; omega
  cases n <;> simpa [okD, st] using this
theorem eqD_st (l l' : List Nat) : eqD (.str (st l)) (.str (st l')) = decide (l = l') := by
  have : (st l == st l') = decide (l = l') := by
    rw [Bool.eq_iff_iff]
    simp only [beq_iff_eq, decide_eq_true_eq, st, Str.mk.injEq]
    constructor
    · intro h; simpa using h
    · rintro rfl; rfl
  simp only [eqD]; exact this
theorem Tex.le {k k' : Nat} {l : List Nat} (h : Tex k l) (h' : k ≤ k') : Tex k' l := ⟨Nat.le_trans h.1 h', h.2⟩
theorem Tex.append {k k' : Nat} {l l' : List Nat} (h : Tex k l) (h' : Tex k' l') : Tex (k + k') (l ++ l') := by
  refine ⟨by have := h.1; have := h'.1; simp; omega, fun c hc => ?_⟩
  rcases List.mem_append.mp hc with q | q
  · exact h.2 c q
  · exact h'.2 c q
theorem Tex.one : Tex 1 [48] := ⟨by decide, by decide⟩
theorem ten_dig {c : Nat} : ([48, 49, 50, 51, 52, 53, 54, 55, 56, 57] : List Nat).contains c = isDig c := by
  rw [Bool.eq_iff_iff]
  simp only [isDig, Bool.and_eq_true, decide_eq_true_eq, List.contains_iff_mem, List.mem_cons, List.not_mem_nil, or_false]
  omega
theorem chars_get {w : List Nat} {k : Nat} {d : D} (h : (w.map fun c => PyData.str (st [c]))[k]? = some d) : ∃ c, w[k]? = some c ∧ d = .str (st [c]) := by
  rw [List.getElem?_map, Option.map_eq_some_iff] at h
  obtain ⟨c, h1, h2⟩ := h
  exact ⟨c, h1, h2.symm⟩
theorem gw_parts {b : Int} {w : List Nat} : gw b w = true ↔ w ≠ [] ∧ (w.head? ≠ some 48 ∨ w = [48]) ∧ (∀ c ∈ w, isDig c = true) ∧ (dval w : Int) < b := by
  constructor
  · intro h
    simp only [gw, Bool.and_eq_true, decide_eq_true_eq, Bool.not_eq_true', Bool.and_eq_false_iff, decide_eq_false_iff_not, List.all_eq_true] at h
    obtain ⟨⟨⟨h1, h2⟩, h3⟩, h4⟩ := h
    refine ⟨(by rintro rfl; cases h1), ?_, h3, h4⟩
    rcases h2 with h2 | h2
    · exact .inl h2
    · exact .inr (Classical.not_not.mp h2)
  · rintro ⟨h1, h2, h3, h4⟩
    exact gw_of h1 h2 h3 h4
theorem strAt {w : List Nat} {c : Nat} {P : Nat → Prop} (k : Nat) (e : w[k]? = some c) (hk : k < 5000) (h : P c) :
    -wordLid ≤ (k : Int) ∧ (k : Int) < wordLid ∧ 0 ≤ place (st w).cps.toList.length (k : Int) ∧ ∃ c, (st w).cps.toList[(place (st w).cps.toList.length (k : Int)).toNat]? = some c ∧ P c := by
  have hp : place (st w).cps.toList.length (k : Int) = k := by simp [place]; omega
  rw [hp]
  refine ⟨?_, ?_, by omega, c, ?_, h⟩
  · show -(2 ^ 63 : Int) ≤ _; omega
  · show _ < (2 ^ 63 : Int); omega
  · rw [Int.toNat_natCast]; exact e

theorem Tex.mem {l w : List Nat} {k : Nat} (h : Tex k l) (hw : w ∈ spl l) : Tex k w := ⟨Nat.le_trans ((spl_len l).2 w hw) h.1, fun c hc => h.2 c ((spl_mem l w hw).2 c hc)⟩
theorem head_get {w : List Nat} (h : w ≠ []) : ∃ c, w[0]? = some c ∧ w.head? = some c := by
  cases w with
  | nil => exact absurd rfl h
  | cons c r => exact ⟨c, rfl, rfl⟩
theorem all_take' {w : List Nat} {k c : Nat} (h : ∀ x ∈ w.take k, isDig x = true) (hc : w[k]? = some c) (hd : isDig c = true) : ∀ x ∈ w.take (k + 1), isDig x = true := by
  intro x hx
  rw [List.take_add_one, hc] at hx
  rcases List.mem_append.mp hx with q | q
  · exact h x q
  · simp at q; subst q; exact hd
theorem mem_get {w : List Nat} {k c : Nat} (hc : w[k]? = some c) : c ∈ w := List.mem_of_getElem? hc

theorem t_figure_of {n : Nat} {ds K} (h : Φ (n + 1) 35 ds K) : wSs (Φ n) b_figure_of (retPost K) (startVars ds 4) := by
  obtain ⟨hn, b, w, rfl, b0, b1, hw, hg, hk⟩ := h
  have hl := gw_len b1 hg
  obtain ⟨g1, g2, g3, g4⟩ := gw_parts.mp hg
  have hp := List.length_pos_iff.mpr g1
  have rest : ∀ σ, σ = [.val (.int b), .val (.str (st w)), .unset, .unset] → wSs (Φ n) (match b_figure_of with | .cons _ r => r | _ => .nil) (retPost K) σ := by
    rintro σ rfl
    walk_at "w"
    refine ⟨fun k σ => ∃ u, σ = [.val (.int b), .val (.str (st w)), u, .unset], ⟨_, rfl⟩, ?_, ?_⟩
    · rintro k σ d hd ⟨u, rfl⟩
      obtain ⟨c, hc, rfl⟩ := chars_get hd
      walk_at "w"
      refine ⟨c, rfl, ?_⟩
      refine br_ff (by show (!([48, 49, 50, 51, 52, 53, 54, 55, 56, 57] : List Nat).contains c) = false; rw [ten_dig, g3 c (mem_get hc)]; rfl) ?_
      exact ⟨_, rfl⟩
    · rintro σ ⟨u, rfl⟩
      walk_at "w"
      refine ⟨g1, show w.length ≤ 640 by omega, g3, ?_⟩
      walk_at "w"
      refine br_ff (by simp only [truth, decide_eq_false_iff_not]; show ¬ (b ≤ (dval w : Int)); omega) ?_
      exact hk
  walk_at "w"
  refine br_ff (by simp only [truth, decide_eq_false_iff_not]; show ¬ ((w.length : Int) = 0); omega) ?_
  walk_at "w"
  refine ⟨by omega, rfl, rfl, ?_⟩
  walk_at "w"
  refine br_ff (by simp only [truth, decide_eq_false_iff_not]; show ¬ ((60 : Int) < (w.length : Int)); omega) ?_
  walk_at "w"
  refine br_of (fun h2 => ?_) (fun h2 => ?_) <;> simp only [truth, decide_eq_true_eq, decide_eq_false_iff_not] at h2
  · replace h2 : (1 : Int) < w.length := h2
    obtain ⟨c, hc, hh⟩ := head_get g1
    walk_at "w"
    refine strAt (w := w) 0 hc (by decide) ?_
    walk_at "w"
    refine ⟨okD_st (k := 1) ⟨Nat.le_refl 1, fun d hd => by rw [List.mem_singleton.mp hd]; exact hw.2 c (mem_get hc)⟩, okD_st Tex.one, ?_⟩
    refine br_ff (by rw [show (Str.mk #[48]) = st [48] from rfl, eqD_st]; simp only [truth, decide_eq_false_iff_not]; intro q; rcases g2 with g2 | g2
                     · exact g2 (by rw [hh]; simpa using q)
                     · rw [g2] at h2; simp at h2) ?_
    exact rest _ rfl
  · refine br_ff (by simp only [truth, decide_eq_false_iff_not]; exact h2) ?_
    exact rest _ rfl

theorem x_figure_of {n : Nat} {ds K} (h : Φ (n + 1) 535 ds K) : xSs (Φ n) b_figure_of_x (fun _ _ => False) (· = 2003) (startVars ds 4) := by
  obtain ⟨hn, b, w, rfl, b0, b1, hw, hg, hk⟩ := h
  have hl := hw.1
  have rest : w ≠ [] → (w.head? ≠ some 48 ∨ w = [48]) → ∀ σ, σ = [.val (.int b), .val (.str (st w)), .unset, .unset] → xSs (Φ n) (match b_figure_of_x with | .cons _ r => r | _ => .nil) (fun _ _ => False) (· = 2003) σ := by
    rintro g1 g2 σ rfl
    walk_at "w"
    refine ⟨fun k σ => (∀ c ∈ w.take k, isDig c = true) ∧ ∃ u, σ = [.val (.int b), .val (.str (st w)), u, .unset], ⟨by simp, _, rfl⟩, ?_, ?_⟩
    · rintro k σ d hd ⟨ha, u, rfl⟩
      obtain ⟨c, hc, rfl⟩ := chars_get hd
      walk_at "w"
      refine .inr ?_
      walk_at "w"
      refine ⟨c, rfl, ?_⟩
      cases hq : isDig c with
      | true =>
        refine br_ff (by show (!([48, 49, 50, 51, 52, 53, 54, 55, 56, 57] : List Nat).contains c) = false; rw [ten_dig, hq]; rfl) ?_
        exact ⟨all_take' ha hc hq, _, rfl⟩
      | false =>
        refine br_tt (by show (!([48, 49, 50, 51, 52, 53, 54, 55, 56, 57] : List Nat).contains c) = true; rw [ten_dig, hq]; rfl) ?_
        exact rfl
    · rintro σ ⟨ha, u, rfl⟩
      have ha' : ∀ c ∈ w, isDig c = true := by
        have e : w.take (w.map fun c => PyData.str (st [c])).length = w := by simp
        exact e ▸ ha
      walk_at "w"
      refine ⟨g1, hl, ha', ?_⟩
      walk_at "w"
      refine .inr ?_
      walk_at "w"
      refine br_tt ?_ rfl
      simp only [truth, decide_eq_true_eq]
      show b ≤ (dval w : Int)
      refine Int.not_lt.mp fun q => ?_
      rw [gw_parts.mpr ⟨g1, g2, ha', q⟩] at hg; cases hg
  walk_at "w"
  refine .inr ?_
  walk_at "w"
  refine br_of (fun h1 => ?_) (fun h1 => ?_)
  · refine br_tt h1 ?_
    exact rfl
  simp only [truth, decide_eq_false_iff_not] at h1
  replace h1 : ¬ ((w.length : Int) = 0) := h1
  have g1 : w ≠ [] := by rintro rfl; exact h1 rfl
  walk_at "w"
  refine ⟨by omega, rfl, rfl, ?_⟩
  walk_at "w"
  refine br_of (fun h2 => ?_) (fun h2 => ?_)
  · refine br_tt h2 ?_
    exact rfl
  walk_at "w"
  refine br_of (fun h3 => ?_) (fun h3 => ?_) <;> simp only [truth, decide_eq_true_eq, decide_eq_false_iff_not] at h3
  · replace h3 : (1 : Int) < w.length := h3
    obtain ⟨c, hc, hh⟩ := head_get g1
    walk_at "w"
    refine strAt (w := w) 0 hc (by decide) ?_
    walk_at "w"
    refine ⟨okD_st (k := 1) ⟨Nat.le_refl 1, fun d hd => by rw [List.mem_singleton.mp hd]; exact hw.2 c (mem_get hc)⟩, okD_st Tex.one, ?_⟩
    by_cases h48 : c = 48
    · refine br_tt (by rw [show (Str.mk #[48]) = st [48] from rfl, eqD_st, h48]; rfl) ?_
      exact rfl
    · refine br_ff (by rw [show (Str.mk #[48]) = st [48] from rfl, eqD_st]; simp only [truth, decide_eq_false_iff_not]; simpa using h48) ?_
      exact rest g1 (.inl (by rw [hh]; simpa using h48)) _ rfl
  · replace h3 : ¬ ((1 : Int) < w.length) := h3
    refine br_ff (by simp only [truth, decide_eq_false_iff_not]; exact h3) ?_
    refine rest g1 ?_ _ rfl
    by_cases h48 : w.head? = some 48
    · right
      match w, g1, h3, h48 with
      | [c], _, _, h48 => simpa using h48
      | c :: d :: r, _, h3, _ => exact absurd h3 (by simp; omega)
    · exact .inl h48

theorem fig_is {n : Nat} {b : Int} {w : List Nat} {z : Int} (h : Φ n 35 [.int b, .str (st w)] fun r _ => r = .int z) : gw b w = true ∧ z = (dval w : Nat) := by
  obtain ⟨_, b', w', e, _, _, _, hg, hk⟩ := h
  have e1 : b = b' := by injection e with e _; injection e
  have e2 : w = w' := by
    injection e with _ e; injection e with e _; injection e with e
    have : (st w).cps.toList = (st w').cps.toList := by rw [e]
    simpa [st] using this
  subst e1 e2
  injection hk with hk
  exact ⟨hg, hk.symm⟩
theorem words_get {l : List Nat} {k : Nat} {d : D} (h : ((spl l).map fun w => PyData.str (st w))[k]? = some d) : ∃ w, (spl l)[k]? = some w ∧ d = .str (st w) := by
  rw [List.getElem?_map, Option.map_eq_some_iff] at h
  obtain ⟨c, h1, h2⟩ := h
  exact ⟨c, h1, h2.symm⟩
theorem words_flat (l : List Nat) : flat ((spl l).map fun w => PyData.str (st w)) = true := by
  simp only [flat, List.all_map, List.all_eq_true]
  intro w _; rfl
theorem zs_are {n : Nat} {b : Int} {l : List Nat} {zs : List Int} (hl : zs.length = ((spl l).map fun w => PyData.str (st w)).length)
    (h : ∀ (k : Nat) (w : D) (z : Int), ((spl l).map fun w => PyData.str (st w))[k]? = some w → zs[k]? = some z → Φ n 35 [.int b, w] fun r _ => r = .int z) :
    (spl l).all (gw b) = true ∧ zs = (spl l).map fun w => ((dval w : Nat) : Int) := by
  rw [List.length_map] at hl
  refine ⟨?_, ?_⟩
  · rw [List.all_eq_true]
    intro w hw
    obtain ⟨k, hk⟩ := List.getElem?_of_mem hw
    have hlt := (List.getElem?_eq_some_iff.mp hk).1
    exact (fig_is (h k (.str (st w)) zs[k] (by rw [List.getElem?_map, hk]; rfl) (by rw [List.getElem?_eq_getElem (by omega)]))).1
  · refine List.ext_getElem? fun k => ?_
    by_cases hlt : k < zs.length
    · have hk : (spl l)[k]? = some ((spl l)[k]'(by omega)) := List.getElem?_eq_getElem _
      have := (fig_is (h k (.str (st ((spl l)[k]'(by omega)))) zs[k] (by rw [List.getElem?_map, hk]; rfl) (by rw [List.getElem?_eq_getElem hlt]))).2
      rw [List.getElem?_map, hk, List.getElem?_eq_getElem hlt, this]; rfl
    · rw [List.getElem?_eq_none (by omega), List.getElem?_eq_none (by simp; omega)]
theorem spl_cons (l : List Nat) : ∃ w r, spl l = w :: r := by
  cases h : spl l with
  | nil => exact absurd h (spl_ne l)
  | cons w r => exact ⟨w, r, rfl⟩

theorem t_read {n : Nat} {ds K} (h : Φ (n + 1) 36 ds K) : wSs (Φ n) b_read (retPost K) (startVars ds 3) := by
  obtain ⟨hn, b, l, r, rfl, b0, b1, hl, hr, hk⟩ := h
  have hb : isB (.int b) = true := by simp [isB, b0, b1]
  have hll := hl.1
  have hsl := (spl_len l).1
  walk_at "w"
  refine ⟨by omega, _, rfl, hb, ?_⟩
  walk_at "w"
  refine ⟨okD_st hl, okD_st Tex.one, ?_⟩
  by_cases h0 : l = [48]
  · subst h0
    refine br_tt (by rw [show (Str.mk #[48]) = st [48] from rfl, eqD_st]; rfl) ?_
    have : r = [] := by simpa [rdl] using hr.symm
    subst this
    walk_at "w"
    refine ⟨by decide, ?_⟩
    exact hk
  · refine br_ff (by rw [show (Str.mk #[48]) = st [48] from rfl, eqD_st]; simpa [truth] using h0) ?_
    unfold rdl at hr
    rw [if_neg h0] at hr
    split at hr
    · rename_i hg
      simp only [Bool.and_eq_true, decide_eq_true_eq] at hg
      injection hr with hr
      walk_at "w"
      refine ⟨show l.length ≤ 5000 by omega, .int b, rfl, rfl, words_flat l, by rw [List.length_map]; show (spl l).length ≤ 5000; omega, fun w hw => ?_, fun zs hzl hz => ?_⟩
      · obtain ⟨v, hv, rfl⟩ := List.mem_map.mp hw
        exact .inl ⟨_, by omega, b, v, rfl, b0, b1, hl.mem hv, List.all_eq_true.mp hg.1 v hv, rfl⟩
      · obtain ⟨_, rfl⟩ := zs_are hzl hz
        obtain ⟨w0, r0, hs⟩ := spl_cons l
        have hw0 : dval w0 ≠ 0 := by have := hg.2; rw [hs] at this; exact this
        change wSs (Φ n) (match b_read with | .cons _ (.cons _ (.cons _ (.cons _ r))) => r | _ => .nil) (retPost K) [.val (.int b), .val (.str (st l)), .own (L ((spl l).map fun w => ((dval w : Nat) : Int)))]
        walk_at "w"
        refine idxd (xs := iz ((spl l).map fun w => ((dval w : Nat) : Int))) (x := .int (dval w0 : Nat)) (k := 0) (by rw [hs]; rfl) (by decide) ?_
        walk_at "w"
        refine br_ff (by simp only [truth, decide_eq_false_iff_not]; omega) ?_
        walk_at "w"
        rw [ints_reverse, hr]
        exact hk
    · cases hr

theorem x_read {n : Nat} {ds K} (h : Φ (n + 1) 536 ds K) : xSs (Φ n) b_read_x (fun _ _ => False) (· = 2003) (startVars ds 3) := by
  obtain ⟨hn, b, x, rfl, b0, b1, hx, hk⟩ := h
  have hb : isB (.int b) = true := by simp [isB, b0, b1]
  walk_at "w"
  refine .inr ?_
  walk_at "w"
  refine ⟨by omega, _, rfl, hb, ?_⟩
  walk_at "w"
  refine .inr ?_
  rcases hx with ⟨l, rfl, hl, hr⟩ | hx
  · have hll := hl.1
    have hsl := (spl_len l).1
    have h0 : l ≠ [48] := by rintro rfl; simp [rdl] at hr
    walk_at "w"
    refine .inr ?_
    walk_at "w"
    refine ⟨okD_st hl, okD_st Tex.one, ?_⟩
    refine br_ff (by rw [show (Str.mk #[48]) = st [48] from rfl, eqD_st]; simpa [truth] using h0) ?_
    walk_at "w"
    refine ⟨show l.length ≤ 5000 by omega, .int b, rfl, rfl, words_flat l, by rw [List.length_map]; show (spl l).length ≤ 5000; omega, fun w hw => ?_, fun zs hzl hz => ?_⟩
    · obtain ⟨v, hv, rfl⟩ := List.mem_map.mp hw
      cases hg : gw b v with
      | true => exact .inl ⟨_, by omega, b, v, rfl, b0, b1, hl.mem hv, hg, rfl⟩
      | false => exact .inr ⟨by omega, b, v, rfl, b0, b1, hl.mem hv, hg, 2003, rfl, rfl⟩
    · obtain ⟨ha, rfl⟩ := zs_are hzl hz
      replace ha : (spl l).all (gw b) = true := ha
      obtain ⟨w0, r0, hs⟩ := spl_cons l
      have hw0 : dval w0 = 0 := by
        unfold rdl at hr
        rw [if_neg h0] at hr
        split at hr
        · cases hr
        · rename_i hg
          rw [ha, Bool.true_and, hs] at hg
          simpa using hg
      change xSs (Φ n) (match b_read_x with | .cons _ (.cons _ (.cons _ (.cons _ r))) => r | _ => .nil) (fun _ _ => False) (· = 2003) [.val (.int b), .val (.str (st l)), .own (L ((spl l).map fun w => ((dval w : Nat) : Int)))]
      walk_at "w"
      refine .inr ?_
      walk_at "w"
      refine idxd (xs := iz ((spl l).map fun w => ((dval w : Nat) : Int))) (x := .int (dval w0 : Nat)) (k := 0) (by rw [hs]; rfl) (by decide) ?_
      walk_at "w"
      refine br_tt (by simp only [truth, decide_eq_true_eq]; omega) ?_
      exact rfl
  · cases x <;> first | (cases hx; done) | (walk_at "w"; done)

theorem t_law_refused {n : Nat} {ds K} (h : Φ (n + 1) 70 ds K) : wSs (Φ n) b_law_refused (retPost K) (startVars ds 3) := by
  obtain ⟨hn, b, x, rfl, b0, b1, hx, hk⟩ := h
  refine ⟨rfl, ?_⟩
  walk_at "w"
  refine ⟨by omega, b, x, rfl, b0, b1, hx, rfl, ?_⟩
  exact hk

theorem t_written {n : Nat} {ds K} (h : Φ (n + 1) 34 ds K) : wSs (Φ n) b_written (retPost K) (startVars ds 2) := by
  obtain ⟨hn, b, xs, rfl, hx, hl, hk⟩ := h
  walk_at "w"
  refine ⟨by omega, b, _, rfl, hx.lo, hx.hi, hx.isR, ?_⟩
  walk_at "w"
  refine br_of (fun h1 => ?_) (fun h1 => ?_) <;> simp only [truth, decide_eq_true_eq, decide_eq_false_iff_not] at h1 <;> rw [ints_length] at h1
  · have : xs = [] := List.length_eq_zero_iff.mp (by omega)
    subst this
    exact hk
  · have hne : xs ≠ [] := by rintro rfl; exact h1 rfl
    walk_at "w"
    refine ⟨xs, rfl, hne, by omega, fun m hm => ?_, ?_⟩
    · have := hx.figs m hm; have := hx.hi; unfold Fig at *; omega
    · unfold wr at hk; rw [if_neg hne] at hk; exact hk

theorem strAny {w : List Nat} {c m : Int} {P : Nat → Prop} (hm : m = w.length) (h0 : w ≠ []) (hl : w.length ≤ 5000) (hs : ∀ c ∈ w, c < 128) (h : ∀ s, s < 128 → P s) :
    -wordLid ≤ c.fmod m ∧ c.fmod m < wordLid ∧ 0 ≤ place (st w).cps.toList.length (c.fmod m) ∧ ∃ c', (st w).cps.toList[(place (st w).cps.toList.length (c.fmod m)).toNat]? = some c' ∧ P c' := by
  have hp := List.length_pos_iff.mpr h0
  have g0 := Int.emod_nonneg c (show m ≠ 0 by omega)
  have g1 := Int.emod_lt_of_pos c (show 0 < m by omega)
  rw [← fmod_eq (by omega)] at g0 g1
  obtain ⟨k, hk⟩ : ∃ k : Nat, c.fmod m = k := ⟨(c.fmod m).toNat, by omega⟩
  rw [hk]
  have hlt : k < w.length := by omega
  exact strAt (w := w) k (List.getElem?_eq_getElem hlt) (by omega) (h _ (hs _ (List.getElem_mem hlt)))

theorem t_law_sign_by {n : Nat} {ds K} (h : Φ (n + 1) 68 ds K) : wSs (Φ n) b_law_sign_by (retPost K) (startVars ds 2) := by
  obtain ⟨hn, c, rfl, hk⟩ := h
  walk_at "w"
  refine ⟨by decide, ?_⟩
  walk_at "w"
  refine ⟨by decide, ?_⟩
  walk_at "w"
  exact strAny rfl (by decide) (by decide) (by decide) hk

theorem listAny {xs : List D} {c : Int} {m : Int} {P : D → Prop} (hm : m = xs.length) (h0 : 0 < xs.length) (hl : xs.length ≤ 5000) (h : ∀ x ∈ xs, P x) :
    -wordLid ≤ c.fmod m ∧ c.fmod m < wordLid ∧ 0 ≤ place xs.length (c.fmod m) ∧ ∃ x, xs[(place xs.length (c.fmod m)).toNat]? = some x ∧ P x := by
  have g0 := Int.emod_nonneg c (show m ≠ 0 by omega)
  have g1 := Int.emod_lt_of_pos c (show 0 < m by omega)
  rw [← fmod_eq (by omega)] at g0 g1
  obtain ⟨k, hk⟩ : ∃ k : Nat, c.fmod m = k := ⟨(c.fmod m).toNat, by omega⟩
  rw [hk]
  have hlt : k < xs.length := by omega
  exact idxd k (List.getElem?_eq_getElem hlt) (by omega) (h _ (List.getElem_mem hlt))

theorem Tex.txt {n : Int} (h : n < 10000000) : Tex 60 (txt n) := by
  have := digits_len 6 n.toNat (by have : (10 : Nat) ^ 7 = 10000000 := by decide
                                   omega)
  exact ⟨show ((Nat.toDigits 10 n.toNat).map Char.toNat).length ≤ 60 by omega, txt_signs n⟩

theorem t_law_word_by {n : Nat} {ds K} (h : Φ (n + 1) 66 ds K) : wSs (Φ n) b_law_word_by (retPost K) (startVars ds 3) := by
  obtain ⟨hn, b, c, rfl, b0, b1, hk⟩ := h
  walk_at "w"
  refine ⟨by decide, ?_⟩
  walk_at "w"
  refine br_of (fun h1 => ?_) (fun h1 => ?_)
  · walk_at "w"
    refine ⟨by decide, ?_⟩
    walk_at "w"
    refine ⟨by omega, ?_⟩
    have g0 := Int.emod_nonneg (c.fdiv 3) (show b + 2 ≠ 0 by omega)
    have g1 := Int.emod_lt_of_pos (c.fdiv 3) (show 0 < b + 2 by omega)
    rw [← fmod_eq (by omega)] at g0 g1
    walk_at "w"
    refine ⟨by omega, by omega, ?_⟩
    exact hk _ (Tex.txt (by omega))
  walk_at "w"
  refine ⟨by decide, ?_⟩
  walk_at "w"
  refine br_of (fun h1 => ?_) (fun h1 => ?_)
  · walk_at "w"
    refine ⟨by decide, ?_⟩
    walk_at "w"
    refine ⟨by omega, ?_⟩
    have g0 := Int.emod_nonneg (c.fdiv 3) (show b ≠ 0 by omega)
    have g1 := Int.emod_lt_of_pos (c.fdiv 3) (show 0 < b by omega)
    rw [← fmod_eq (by omega)] at g0 g1
    walk_at "w"
    refine ⟨by omega, by omega, ?_⟩
    exact hk _ (Tex.txt (by omega))
  walk_at "w"
  refine ⟨by decide, by decide, by decide, ?_⟩
  walk_at "w"
  refine ⟨by decide, ?_⟩
  walk_at "w"
  refine ⟨by decide, ?_⟩
  walk_at "w"
  refine ⟨by decide, ?_⟩
  walk_at "w"
  refine listAny rfl (by decide) (by decide) fun x hx => ?_
  have hs : ∃ w, x = .str (st w) ∧ Tex 60 w := by
    simp only [List.mem_cons, List.not_mem_nil, or_false] at hx
    rcases hx with rfl | rfl | rfl | rfl | rfl | rfl | rfl | rfl | rfl | rfl | rfl | rfl | rfl | rfl
    · exact ⟨[], rfl, by decide, by decide⟩
    · exact ⟨[48, 48], rfl, by decide, by decide⟩
    · exact ⟨[48, 49], rfl, by decide, by decide⟩
    · exact ⟨[45, 49], rfl, by decide, by decide⟩
    · exact ⟨[43, 49], rfl, by decide, by decide⟩
    · exact ⟨[32, 49], rfl, by decide, by decide⟩
    · exact ⟨[49, 32], rfl, by decide, by decide⟩
    · exact ⟨[49, 95, 48], rfl, by decide, by decide⟩
    · exact ⟨[97], rfl, by decide, by decide⟩
    · exact ⟨[48, 120, 49], rfl, by decide, by decide⟩
    · exact ⟨[49, 44, 48], rfl, by decide, by decide⟩
    · exact ⟨[48], rfl, by decide, by decide⟩
    · exact ⟨List.replicate 60 49, rfl, by decide, by decide⟩
    · exact ⟨[55, 10], rfl, by decide, by decide⟩
  obtain ⟨w, rfl, hw⟩ := hs
  exact hk w hw

theorem t_law_line_by {n : Nat} {ds K} (h : Φ (n + 1) 67 ds K) : wSs (Φ n) b_law_line_by (retPost K) (startVars ds 5) := by
  obtain ⟨hn, ns, b, rfl, hl, b0, b1, hk⟩ := h
  walk_at "w"
  refine ⟨by omega, ns, 3, rfl, by omega, by omega, hl, fun c => ?_⟩
  walk_at "w"
  refine ⟨by decide, ?_⟩
  have g0 := Int.emod_nonneg c (show (5 : Int) ≠ 0 by decide)
  have g1 := Int.emod_lt_of_pos c (show (0 : Int) < 5 by decide)
  rw [← fmod_eq (by decide)] at g0 g1
  generalize c.fmod 5 = m at *
  walk_at "w"
  refine ⟨?_, ?_, ?_⟩
  · show _ < (2 ^ 62 : Int); omega
  · show -(2 ^ 62 : Int) ≤ _; omega
  refine ⟨fun k σ => ∃ l u v, Tex (62 * k) l ∧ σ = [.val (L ns), .val (.int b), .val (.str (st l)), u, v], ⟨[], _, _, ⟨by simp, by simp⟩, rfl⟩, ?_, ?_⟩
  · rintro k σ d hd ⟨l, u, v, hT, rfl⟩
    obtain ⟨hkm, rfl⟩ := range_get hd
    have hTl := hT.1
    walk_at "w"
    refine ⟨by omega, ns, 4 + k, rfl, by omega, by omega, hl, fun c' => ?_⟩
    have tail : ∀ l' σ, Tex (62 * k + 2) l' → σ = [.val (L ns), .val (.int b), .val (.str (st l')), .val (.int k), .val (.int c')] →
        wSs (Φ n) (match b_law_line_by with | .cons _ (.cons (.loop _ _ (.cons _ (.cons _ r))) _) => r | _ => .nil) (fun fl τ => match fl with | .next | .cont => ∃ l u v, Tex (62 * (k + 1)) l ∧ τ = [.val (L ns), .val (.int b), .val (.str (st l)), u, v] | .brk => False | .ret _ _ => False) σ := by
      rintro l' σ hl' rfl
      have hl1 := hl'.1
      walk_at "w"
      refine ⟨by decide, ?_⟩
      walk_at "w"
      refine ⟨by omega, b, _, rfl, b0, b1, fun w hw => ?_⟩
      have hw1 := hw.1
      walk_at "w"
      refine ⟨show l'.length + w.length ≤ 2 ^ 24 by omega, ?_⟩
      exact ⟨l' ++ w, _, _, (hl'.append hw).le (by omega), rfl⟩
    walk_at "w"
    refine br_of (fun h1 => ?_) (fun h1 => ?_)
    · walk_at "w"
      refine ⟨by decide, ?_⟩
      walk_at "w"
      refine ⟨by decide, ?_⟩
      walk_at "w"
      refine listAny rfl (by decide) (by decide) fun x hx => ?_
      have hs : ∃ w, x = .str (st w) ∧ Tex 2 w := by
        simp only [List.mem_cons, List.not_mem_nil, or_false] at hx
        rcases hx with rfl | rfl | rfl | rfl | rfl | rfl | rfl | rfl | rfl | rfl | rfl | rfl
        all_goals first | exact ⟨[46], rfl, by decide, by decide⟩ | exact ⟨[44], rfl, by decide, by decide⟩ | exact ⟨[46, 46], rfl, by decide, by decide⟩ | exact ⟨[32], rfl, by decide, by decide⟩
      obtain ⟨w, rfl, hw⟩ := hs
      have hw1 := hw.1
      walk_at "w"
      refine ⟨show l.length + w.length ≤ 2 ^ 24 by omega, ?_⟩
      exact tail (l ++ w) _ (hT.append hw) rfl
    · exact tail l _ (hT.le (by omega)) rfl
  · rintro σ ⟨l, u, v, hT, rfl⟩
    rw [range_len] at hT
    exact hk l (hT.le (by omega))
end Mine
set_option Elab.async false
namespace Mine
open PySem
local macro_rules | `(tactic| walk_at "w") => `(tactic| conv => whnf)

theorem rdl_bad {b : Int} {l w : List Nat} (h0 : l ≠ [48]) (hw : w ∈ spl l) (hg : gw b w = false) : rdl b l = none := by
  unfold rdl
  rw [if_neg h0, if_neg]
  intro q
  simp only [Bool.and_eq_true, List.all_eq_true] at q
  rw [q.1 w hw] at hg; cases hg
theorem rdl_good {b : Int} {l w0 : List Nat} {r0 : List (List Nat)} (h0 : l ≠ [48]) (hs : spl l = w0 :: r0) (hg : ∀ w ∈ spl l, gw b w = true) : rdl b l = if dval w0 = 0 then none else some ((((w0 :: r0).map fun w => ((dval w : Nat) : Int)).reverse)) := by
  unfold rdl
  rw [if_neg h0]
  have : (spl l).all (gw b) = true := List.all_eq_true.mpr hg
  rw [this, Bool.true_and, hs]
  by_cases h : dval w0 = 0
  · rw [if_pos h, if_neg (by simpa using h)]
  · rw [if_neg h, if_pos (by simpa using h)]
theorem all_take'' {ws : List (List Nat)} {b : Int} {k : Nat} {w : List Nat} (h : ∀ x ∈ ws.take k, gw b x = true) (hc : ws[k]? = some w) (hd : gw b w = true) : ∀ x ∈ ws.take (k + 1), gw b x = true := by
  intro x hx
  rw [List.take_add_one, hc] at hx
  rcases List.mem_append.mp hx with q | q
  · exact h x q
  · simp at q; subst q; exact hd
theorem take_snoc {ws : List (List Nat)} {k : Nat} {w : List Nat} (hc : ws[k]? = some w) : ((ws.take (k + 1)).map fun w => ((dval w : Nat) : Int)).reverse = ((dval w : Nat) : Int) :: ((ws.take k).map fun w => ((dval w : Nat) : Int)).reverse := by
  rw [List.take_add_one, hc]; simp

set_option maxHeartbeats 1000000 in
theorem t_law_due_of {n : Nat} {ds K} (h : Φ (n + 1) 69 ds K) : wSs (Φ n) b_law_due_of (retPost K) (startVars ds 5) := by
  obtain ⟨hn, b, l, rfl, b0, b1, hl, hk⟩ := h
  have hll := hl.1
  have hsl := (spl_len l).1
  walk_at "w"
  refine ⟨okD_st hl, okD_st Tex.one, ?_⟩
  by_cases h0 : l = [48]
  · subst h0
    refine br_tt (by rw [show (Str.mk #[48]) = st [48] from rfl, eqD_st]; rfl) ?_
    walk_at "w"
    refine ⟨by decide, ?_⟩
    exact hk
  refine br_ff (by rw [show (Str.mk #[48]) = st [48] from rfl, eqD_st]; simpa [truth] using h0) ?_
  have no : ∀ w ∈ spl l, gw b w = false → K .none true := fun w hw hg => by rw [rdl_bad h0 hw hg] at hk; exact hk
  walk_at "w"
  refine ⟨by decide, ?_⟩
  walk_at "w"
  refine ⟨show l.length ≤ 5000 by omega, ?_⟩
  refine ⟨fun k σ => (∀ w ∈ (spl l).take k, gw b w = true) ∧ ∃ u v, σ = [.val (.int b), .val (.str (st l)), .own (L (((spl l).take k).map fun w => ((dval w : Nat) : Int)).reverse), u, v], ⟨by simp, _, _, rfl⟩, ?_, ?_⟩
  · rintro k σ d hd ⟨ha, u, v, rfl⟩
    obtain ⟨w, hw, rfl⟩ := words_get hd
    replace hw : (spl l)[k]? = some w := hw
    have hm : w ∈ spl l := List.mem_of_getElem? hw
    have hT := hl.mem hm
    have hTl := hT.1
    have hkl : k < (spl l).length := (List.getElem?_eq_some_iff.mp hw).1
    -- from the loop over the signs on
    have rest : w ≠ [] → (w.head? ≠ some 48 ∨ w = [48]) → ∀ σ, σ = [.val (.int b), .val (.str (st l)), .own (L (((spl l).take k).map fun w => ((dval w : Nat) : Int)).reverse), .val (.str (st w)), v] →
        wSs (Φ n) (match b_law_due_of with | .cons _ (.cons _ (.cons (.loop _ _ (.cons _ r)) _)) => r | _ => .nil) (fun fl τ => match fl with
          | .next | .cont => (∀ w ∈ (spl l).take (k + 1), gw b w = true) ∧ ∃ u v, τ = [.val (.int b), .val (.str (st l)), .own (L (((spl l).take (k + 1)).map fun w => ((dval w : Nat) : Int)).reverse), u, v] | .brk => False | .ret d fr => retPost K (.ret d fr) τ) σ := by
      rintro g1 g2 σ rfl
      walk_at "w"
      refine ⟨fun j σ => (∀ c ∈ w.take j, isDig c = true) ∧ ∃ v, σ = [.val (.int b), .val (.str (st l)), .own (L (((spl l).take k).map fun w => ((dval w : Nat) : Int)).reverse), .val (.str (st w)), v], ⟨by simp, _, rfl⟩, ?_, ?_⟩
      · rintro j σ d hd ⟨hda, v, rfl⟩
        obtain ⟨c, hc, rfl⟩ := chars_get hd
        walk_at "w"
        refine ⟨c, rfl, ?_⟩
        cases hq : isDig c with
        | true =>
          refine br_ff (by show (!([48, 49, 50, 51, 52, 53, 54, 55, 56, 57] : List Nat).contains c) = false; rw [ten_dig, hq]; rfl) ?_
          exact ⟨all_take' hda hc hq, _, rfl⟩
        | false =>
          refine br_tt (by show (!([48, 49, 50, 51, 52, 53, 54, 55, 56, 57] : List Nat).contains c) = true; rw [ten_dig, hq]; rfl) ?_
          refine no w hm ?_
          cases hg : gw b w with
          | false => rfl
          | true => have := (gw_parts.mp hg).2.2.1 c (mem_get hc); rw [hq] at this; cases this
      · rintro σ ⟨hda, v, rfl⟩
        have hda' : ∀ c ∈ w, isDig c = true := by
          have e : w.take (w.map fun c => PyData.str (st [c])).length = w := by simp
          exact e ▸ hda
        walk_at "w"
        refine ⟨g1, hTl, hda', ?_⟩
        walk_at "w"
        refine br_of (fun h3 => ?_) (fun h3 => ?_) <;> simp only [truth, decide_eq_true_eq, decide_eq_false_iff_not] at h3
        · refine no w hm ?_
          cases hg : gw b w with
          | false => rfl
          | true => have := (gw_parts.mp hg).2.2.2; exact absurd this (by replace h3 : b ≤ (dval w : Int) := h3; omega)
        · have hg : gw b w = true := gw_parts.mpr ⟨g1, g2, hda', by replace h3 : ¬ (b ≤ (dval w : Int)) := h3; omega⟩
          walk_at "w"
          refine ⟨g1, hTl, hda', ?_⟩
          walk_at "w"
          refine ⟨show 1 ≤ 2 ^ 24 by decide, ?_⟩
          walk_at "w"
          refine ⟨?_, ?_⟩
          · show 1 + (iz _).length ≤ 2 ^ 24; rw [ints_length]; simp; omega
          have e := take_snoc hw
          refine ⟨all_take'' ha hw hg, .val (.str (st w)), v, ?_⟩
          rw [e]
          have e2 : [PyData.int ((dval w : Nat) : Int)] ++ iz (((spl l).take k).map fun w => ((dval w : Nat) : Int)).reverse = iz (((dval w : Nat) : Int) :: (((spl l).take k).map fun w => ((dval w : Nat) : Int)).reverse) := rfl
          show asg _ 2 (.list ([PyData.int ((dval w : Nat) : Int)] ++ iz (((spl l).take k).map fun w => ((dval w : Nat) : Int)).reverse)) (cpF ([PyData.int ((dval w : Nat) : Int)] ++ iz (((spl l).take k).map fun w => ((dval w : Nat) : Int)).reverse) _) = _
          rw [e2, cpF_ints]
          rfl
    walk_at "w"
    refine ⟨okD_st hT, okD_st (l := []) (k := 0) ⟨by decide, by decide⟩, ?_⟩
    walk_at "w"
    refine br_of (fun h1 => ?_) (fun h1 => ?_) <;> rw [show (Str.mk #[]) = st [] from rfl, eqD_st] at h1 <;> simp only [truth, decide_eq_true_eq, decide_eq_false_iff_not] at h1
    · subst h1
      refine br_tt rfl ?_
      refine no [] hm rfl
    obtain ⟨c, hc, hh⟩ := head_get h1
    walk_at "w"
    refine strAt (w := w) 0 hc (by decide) ?_
    walk_at "w"
    refine ⟨okD_st (k := 1) ⟨Nat.le_refl 1, fun d hd => by rw [List.mem_singleton.mp hd]; exact hT.2 c (mem_get hc)⟩, okD_st Tex.one, ?_⟩
    walk_at "w"
    refine br_of (fun h2 => ?_) (fun h2 => ?_)
    · have h2' := h2
      rw [show (Str.mk #[48]) = st [48] from rfl, eqD_st] at h2'
      simp only [truth, decide_eq_true_eq] at h2'
      walk_at "w"
      refine ⟨okD_st hT, okD_st Tex.one, ?_⟩
      by_cases h48 : w = [48]
      · refine br_ff (by rw [show (Str.mk #[48]) = st [48] from rfl, eqD_st, decide_eq_true h48]; rfl) ?_
        exact rest h1 (.inr h48) _ rfl
      · refine br_tt (by rw [show (Str.mk #[48]) = st [48] from rfl, eqD_st, decide_eq_false h48]; rfl) ?_
        refine no w hm ?_
        cases hg : gw b w with
        | false => rfl
        | true =>
          rcases (gw_parts.mp hg).2.1 with q | q
          · exact absurd (by rw [hh]; simpa using h2') q
          · exact absurd q h48
    · have h2' := h2
      rw [show (Str.mk #[48]) = st [48] from rfl, eqD_st] at h2'
      simp only [truth, decide_eq_false_iff_not] at h2'
      refine br_ff h2 ?_
      exact rest h1 (.inl (by rw [hh]; simpa using h2')) _ rfl
  · rintro σ ⟨ha, u, v, rfl⟩
    rw [List.length_map] at ha ⊢
    rw [show (st l).cps.toList = l from rfl] at ha ⊢
    rw [List.take_length] at ha ⊢
    obtain ⟨w0, r0, hs⟩ := spl_cons l
    rw [rdl_good h0 hs ha] at hk
    rw [hs] at hsl ⊢
    have hne : ((w0 :: r0).map fun w => ((dval w : Nat) : Int)).reverse ≠ [] := by simp
    have hlast : ((w0 :: r0).map fun w => ((dval w : Nat) : Int)).reverse.getD (((w0 :: r0).map fun w => ((dval w : Nat) : Int)).reverse.length - 1) 0 = (dval w0 : Nat) := by
      simp [List.getD_eq_getElem?_getD]
    walk_at "w"
    refine idx_last hne (by simp at hsl ⊢; omega) ?_
    rw [hlast]
    walk_at "w"
    refine br_of (fun h1 => ?_) (fun h1 => ?_) <;> simp only [truth, decide_eq_true_eq, decide_eq_false_iff_not] at h1
    · rw [if_neg (by omega)] at hk
      exact hk
    · rw [if_pos (by omega)] at hk
      exact hk
end Mine
set_option Elab.async false
namespace Mine
open PySem
local macro_rules | `(tactic| walk_at "w") => `(tactic| conv => whnf)
local macro_rules | `(tactic| walk_at "same") => `(tactic| (conv => whnf); (refine ⟨by omega, _, _, rfl, by omega, ?_⟩); rw [decide_eq_true (by first | rfl | assumption)])

theorem Tex.take {k : Nat} {l : List Nat} (h : Tex k l) (j : Nat) : Tex k (l.take j) := ⟨by have := h.1; simp; omega, fun c hc => h.2 c (List.mem_of_mem_take hc)⟩
theorem Tex.drop {k : Nat} {l : List Nat} (h : Tex k l) (j : Nat) : Tex k (l.drop j) := ⟨by have := h.1; simp; omega, fun c hc => h.2 c (List.mem_of_mem_drop hc)⟩
theorem Tex.join3 {k : Nat} {l : List Nat} {c i j : Nat} (h : Tex k l) (hc : c < 128) (hij : i ≤ j) : Tex (k + 1) (l.take i ++ [c] ++ l.drop j) := by
  refine ⟨by have := h.1; simp; omega, fun d hd => ?_⟩
  rcases List.mem_append.mp hd with q | q
  · rcases List.mem_append.mp q with q | q
    · exact h.2 d (List.mem_of_mem_take q)
    · rw [List.mem_singleton.mp q]; exact hc
  · exact h.2 d (List.mem_of_mem_drop q)
theorem wr_len' {b : Int} {xs : List Int} (h : Row b xs) (hl : xs.length ≤ 90) : Tex 639 (wr xs) := ⟨by have := wr_len h; omega, wr_signs xs⟩

theorem rdl_len {b : Int} {l : List Nat} {r : List Int} (h : rdl b l = some r) (hl : l.length ≤ 640) : r.length ≤ 641 := by
  unfold rdl at h
  split at h
  · injection h with h; subst h; simp
  · split at h
    · injection h with h; subst h; have := (spl_len l).1; simp; omega
    · cases h
set_option maxHeartbeats 4000000 in
theorem t_law_13 {n : Nat} {ds K} (h : Φ (n + 1) 99 ds K) : wSs (Φ n) b_law_13 (retPost K) (startVars ds 12) := by
  obtain ⟨hn, ns, rfl, hl, hk⟩ := h
  walk_at "w"
  refine ⟨by omega, ns, 0, rfl, by omega, by omega, hl, fun c => ?_⟩
  walk_at "w"
  refine ⟨by omega, c, rfl, fun b b0 b1 => ?_⟩
  walk_at "w"
  refine ⟨by omega, ns, 1, b, 70, rfl, hl, by omega, by omega, b0, b1, by omega, by omega, fun xs hx hxl => ?_⟩
  have hT := wr_len' hx hxl
  have hTl := hT.1
  -- from the line on
  have last : ∀ (m f : D) (u v w : Cell) (l : List Nat) (q : Cell) (σ : Vars), Tex 640 l → σ = [.val (L ns), .val (.int b), .own (L xs), .val (.str (st (wr xs))), .own (L xs), .val f, q, .val (.str (st l)), .val m, u, v, w] →
      wSs (Φ n) (match b_law_13 with | .cons _ (.cons _ (.cons _ (.cons _ (.cons _ (.cons _ (.cons _ (.cons _ (.cons _ (.cons _ (.cons _ (.cons _ (.cons _ (.cons _ (.cons _ (.cons _ (.cons _ r)))))))))))))))) => r | _ => .nil) (retPost K) σ := by
    rintro m f u v w l q σ hT' rfl
    walk_at "w"
    refine ⟨by omega, b, l, rfl, b0, b1, hT', ?_⟩
    cases hr : rdl b l with
    | none =>
      walk_at "w"
      refine ⟨by omega, b, _, rfl, b0, b1, .inl ⟨l, rfl, hT', hr⟩, ?_⟩
      exact hk
    | some r =>
      walk_at "w"
      refine ⟨by omega, b, l, r, rfl, b0, b1, hT', hr, ?_⟩
      have := rdl_len hr hT'.1
      walk_at "w"
      refine ⟨by omega, r, r, rfl, by omega, ?_⟩
      rw [decide_eq_true rfl]
      exact hk
  -- from the copy on
  have mid : ∀ (σ : Vars), σ = [.val (L ns), .val (.int b), .own (L xs), .val (.str (st (wr xs))), .unset, .unset, .unset, .unset, .unset, .unset, .unset, .unset] →
      wSs (Φ n) (match b_law_13 with | .cons _ (.cons _ (.cons _ (.cons _ r))) => r | _ => .nil) (retPost K) σ := by
    rintro σ rfl
    walk_at "w"
    rw [cpF_ints]
    walk_at "w"
    refine ⟨by omega, b, xs, rfl, hx, by omega, ?_⟩
    walk_at "w"
    refine ⟨okD_st hT, okD_st hT, ?_⟩
    refine br_ff (by rw [eqD_st]; simp [truth]) ?_
    walk_at "w"
    refine ⟨okD_ints _ _, okD_ints _ _, ?_⟩
    refine br_ff (by rw [eqD_L]; simp [truth]) ?_
    walk_at "w"
    refine ⟨show 1 ≤ 2 ^ 24 by decide, ?_⟩
    walk_at "w"
    refine ⟨?_, ?_⟩
    · show (iz xs).length + 1 ≤ 2 ^ 24; rw [ints_length]; omega
    rw [show iz xs ++ [PyData.int 1] = iz (xs ++ [1]) by simp [iz]]
    refine ⟨by omega, b, xs ++ [1], rfl, hx.more (by omega), by simp; omega, ?_⟩
    walk_at "w"
    refine ⟨by decide, ?_⟩
    walk_at "w"
    refine ⟨okD_ints _ _, rfl, ?_⟩
    walk_at "w"
    rw [eqD_nil]
    -- after the test of the longer one
    have after : ∀ (σ : Vars), σ = [.val (L ns), .val (.int b), .own (L xs), .val (.str (st (wr xs))), .own (L xs), .val (.str (st (wr xs))), .unset, .unset, .unset, .unset, .unset, .unset] →
        wSs (Φ n) (match b_law_13 with | .cons _ (.cons _ (.cons _ (.cons _ (.cons _ (.cons _ (.cons _ (.cons _ r))))))) => r | _ => .nil) (retPost K) σ := by
      rintro σ rfl
      walk_at "w"
      refine ⟨by omega, b, xs, rfl, hx, by omega, ?_⟩
      walk_at "w"
      refine ⟨okD_st hT, okD_st hT, ?_⟩
      refine br_ff (by rw [eqD_st]; simp [truth]) ?_
      walk_at "w"
      refine ⟨by omega, b, wr xs, xs, rfl, b0, b1, hT.le (by omega), rdl_wr hx, ?_⟩
      walk_at "same"
      walk_at "w"
      refine ⟨rfl, rfl, ?_, ?_⟩
      · show (iz xs).length + 1 ≤ 2 ^ 24; rw [ints_length]; omega
      walk_at "w"
      refine ⟨by omega, b, wr xs, xs, rfl, b0, b1, hT.le (by omega), rdl_wr hx, ?_⟩
      walk_at "same"
      walk_at "w"
      refine ⟨by omega, ns, 8, rfl, by omega, by omega, hl, fun c₈ => ?_⟩
      walk_at "w"
      refine ⟨by decide, ?_⟩
      walk_at "w"
      refine br_of (fun h1 => ?_) (fun h1 => ?_)
      · walk_at "w"
        refine ⟨by decide, ?_⟩
        walk_at "w"
        refine ⟨by decide, ?_⟩
        walk_at "w"
        refine ⟨by decide, ?_⟩
        walk_at "w"
        refine ⟨by omega, ns, 8, rfl, by omega, by omega, hl, fun c₈' => ?_⟩
        walk_at "w"
        refine ⟨by decide, ?_⟩
        walk_at "w"
        refine ⟨by decide, ?_⟩
        walk_at "w"
        refine listAny rfl (by decide) (by decide) fun x hx => ?_
        have hs : isTy .str x = false := by
          simp only [List.mem_cons, List.not_mem_nil, or_false] at hx
          rcases hx with rfl | rfl | rfl | rfl | rfl <;> rfl
        refine ⟨by omega, b, x, rfl, b0, b1, .inr hs, ?_⟩
        exact hk
      walk_at "w"
      refine ⟨by omega, ns, b, rfl, hl, b0, b1, fun l hl' => ?_⟩
      walk_at "w"
      refine ⟨by omega, ns, 9, rfl, by omega, by omega, hl, fun c₉ => ?_⟩
      walk_at "w"
      refine ⟨by decide, ?_⟩
      walk_at "w"
      refine br_of (fun h2 => ?_) (fun h2 => ?_)
      · walk_at "w"
        refine ⟨by decide, ?_⟩
        walk_at "w"
        refine ⟨by show ((wr xs).length : Int) + 1 ≠ 0; omega, ?_⟩
        have g0 := Int.emod_nonneg (c₉.fdiv 3) (show ((wr xs).length : Int) + 1 ≠ 0 by omega)
        have g1 := Int.emod_lt_of_pos (c₉.fdiv 3) (show 0 < ((wr xs).length : Int) + 1 by omega)
        rw [← fmod_eq (by omega)] at g0 g1
        walk_at "w"
        refine ⟨by decide, ?_⟩
        walk_at "w"
        refine ⟨by show ((wr xs).length : Int) + 1 ≠ 0; omega, ?_⟩
        walk_at "w"
        refine ⟨by omega, _, rfl, fun sg hsg => ?_⟩
        rw [show ((st (wr xs)).cps.size : Int) = ((wr xs).length : Int) from rfl]
        generalize (c₉.fdiv 3).fmod (((wr xs).length : Int) + 1) = at' at *
        walk_at "w"
        have ec : cut (wr xs).length at' = at'.toNat := by simp only [cut]; rw [if_neg (by omega)]
        refine ⟨?_, ?_⟩
        · show ((wr xs).take (cut (wr xs).length at')).length + 1 ≤ 2 ^ 24; simp; omega
        walk_at "w"
        refine ⟨by omega, ns, 10, rfl, by omega, by omega, hl, fun c₁₀ => ?_⟩
        walk_at "w"
        refine ⟨by decide, ?_⟩
        have k0 := Int.emod_nonneg c₁₀ (show (2 : Int) ≠ 0 by decide)
        have k1 := Int.emod_lt_of_pos c₁₀ (show (0 : Int) < 2 by decide)
        rw [← fmod_eq (by decide)] at k0 k1
        generalize c₁₀.fmod 2 = e at *
        have ec' : cut (wr xs).length (at' + e) = (at' + e).toNat := by simp only [cut]; rw [if_neg (by omega)]
        walk_at "w"
        refine ⟨?_, ?_⟩
        · show ((wr xs).take (cut (wr xs).length at') ++ [sg]).length + ((wr xs).drop (cut (wr xs).length (at' + e))).length ≤ 2 ^ 24; simp; omega
        refine last _ _ _ _ _ ((wr xs).take (cut (wr xs).length at') ++ [sg] ++ (wr xs).drop (cut (wr xs).length (at' + e))) _ _ ?_ rfl
        rw [ec, ec']
        exact hT.join3 hsg (by omega)
      · exact last _ _ _ _ _ l _ _ (hl'.le (by omega)) rfl
    by_cases h0 : xs = []
    · subst h0
      refine ⟨by decide, by decide, by decide, ?_⟩
      walk_at "w"
      refine ⟨by decide, ?_⟩
      walk_at "w"
      refine ⟨rfl, rfl, ?_⟩
      walk_at "w"
      refine ⟨by decide, by decide, by decide, ?_⟩
      walk_at "w"
      refine ⟨by decide, ?_⟩
      walk_at "w"
      refine ⟨by decide, ?_⟩
      walk_at "w"
      refine ⟨rfl, rfl, ?_⟩
      walk_at "w"
      refine ⟨by decide, by decide, by decide, ?_⟩
      walk_at "w"
      refine ⟨by decide, ?_⟩
      refine ⟨okD_st (l := wr ([] ++ [1])) (k := 10) ⟨by decide, by decide⟩, (show okD 8 (.str (st [49])) = true from okD_st (k := 1) ⟨by decide, by decide⟩), ?_⟩
      refine br_ff (by show truth (.bool (!eqD (.str (st [49])) (.str (st [49])))) = false; rw [eqD_st]; rfl) ?_
      exact after _ rfl
    · rw [decide_eq_false h0]
      have hT2 : Tex 641 (49 :: 46 :: wr xs) := (show Tex 2 [49, 46] from ⟨by decide, by decide⟩).append hT |>.le (by omega)
      refine ⟨by decide, by decide, by decide, ?_⟩
      walk_at "w"
      refine ⟨by decide, ?_⟩
      walk_at "w"
      refine ⟨okD_ints _ _, rfl, ?_⟩
      walk_at "w"
      rw [eqD_nil, decide_eq_false h0]
      refine ⟨by decide, by decide, by decide, ?_⟩
      walk_at "w"
      refine ⟨by decide, ?_⟩
      walk_at "w"
      refine ⟨by decide, ?_⟩
      walk_at "w"
      refine ⟨okD_ints _ _, rfl, ?_⟩
      walk_at "w"
      rw [eqD_nil, decide_eq_false h0]
      refine ⟨by decide, by decide, show (wr xs).length ≤ 1000 by omega, ?_⟩
      walk_at "w"
      refine ⟨?_, ?_⟩
      · show 2 + (wr xs ++ []).length ≤ 2 ^ 24; simp; omega
      walk_at "w"
      refine ⟨?_, ?_, ?_⟩
      · rw [wr_more h0]; exact okD_st hT2
      · show okD 8 (.str (st (49 :: 46 :: (wr xs ++ [])))) = true
        rw [List.append_nil]; exact okD_st hT2
      refine br_ff (by show truth (.bool (!eqD (.str (st (wr (xs ++ [1])))) (.str (st (49 :: 46 :: (wr xs ++ []))))) ) = false; rw [eqD_st, wr_more h0, List.append_nil]; simp [truth]) ?_
      exact after _ rfl
  walk_at "w"
  refine ⟨by decide, ?_⟩
  walk_at "w"
  refine ⟨okD_ints _ _, rfl, ?_⟩
  by_cases h0 : xs = []
  · subst h0
    refine br_ff rfl ?_
    exact mid _ rfl
  · refine br_tt (by rw [eqD_nil, decide_eq_false h0]; rfl) ?_
    walk_at "w"
    refine ⟨xs, rfl, h0, by omega, fun m hm => ?_, ?_⟩
    · have := hx.figs m hm; unfold Fig at *; omega
    · refine mid _ ?_
      unfold wr; rw [if_neg h0]; rfl
end Mine
set_option Elab.async false
set_option maxRecDepth 100000
namespace Mine
open PySem PySem.Calls PyProof.Rows

noncomputable def Ext (h h' : Heap) : Prop := ∀ b o, h.get? b = some o → h'.get? b = some o ∨ ((∀ vs, o.data ≠ .fields vs) ∧ ∃ sl, h'.get? b = some { o with slots := sl })

theorem Ext.refl (h : Heap) : Ext h h := fun _ _ e => .inl e
theorem Ext.of_keep {h h' : Heap} (k : ∀ b o, h.get? b = some o → h'.get? b = some o) : Ext h h' := fun b o e => .inl (k b o e)
theorem Ext.trans {h₁ h₂ h₃ : Heap} (x : Ext h₁ h₂) (y : Ext h₂ h₃) : Ext h₁ h₃ := by
  intro b o e
  rcases x b o e with e | ⟨hd, sl, e⟩
  · exact y b o e
  · rcases y b _ e with e' | ⟨_, sl', e'⟩
    · exact .inr ⟨hd, sl, e'⟩
    · exact .inr ⟨hd, sl', e'⟩
theorem Ext.push (h : Heap) (o : Obj) : Ext h (h.push o) := .of_keep fun _ _ e => Heap.get?_push_of_some o e
theorem Ext.fresh {h h' : Heap} (x : Ext h h') {a : Addr} (e : h'.get? a = none) : h.get? a = none := by
  cases hq : h.get? a with
  | none => rfl
  | some o => rcases x a o hq with q | ⟨_, _, q⟩ <;> rw [q] at e <;> cases e
theorem Ext.soft {h h' : Heap} (x : Ext h h') {b : Addr} {o : Obj} (e : h.get? b = some o) : ∃ sl, h'.get? b = some { o with slots := sl } := by
  rcases x b o e with q | ⟨_, sl, q⟩
  · exact ⟨o.slots, q⟩
  · exact ⟨sl, q⟩
theorem fresh_size (h : Heap) : h.get? h.objs.size = none := by
  cases hq : h.get? h.objs.size with
  | none => rfl
  | some o => exact absurd (Heap.lt_size hq) (Nat.lt_irrefl _)

theorem Ext.ns {h h' : Heap} (x : Ext h h') {a : Addr} {m : Str → Option Value} (e : h.Ns a m) : h'.Ns a m := by
  obtain ⟨o, es, ep, ho, hd, r⟩ := e
  rcases x a o ho with q | ⟨_, sl, q⟩
  · exact ⟨o, es, ep, q, hd, r⟩
  · exact ⟨_, es, ep, q, hd, r⟩

mutual
inductive Rp (h : Heap) : Value → D → List Addr → Prop
  | none : Rp h .none .none []
  | bool (b) : Rp h (.bool b) (.bool b) []
  | int (i t) : Rp h (.int i t) (.int i) []
  | str (x : Str) (t : Tok) : x.cps.size ≤ sizeLine → Rp h (.str x t) (.str x) []
  | list {a o vs n xs as} : h.get? a = some o → o.cls = .type "list" → o.dict = none → o.data = .seq vs n → vs.size ≤ sizeLine → Rps h vs.toList xs as → Rp h (.ref a) (.list xs) (a :: as)
  | tuple {a o vs n xs as} : h.get? a = some o → o.cls = .type "tuple" → o.dict = none → o.data = .seq vs n → vs.size ≤ sizeLine → Rps h vs.toList xs as → Rp h (.ref a) (.tuple xs) as
inductive Rps (h : Heap) : List Value → List D → List Addr → Prop
  | nil : Rps h [] [] []
  | cons {v vs d ds as bs} : Rp h v d as → Rps h vs ds bs → Rps h (v :: vs) (d :: ds) (as ++ bs)
end

mutual
theorem Rp.reads {h : Heap} : ∀ {v d as}, Rp h v d as → Reads h v d as
  | _, _, _, .none => .none
  | _, _, _, .bool b => .bool b
  | _, _, _, .int i t => .int i t
  | _, _, _, .str x t _ => .str x t
  | _, _, _, .list e c _ d _ r => .list e c d (Rps.reads r)
  | _, _, _, .tuple e c _ d _ r => .tuple e c d (Rps.reads r)
theorem Rps.reads {h : Heap} : ∀ {vs ds as}, Rps h vs ds as → ReadsAll h vs ds as
  | _, _, _, .nil => .nil
  | _, _, _, .cons a b => .cons (Rp.reads a) (Rps.reads b)
end

mutual
theorem Rp.mem {h : Heap} : ∀ {v d as}, Rp h v d as → ∀ a ∈ as, ∃ o vs n, h.get? a = some o ∧ o.cls = .type "list" ∧ o.dict = none ∧ o.data = .seq vs n ∧ vs.size ≤ sizeLine
  | _, _, _, .none, _, ha => nomatch ha
  | _, _, _, .bool _, _, ha => nomatch ha
  | _, _, _, .int _ _, _, ha => nomatch ha
  | _, _, _, .str _ _ _, _, ha => nomatch ha
  | _, _, _, .list e c di d sz r, a, ha => by
    rcases List.mem_cons.mp ha with rfl | ha
    · exact ⟨_, _, _, e, c, di, d, sz⟩
    · exact Rps.mem r a ha
  | _, _, _, .tuple _ _ _ _ _ r, a, ha => Rps.mem r a ha
theorem Rps.mem {h : Heap} : ∀ {vs ds as}, Rps h vs ds as → ∀ a ∈ as, ∃ o vs n, h.get? a = some o ∧ o.cls = .type "list" ∧ o.dict = none ∧ o.data = .seq vs n ∧ vs.size ≤ sizeLine
  | _, _, _, .nil, _, ha => nomatch ha
  | _, _, _, .cons x y, a, ha => by
    rcases List.mem_append.mp ha with ha | ha
    · exact Rp.mem x a ha
    · exact Rps.mem y a ha
end

noncomputable def StayBut (S : Addr → Prop) (h h' : Heap) : Prop :=
  (∀ b o, h.get? b = some o → ¬ S b → h'.get? b = some o ∨ ((∀ vs, o.data ≠ .fields vs) ∧ ∃ sl, h'.get? b = some { o with slots := sl })) ∧ ∀ b o, S b → h.get? b = some o → o.cls ≠ .type "tuple" ∨ ∀ vs n, o.data ≠ .seq vs n

theorem Ext.stay {h h' : Heap} (x : Ext h h') : StayBut (fun _ => False) h h' := ⟨fun b o e _ => x b o e, fun _ _ f => f.elim⟩

mutual
theorem Rp.stay {S : Addr → Prop} {h h' : Heap} (k : StayBut S h h') : ∀ {v d as}, Rp h v d as → (∀ a ∈ as, ¬ S a) → Rp h' v d as
  | _, _, _, .none, _ => .none
  | _, _, _, .bool b, _ => .bool b
  | _, _, _, .int i t, _ => .int i t
  | _, _, _, .str x t z, _ => .str x t z
  | _, _, _, .list e c di d sz r, hn => by
    rcases k.1 _ _ e (hn _ (.head _)) with q | ⟨_, sl, q⟩
    · exact .list q c di d sz (Rps.stay k r fun a ha => hn a (.tail _ ha))
    · exact .list q c di d sz (Rps.stay k r fun a ha => hn a (.tail _ ha))
  | _, _, _, .tuple (a := a) e c di d sz r, hn => by
    have hs : ¬ S a := fun hs => by
      rcases k.2 _ _ hs e with q | q
      · exact q c
      · exact q _ _ d
    rcases k.1 _ _ e hs with q | ⟨_, sl, q⟩
    · exact .tuple q c di d sz (Rps.stay k r hn)
    · exact .tuple q c di d sz (Rps.stay k r hn)
theorem Rps.stay {S : Addr → Prop} {h h' : Heap} (k : StayBut S h h') : ∀ {vs ds as}, Rps h vs ds as → (∀ a ∈ as, ¬ S a) → Rps h' vs ds as
  | _, _, _, .nil, _ => .nil
  | _, _, _, .cons x y, hn => .cons (Rp.stay k x fun a ha => hn a (List.mem_append_left _ ha)) (Rps.stay k y fun a ha => hn a (List.mem_append_right _ ha))
end
theorem Rp.ext {h h' : Heap} (x : Ext h h') {v d as} (r : Rp h v d as) : Rp h' v d as := Rp.stay x.stay r fun _ _ f => f
theorem Rps.ext {h h' : Heap} (x : Ext h h') {vs ds as} (r : Rps h vs ds as) : Rps h' vs ds as := Rps.stay x.stay r fun _ _ f => f

theorem Rps.length {h : Heap} : ∀ {vs ds as}, Rps h vs ds as → vs.length = ds.length
  | _, _, _, .nil => rfl
  | _, _, _, .cons _ y => by simp [Rps.length y]

theorem Rps.get {h : Heap} : ∀ {vs ds as}, Rps h vs ds as → ∀ {i : Nat} {d : D}, ds[i]? = some d → ∃ v bs, vs[i]? = some v ∧ Rp h v d bs ∧ List.Sublist bs as
  | _, _, _, .nil, i, d, e => by simp at e
  | _, _, _, .cons x y, 0, d, e => by
    simp only [List.getElem?_cons_zero, Option.some.injEq] at e
    subst e
    exact ⟨_, _, rfl, x, List.sublist_append_left _ _⟩
  | _, _, _, .cons x y, i + 1, d, e => by
    simp only [List.getElem?_cons_succ] at e
    obtain ⟨v, bs, h1, h2, h3⟩ := Rps.get y e
    exact ⟨v, bs, by simpa using h1, h2, h3.trans (List.sublist_append_right _ _)⟩

theorem Rp.imm {h : Heap} {v d as} (r : Rp h v d as) (hi : Mine.imm d = true) : as = [] := by
  cases r <;> first | rfl | cases hi
theorem Rp.anywhere {h h' : Heap} {v d as} (r : Rp h v d as) (hi : Mine.imm d = true) : Rp h' v d [] := by
  cases r <;> first | exact .none | exact .bool _ | exact .int _ _ | exact .str _ _ (by assumption) | cases hi
theorem Rps.flat {h : Heap} : ∀ {vs ds as}, Rps h vs ds as → Mine.flat ds = true → as = []
  | _, _, _, .nil, _ => rfl
  | _, _, _, .cons x y, hf => by
    simp only [Mine.flat, List.all_cons, Bool.and_eq_true] at hf
    rw [Rp.imm x hf.1, Rps.flat y hf.2]; rfl

theorem Rps.append {h : Heap} : ∀ {vs ds as ws es bs}, Rps h vs ds as → Rps h ws es bs → Rps h (vs ++ ws) (ds ++ es) (as ++ bs)
  | _, _, _, _, _, _, .nil, y => y
  | _, _, _, _, _, _, .cons x r, y => by
    rw [List.append_assoc]
    exact .cons x (Rps.append r y)

theorem Rps.sub {h : Heap} : ∀ {vs ds as}, Rps h vs ds as → ∀ i j, ∃ bs, Rps h ((vs.drop i).take j) ((ds.drop i).take j) bs ∧ List.Sublist bs as
  | _, _, _, .nil, i, j => ⟨[], by simpa using Rps.nil, List.Sublist.refl _⟩
  | _, _, _, .cons x y, 0, 0 => ⟨[], by simpa using Rps.nil, List.nil_sublist _⟩
  | _, _, _, .cons x y, 0, j + 1 => by
    obtain ⟨bs, h1, h2⟩ := Rps.sub y 0 j
    simp only [List.drop_zero] at h1
    exact ⟨_, by simpa using Rps.cons x h1, List.Sublist.append (List.Sublist.refl _) h2⟩
  | _, _, _, .cons x y, i + 1, j => by
    obtain ⟨bs, h1, h2⟩ := Rps.sub y i j
    exact ⟨bs, by simpa using h1, h2.trans (List.sublist_append_right _ _)⟩

theorem Rps.reverse {h : Heap} : ∀ {vs ds as}, Rps h vs ds as → ∃ bs, Rps h vs.reverse ds.reverse bs ∧ ∀ a, a ∈ bs ↔ a ∈ as
  | _, _, _, .nil => ⟨[], .nil, fun _ => Iff.rfl⟩
  | _, _, _, .cons (as := as) (bs := bs) x y => by
    obtain ⟨cs, h1, h2⟩ := Rps.reverse y
    refine ⟨cs ++ (as ++ []), ?_, fun a => ?_⟩
    · simp only [List.reverse_cons]
      exact Rps.append h1 (.cons x .nil)
    · simp only [List.append_nil, List.mem_append, h2]
      exact Or.comm

theorem Rp.type {s : Shared} {d : D} {v : Value} {as : List Addr} (r : Rp s.heap v d as) : s.TypeIs v (match d with | .none => "NoneType" | .bool _ => "bool" | .int _ => "int" | .str _ => "str" | .list _ => "list" | .tuple _ => "tuple" | .dict _ => "dict") := by
  cases r with
  | none => rfl
  | bool b => rfl
  | int i t => rfl
  | str x t z => rfl
  | list e c => exact ⟨_, e, c⟩
  | tuple e c => exact ⟨_, e, c⟩
end Mine
set_option Elab.async false
set_option maxRecDepth 100000
namespace Mine
open PySem PySem.Calls PyProof.Rows

structure Gx where
  p : Program
  w : World
  base : Heap
  mg : Str → Option Value
  mb : Str → Option Value

noncomputable def bltTab : List (Str × Value) := [("len", .builtin "len"), ("isinstance", .builtin "isinstance"), ("int", .type "int"), ("bool", .type "bool"), ("list", .type "list"),
  ("tuple", .type "tuple"), ("str", .type "str"), ("max", .builtin "max"), ("min", .builtin "min"), ("range", .type "range"), ("reversed", .type "reversed"), ("enumerate", .type "enumerate"), ("ValueError", .type "ValueError")]

structure Gd (g : Gx) : Prop where
  glb : g.base.Ns mainGlobals g.mg
  bns : g.base.Ns builtinsNs g.mb
  nolimit : g.base.NoLimit
  noseer : g.base.NoSeer
  tree : g.p.given.tree = none
  blt : ∀ x v, (x, v) ∈ bltTab → g.mg x = none ∧ g.mb x = some v

noncomputable def Step (g : Gx) (s s' : Shared) : Prop := ∃ h' tk, s' = { s with heap := h', toks := tk } ∧ Ext s.heap h' ∧ g.base.StaysIn h'

theorem Step.refl {g : Gx} {s : Shared} (h : g.base.StaysIn s.heap) : Step g s s := ⟨s.heap, s.toks, rfl, .refl _, h⟩
theorem Step.trans {g : Gx} {s₁ s₂ s₃ : Shared} (x : Step g s₁ s₂) (y : Step g s₂ s₃) : Step g s₁ s₃ := by
  obtain ⟨h, tk, rfl, e, _⟩ := x
  obtain ⟨h', tk', rfl, e', b'⟩ := y
  exact ⟨h', tk', rfl, e.trans e', b'⟩
theorem Step.ext {g : Gx} {s s' : Shared} (x : Step g s s') : Ext s.heap s'.heap := by obtain ⟨h, tk, rfl, e, _⟩ := x; exact e
theorem Step.stays {g : Gx} {s s' : Shared} (x : Step g s s') : g.base.StaysIn s'.heap := by obtain ⟨h, tk, rfl, _, b⟩ := x; exact b
theorem Step.toks {g : Gx} {s s' : Shared} (x : Step g s s') (tk : Nat) : Step g s { s' with toks := tk } := by
  obtain ⟨h, tk', rfl, e, b⟩ := x
  exact ⟨h, tk, rfl, e, b⟩
theorem Step.keep {g : Gx} {s s' : Shared} (x : Step g s s') {h' : Heap} (k : ∀ b o, s'.heap.get? b = some o → h'.get? b = some o) (tk : Nat) : Step g s { s' with heap := h', toks := tk } := by
  obtain ⟨h, tk', rfl, e, b⟩ := x
  exact ⟨h', tk, rfl, e.trans (.of_keep k), fun a o q => k a o (b a o q)⟩
theorem Step.push {g : Gx} {s s' : Shared} (x : Step g s s') (o : Obj) : Step g s { s' with heap := s'.heap.push o } := x.keep (fun _ _ e => Heap.get?_push_of_some o e) s'.toks

structure Room (A : Around) (n : Nat) (fr : List Env) : Prop where
  frames : A.frames = some fr
  depth : A.depth + n + 150 < recursionLimit
  units : A.units + 8 * n + 300 < cLine
  handled : A.handled = none

noncomputable abbrev mkEnv (name : Str) (sc : Scope) (L fa : Addr) (cd : Value) (cl : List (Str × Addr)) : Env :=
  { scope := sc, locals := L, globals := mainGlobals, cells := cl, qual := name ++ ".<locals>.", func := some fa, code := cd, frame := some L, builtins := builtinsNs }

structure Fm where
  name : Str
  L : Addr
  fa : Addr
  cd : Value
  cl : List (Str × Addr)
  outer : List Env
  H : Addr → Option Obj

noncomputable abbrev Fm.env (F : Fm) (sc : Scope) : Env := mkEnv F.name sc F.L F.fa F.cd F.cl

noncomputable def VarIs (env : Env) (h : Heap) (x : Str) (v : Value) : Prop :=
  (env.kindOf x = some .local ∧ ∃ m, h.Ns env.locals m ∧ m x = some v) ∨
  (env.kindOf x = some .cell ∧ ∃ c o, env.cells.lookup x = some c ∧ h.get? c = some o ∧ o.data = .cell (some v))

noncomputable def slots (sc : Scope) : List Str := (sc.names.filter fun p => p.2 == .local || p.2 == .cell).map (·.1)

structure Rel (g : Gx) (F : Fm) (sc : Scope) (h : Heap) (ρ : Vars) (fp : Nat → List Addr) : Prop where
  stays : g.base.StaysIn h
  held : ∀ b o, F.H b = some o → h.get? b = some o ∨ ((∀ vs, o.data ≠ .fields vs) ∧ ∃ sl, h.get? b = some { o with slots := sl })
  frames : h.FunFrames g.base (F.env sc :: F.outer)
  ns : ∃ m, h.Ns F.L m
  hL : F.H F.L = none
  cells : ∀ p ∈ F.cl, F.H p.2 = none ∧ g.base.get? p.2 = none ∧ ∃ o v, h.get? p.2 = some o ∧ o.data = .cell v
  cnd : (F.cl.map (·.2)).Nodup
  ccov : ∀ x, sc.names.lookup x = some .cell → ∃ c, F.cl.lookup x = some c
  len : ρ.length = (slots sc).length
  nd : (slots sc).Nodup
  vars : ∀ i d, (ρ[i]? = some (.val d) ∨ ρ[i]? = some (.own d)) → ∃ x v, (slots sc)[i]? = some x ∧ VarIs (F.env sc) h x v ∧ Rp h v d (fp i)
  nofp : ∀ i, (∀ d, ρ[i]? ≠ some (.val d) ∧ ρ[i]? ≠ some (.own d)) → fp i = []
  own : ∀ i d, ρ[i]? = some (.own d) → (fp i).Nodup ∧ (∀ a ∈ fp i, F.H a = none ∧ g.base.get? a = none) ∧ ∀ j, j ≠ i → ∀ a ∈ fp i, a ∉ fp j

theorem VarIs.ext {env : Env} {h h' : Heap} (x : Ext h h') {y : Str} {v : Value} (e : VarIs env h y v) : VarIs env h' y v := by
  rcases e with ⟨hk, m, hn, hv⟩ | ⟨hk, c, o, h1, h2, h3⟩
  · exact .inl ⟨hk, m, x.ns hn, hv⟩
  · obtain ⟨sl, q⟩ := x.soft h2; exact .inr ⟨hk, c, _, h1, q, h3⟩

theorem FunFrames.ext {h h' base : Heap} (x : Ext h h') {l : List Env} (hl : h.FunFrames base l) : h'.FunFrames base l :=
  hl.of_keeps fun b o ho _ => by
    rcases x b o ho with q | ⟨_, sl, q⟩
    · exact ⟨o, q, rfl⟩
    · exact ⟨_, q, rfl⟩

theorem Rel.ext {g : Gx} {F : Fm} {sc : Scope} {h h' : Heap} {ρ : Vars} {fp : Nat → List Addr} (R : Rel g F sc h ρ fp) (x : Ext h h') (hs : g.base.StaysIn h') : Rel g F sc h' ρ fp where
  stays := hs
  held := fun b o e => by
    rcases R.held b o e with q | ⟨hd, sl, q⟩
    · exact x b o q
    · rcases x b _ q with q' | ⟨_, sl', q'⟩
      · exact .inr ⟨hd, sl, q'⟩
      · exact .inr ⟨hd, sl', q'⟩
  frames := FunFrames.ext x R.frames
  ns := let ⟨m, e⟩ := R.ns; ⟨m, x.ns e⟩
  hL := R.hL
  cells := fun p hp => let ⟨a, b, o, v, e, d⟩ := R.cells p hp; let ⟨sl, q⟩ := x.soft e; ⟨a, b, _, v, q, d⟩
  cnd := R.cnd
  ccov := R.ccov
  len := R.len
  nd := R.nd
  vars := fun i d e => let ⟨y, v, a, b, c⟩ := R.vars i d e; ⟨y, v, a, b.ext x, c.ext x⟩
  nofp := R.nofp
  own := R.own

noncomputable def FgOk (ρ : Vars) (fp : Nat → List Addr) (h : Heap) (f : Fg) (as : List Addr) : Prop :=
  (∀ j d, ρ[j]? = some (.own d) → j ∉ f.u → ∀ a ∈ as, a ∉ fp j) ∧
  (f.sh = false → (∀ a ∈ as, h.get? a = none ∨ ∃ j ∈ f.u, a ∈ fp j) ∧ (f.u.Nodup → as.Nodup) ∧ ∀ j ∈ f.u, ∃ d, ρ[j]? = some (.own d))

theorem FgOk.nil {ρ : Vars} {fp : Nat → List Addr} {h : Heap} {f : Fg} (hu : f.sh = false → f.u = []) : FgOk ρ fp h f [] :=
  ⟨fun _ _ _ _ _ ha => (nomatch ha), fun hs => ⟨fun _ ha => (nomatch ha), fun _ => List.nodup_nil, fun j hj => by rw [hu hs] at hj; cases hj⟩⟩
theorem FgOk.ff {ρ : Vars} {fp : Nat → List Addr} {h : Heap} : FgOk ρ fp h ff [] := .nil fun _ => rfl

theorem Rel.fp_there {g : Gx} {F : Fm} {sc : Scope} {h : Heap} {ρ : Vars} {fp : Nat → List Addr} (R : Rel g F sc h ρ fp) (i : Nat) (a : Addr) (ha : a ∈ fp i) :
    ∃ o vs n, h.get? a = some o ∧ o.cls = .type "list" ∧ o.dict = none ∧ o.data = .seq vs n ∧ vs.size ≤ sizeLine := by
  by_cases hc : ∃ d, ρ[i]? = some (.val d) ∨ ρ[i]? = some (.own d)
  · obtain ⟨d, hd⟩ := hc
    obtain ⟨_, _, _, _, r⟩ := R.vars i d hd
    exact r.mem a ha
  · rw [R.nofp i fun d => ⟨fun q => hc ⟨d, .inl q⟩, fun q => hc ⟨d, .inr q⟩⟩] at ha
    cases ha

theorem FgOk.new {g : Gx} {F : Fm} {sc : Scope} {h : Heap} {ρ : Vars} {fp : Nat → List Addr} (R : Rel g F sc h ρ fp) {f : Fg} {as : List Addr} (hu : f.sh = false → f.u = [])
    (hn : ∀ a ∈ as, h.get? a = none) (hd : as.Nodup) : FgOk ρ fp h f as :=
  ⟨fun j d _ _ a ha q => (by obtain ⟨o, _, _, e, _⟩ := R.fp_there j a q; rw [hn a ha] at e; cases e),
   fun hs => ⟨fun a ha => .inl (hn a ha), fun _ => hd, fun j hj => by rw [hu hs] at hj; cases hj⟩⟩
theorem FgOk.back {ρ : Vars} {fp : Nat → List Addr} {h h' : Heap} (x : Ext h h') {f : Fg} {as : List Addr} (o : FgOk ρ fp h' f as) : FgOk ρ fp h f as :=
  ⟨o.1, fun hs => ⟨fun a ha => ((o.2 hs).1 a ha).imp x.fresh id, (o.2 hs).2⟩⟩
theorem FgOk.sub {ρ : Vars} {fp : Nat → List Addr} {h : Heap} {f : Fg} {as bs : List Addr} (o : FgOk ρ fp h f as) (k : List.Sublist bs as) : FgOk ρ fp h f bs :=
  ⟨fun j d hj hn a ha => o.1 j d hj hn a (k.subset ha), fun hs => ⟨fun a ha => (o.2 hs).1 a (k.subset ha), fun hn => ((o.2 hs).2.1 hn).sublist k, (o.2 hs).2.2⟩⟩

structure SpecF (g : Gx) (n : Nat) (name : Str) (ds : List D) (K : D → Bool → Prop) (fa : Addr) : Prop where
  named : g.mg name = some (.ref fa)
  fn : ∃ o fd, g.base.get? fa = some o ∧ o.data = .func fd
  run : ∀ (A : Around) (s : Shared) (vs : List Value) (as : List Addr) (outer : List Env) (Q E : Value → Shared → Prop), Room A n outer → g.base.StaysIn s.heap → s.heap.FunFrames g.base outer → Rps s.heap vs ds as →
    (∀ v s' d fr bs, K d fr → Step g s s' → Rp s'.heap v d bs → (fr = true → bs.Nodup ∧ ∀ a ∈ bs, s.heap.get? a = none) → Q v s') →
    wpAny (model g.p g.w) A (call (.ref fa) vs) Q E s

noncomputable def strip (h : Heap) : List Addr → Heap
  | [] => h
  | a :: l => (strip h l).update a fun o => { o with data := .freed }
structure IsExc (g : Gx) (x : Str) (C : Addr) : Prop where
  own : OwnClsQ x C [.type "ValueError", .type "Exception", .type "BaseException", .type "object"] "ValueError.__new__" g.mg g.base
  row : ∃ R o cd, OwnClsQ ("RowError" : Str) R [.type "ValueError", .type "Exception", .type "BaseException", .type "object"] "ValueError.__new__" g.mg g.base ∧ g.base.get? C = some o ∧ o.data = .cls cd ∧ cd.mro.contains (.ref R) = true

noncomputable def gone (g : Gx) (l : List Env) (h : Heap) : Heap := strip h (l.filterMap (·.frame) ++ (List.range h.objs.size).filter fun a => (g.base.get? a).isNone && (match h.get? a with | some o => (match o.data with | .fields _ => false | _ => true) | none => false))

noncomputable def Later (s s' : Shared) : Prop := ∃ h' tk, s' = { s with heap := h', toks := tk }
structure SpecX (g : Gx) (n : Nat) (name : Str) (ds : List D) (x : Str) (fa : Addr) : Prop where
  named : g.mg name = some (.ref fa)
  run : ∀ (A : Around) (s : Shared) (vs : List Value) (as : List Addr) (outer : List Env) (C : Addr) (Q E : Value → Shared → Prop), Room A n outer → g.base.StaysIn s.heap → s.heap.FunFrames g.base outer → Rps s.heap vs ds as → IsExc g x C →
    (∀ e a0 s', Later s s' → Heap.FlyingW (gone g outer s.heap) outer e (.ref C) a0 s'.heap → s.heap.UpToSlots s'.heap → E (.ref e) s') →
    wpAny (model g.p g.w) A (call (.ref fa) vs) Q E s

noncomputable def Spec (fname : Nat → Str) (g : Gx) (n f : Nat) (ds : List D) (K : D → Bool → Prop) : Prop :=
  if 1000 ≤ f then ∃ i t, g.mg (fname f) = some (.int i t) ∧ ds = [] ∧ K (.int i) true
  else if 500 ≤ f then ∃ (c : Nat) (C fa : Addr), K (.int (c : Int)) true ∧ IsExc g (fname c) C ∧ SpecX g n (fname (f - 500)) ds (fname c) fa
  else ∃ fa, SpecF g n (fname f) ds K fa

structure At (fname : Nat → Str) (g : Gx) (Φ : Calls) (n : Nat) (F : Fm) (sc : Scope) (A : Around) (s : Shared) (ρ : Vars) (fp : Nat → List Addr) : Prop where
  gd : Gd g
  fns : ∀ f ds K, Φ f ds K → Spec fname g n f ds K
  named : ∀ f, f < 1000 → fname f ≠ Str.empty → ∃ fa o fd, g.mg (fname f) = some (.ref fa) ∧ g.base.get? fa = some o ∧ o.data = .func fd
  kind : sc.kind = .function
  plain : sc.isGenerator = false ∧ sc.isCoroutine = false
  room : Room A n (F.env sc :: F.outer)
  rel : Rel g F sc s.heap ρ fp

section
variable {fname : Nat → Str} {g : Gx} {Φ : Calls} {n : Nat} {F : Fm} {sc : Scope} {A : Around} {s s' : Shared} {ρ : Vars} {fp : Nat → List Addr}
theorem At.step (T : At fname g Φ n F sc A s ρ fp) (x : Step g s s') : At fname g Φ n F sc A s' ρ fp := ⟨T.gd, T.fns, T.named, T.kind, T.plain, T.room, T.rel.ext x.ext x.stays⟩
theorem At.here (T : At fname g Φ n F sc A s ρ fp) : Step g s s := .refl T.rel.stays
end

noncomputable def SemE (fname : Nat → Str) (sc : Scope) (e : Expr) (x : X) : Prop :=
  ∀ (g : Gx) (Φ : Calls) (n : Nat) (F : Fm) (A : Around) (s : Shared) (ρ : Vars) (fp : Nat → List Addr) (K : D → Fg → Prop) (Q E : Value → Shared → Prop),
    At fname g Φ n F sc A s ρ fp → wE Φ ρ x K →
    (∀ v s' d f as, K d f → Step g s s' → Rp s'.heap v d as → FgOk ρ fp s.heap f as → Q v s') →
    wpAny (model g.p g.w) A (eval e (F.env sc)) Q E s

noncomputable def SemT (fname : Nat → Str) (sc : Scope) (e : Expr) (x : X) : Prop :=
  ∀ (g : Gx) (Φ : Calls) (n : Nat) (F : Fm) (A : Around) (s : Shared) (ρ : Vars) (fp : Nat → List Addr) (K : Bool → Prop) (Q : Bool → Shared → Prop) (E : Value → Shared → Prop),
    At fname g Φ n F sc A s ρ fp → wE Φ ρ x (fun d _ => K (truth d)) →
    (∀ b s', K b → Step g s s' → Q b s') →
    wpAny (model g.p g.w) A (isTrue e (F.env sc) (eval e (F.env sc))) Q E s

noncomputable def SemL (fname : Nat → Str) (sc : Scope) (es : List Expr) (xs : Xs) : Prop :=
  ∀ (g : Gx) (Φ : Calls) (n : Nat) (F : Fm) (A : Around) (s : Shared) (ρ : Vars) (fp : Nat → List Addr) (pos : Pos) (K : List D → Fg → Prop) (Q : List Value → Shared → Prop) (E : Value → Shared → Prop),
    At fname g Φ n F sc A s ρ fp → wL Φ ρ xs K →
    (∀ vs s' ds f as, K ds f → Step g s s' → Rps s'.heap vs ds as → FgOk ρ fp s.heap f as → Q vs s') →
    wpAny (model g.p g.w) A (spliced (backTo pos (starEach es (F.env sc)))) Q E s
end Mine
set_option Elab.async false
set_option maxRecDepth 100000
namespace Mine
open PySem PySem.Calls PyProof.Rows

section
variable {fname : Nat → Str} {g : Gx} {Φ : Calls} {n : Nat} {F : Fm} {sc : Scope} {A : Around} {s s' : Shared} {ρ : Vars} {fp : Nat → List Addr}

theorem sem_var {x : Str} {pos : Pos} {i : Nat} (hi : (slots sc)[i]? = some x) (hd : (x == ("__debug__" : Str)) = false) : SemE fname sc (.Name x pos) (.var i) := by
  intro g Φ n F A s ρ fp K Q E T h hQ
  conv at h => whnf
  have go : ∀ d f, (ρ[i]? = some (.val d) ∨ ρ[i]? = some (.own d)) → K d f → FgOk ρ fp s.heap f (fp i) → wpAny (model g.p g.w) A (eval (.Name x pos) (F.env sc)) Q E s := by
    intro d f hc hk hf
    obtain ⟨y, v, hy, hv, r⟩ := T.rel.vars i d hc
    rw [hi] at hy
    cases hy
    have q := hQ v s d f (fp i) hk T.here r hf
    rcases hv with ⟨hl, m, hn, hm⟩ | ⟨hl, c, o, h1, h2, h3⟩
    · exact wpAny_Name (wpAny_loadName_local T.kind hl hn hm q) hd
    · exact wpAny_Name (wpAny_loadName_cell T.kind hl h1 ⟨o, h2, h3⟩ q) hd
  split at h
  · rename_i d hc
    refine go d _ (.inl hc) h ⟨fun j e hj _ a ha q => ?_, fun hs => ?_⟩
    · by_cases hij : j = i
      · subst hij; rw [hc] at hj; cases hj
      · exact (T.rel.own j e hj).2.2 i (Ne.symm hij) a q ha
    · have hi : imm d = true := by simpa using hs
      obtain ⟨_, _, _, _, r⟩ := T.rel.vars i d (.inl hc)
      rw [r.imm hi]
      exact ⟨fun _ ha => (nomatch ha), fun _ => List.nodup_nil, fun _ hj => (nomatch hj)⟩
  · rename_i d hc
    refine go d _ (.inr hc) h ⟨fun j e hj hn a ha q => ?_, fun _ => ⟨fun a ha => ?_, fun _ => (T.rel.own i d hc).1, fun j hj => ?_⟩⟩
    · by_cases hij : j = i
      · subst hij
        by_cases hm : imm d = true
        · obtain ⟨_, _, _, _, r⟩ := T.rel.vars j d (.inr hc)
          rw [r.imm hm] at ha; cases ha
        · simp [hm] at hn
      · exact (T.rel.own j e hj).2.2 i (Ne.symm hij) a q ha
    · by_cases hm : imm d = true
      · obtain ⟨_, _, _, _, r⟩ := T.rel.vars i d (.inr hc)
        rw [r.imm hm] at ha; cases ha
      · exact .inr ⟨i, by simp [hm], ha⟩
    · by_cases hm : imm d = true
      · simp [hm] at hj
      · simp [hm] at hj; subst hj; exact ⟨d, hc⟩
  · exact h.elim

theorem sem_int {i : Int} {k : Nat} {pos : Pos} : SemE fname sc (.Constant (.int i) k pos) (.int i) := by
  intro g Φ n F A s ρ fp K Q E T h hQ
  conv at h => whnf
  exact wpAny_Constant_int (hQ _ _ _ _ [] h (T.here.toks _) (.int _ _) .ff)
theorem sem_str {x : Str} {k : Nat} {pos : Pos} (hz : x.cps.size ≤ sizeLine) : SemE fname sc (.Constant (.str x) k pos) (.str x) := by
  intro g Φ n F A s ρ fp K Q E T h hQ
  conv at h => whnf
  exact wpAny_Constant_str (hQ _ _ _ _ [] h (T.here.toks _) (.str _ _ hz) .ff)
theorem sem_bool {b : Bool} {k : Nat} {pos : Pos} : SemE fname sc (.Constant (.bool b) k pos) (.bool b) := by
  intro g Φ n F A s ρ fp K Q E T h hQ
  conv at h => whnf
  exact wpAny_Constant_bool (hQ _ _ _ _ [] h T.here (.bool _) .ff)
theorem sem_none {k : Nat} {pos : Pos} : SemE fname sc (.Constant .none k pos) .none := by
  intro g Φ n F A s ρ fp K Q E T h hQ
  conv at h => whnf
  exact wpAny_Constant_none (hQ _ _ _ _ [] h T.here .none .ff)

theorem sem_glob {x : Str} {pos : Pos} {i : Nat} (hx : sc.names.lookup x = some .globalImplicit) (hn : fname (1000 + i) = x) (hd : (x == ("__debug__" : Str)) = false) : SemE fname sc (.Name x pos) (.glob i) := by
  intro g Φ n F A s ρ fp K Q E T h hQ
  conv at h => whnf
  have q := T.fns _ _ _ h
  unfold Spec at q
  rw [if_pos (by omega)] at q
  obtain ⟨j, t, hm, _, _, hk⟩ := q
  rw [hn] at hm
  exact Name_function_global T.kind hx (loadGlobal_global (T.gd.glb.keeps T.rel.stays) hm (hQ _ _ _ _ [] hk T.here (.int _ _) .ff)) hd

theorem blt_name {x : Str} {v : Value} {pos : Pos} {Q E : Value → Shared → Prop} (T : At fname g Φ n F sc A s ρ fp) (hx : sc.names.lookup x = some .globalImplicit) (hb : (x, v) ∈ bltTab) (hd : (x == ("__debug__" : Str)) = false) (h : Q v s) :
    wpAny (model g.p g.w) A (eval (.Name x pos) (F.env sc)) Q E s :=
  Name_function_global T.kind hx (loadGlobal_builtin (T.gd.glb.keeps T.rel.stays) (T.gd.blt x v hb).1 (T.gd.bns.keeps T.rel.stays) (T.gd.blt x v hb).2 h) hd

noncomputable def opOf : Op → Operator
  | .add => .Add
  | .sub => .Sub
  | .mul => .Mult
  | .fdiv => .FloorDiv
  | .mod => .Mod
  | .pow => .Pow

theorem intBits_le {a : Int} {k : Nat} (h : a.natAbs < 2 ^ k) : Builtin.Int.intBits a ≤ k := by
  unfold Builtin.Int.intBits
  split
  · omega
  · rename_i hz
    have h0 : a.natAbs ≠ 0 := fun q => hz (by simp [Int.natAbs_eq_zero.mp q])
    have := (Nat.log2_lt h0).mpr h
    omega
theorem mulOk_fits {a b : Int} (h : mulOk a b) : IntMulOk a b := by
  rcases h with (h | h) | ⟨h, h'⟩
  · exact .of_left (intBits_le h)
  · exact .of_right (intBits_le h)
  · exact .of_bits (Nat.le_trans (intBits_le h) (by decide)) (Nat.le_trans (intBits_le h') (by decide))

theorem At.noLimit (T : At fname g Φ n F sc A s ρ fp) : s.heap.NoLimit := T.gd.nolimit.keeps T.rel.stays

theorem At.pylong (T : At fname g Φ n F sc A s ρ fp) : PylongRoom (model g.p g.w) A s :=
  PylongRoom.of T.noLimit (by have := T.room.depth; unfold Builtin.pylongFrames; omega)
    (SeerAt.of (T.gd.noseer.keeps T.rel.stays) T.gd.tree T.room.frames T.plain.1 T.plain.2 rfl rfl)

theorem Rps.rep {h : Heap} {vs : List Value} {ds : List D} (r : Rps h vs ds []) : ∀ k : Nat, Rps h (List.replicate k vs).flatten (List.replicate k ds).flatten []
  | 0 => .nil
  | k + 1 => by
    simp only [List.replicate_succ, List.flatten_cons]
    exact Rps.append r (Rps.rep r k)

theorem new_list {vs : List Value} {ds : List D} {as : List Addr} {h : Heap} (r : Rps h vs ds as) (hz : vs.length ≤ sizeLine) (e : Nat) :
    Rp (h.push { cls := .type "list", data := .seq vs.toArray e }) (.ref h.objs.size) (.list ds) (h.objs.size :: as) :=
  .list (Heap.get?_push_size _ rfl) rfl rfl rfl (by simpa using hz) (by simpa using Rps.ext (Ext.push _ _) r)

theorem FgOk.cons {h h' : Heap} {f : Fg} {as : List Addr} (R : Rel g F sc h ρ fp) (x : Ext h h') (hf : FgOk ρ fp h f as) {a : Addr} (ha : h'.get? a = none) (hm : ∀ b ∈ as, h'.get? b ≠ none) : FgOk ρ fp h f (a :: as) := by
  have ha' := x.fresh ha
  have hnf : ∀ j, a ∉ fp j := fun j q => by obtain ⟨o, _, _, e, _⟩ := R.fp_there j a q; rw [ha'] at e; cases e
  refine ⟨fun j d hj hn b hb => ?_, fun hs => ⟨fun b hb => ?_, fun hn => ?_, (hf.2 hs).2.2⟩⟩
  · rcases List.mem_cons.mp hb with rfl | hb
    · exact hnf j
    · exact hf.1 j d hj hn b hb
  · rcases List.mem_cons.mp hb with rfl | hb
    · exact .inl ha'
    · exact (hf.2 hs).1 b hb
  · exact List.nodup_cons.mpr ⟨fun q => hm a q ha, (hf.2 hs).2.1 hn⟩

theorem FgOk.append {h h' : Heap} {f k : Fg} {as bs : List Addr} (R : Rel g F sc h ρ fp) (x : Ext h h') (hf : FgOk ρ fp h f as) (hk : FgOk ρ fp h' k bs) (hm : ∀ a ∈ as, h'.get? a ≠ none) : FgOk ρ fp h ⟨f.sh || k.sh, f.u ++ k.u⟩ (as ++ bs) := by
  have hk' := hk.back x
  refine ⟨fun j d hj hn b hb => ?_, fun hs => ?_⟩
  · rcases List.mem_append.mp hb with hb | hb
    · exact hf.1 j d hj (fun q => hn (List.mem_append_left _ q)) b hb
    · exact hk.1 j d hj (fun q => hn (List.mem_append_right _ q)) b hb
  · have hs' : f.sh = false ∧ k.sh = false := by simpa using hs
    obtain ⟨f1, f2, f3⟩ := hf.2 hs'.1
    obtain ⟨k1, k2, k3⟩ := hk.2 hs'.2
    refine ⟨fun b hb => ?_, fun hn => ?_, fun j hj => ?_⟩
    · rcases List.mem_append.mp hb with hb | hb
      · exact (f1 b hb).imp id fun ⟨j, hj, q⟩ => ⟨j, List.mem_append_left _ hj, q⟩
      · exact (((hk'.2 hs'.2).1) b hb).imp id fun ⟨j, hj, q⟩ => ⟨j, List.mem_append_right _ hj, q⟩
    · obtain ⟨n1, n2, n3⟩ := List.nodup_append.mp hn
      refine List.nodup_append.mpr ⟨f2 n1, k2 n2, fun a ha b hb hab => ?_⟩
      subst hab
      rcases k1 a hb with q | ⟨j, hj, q⟩
      · exact hm a ha q
      · obtain ⟨o, _, _, e, _⟩ := R.fp_there j a q
        rcases f1 a ha with q' | ⟨i, hi, q'⟩
        · rw [q'] at e; cases e
        · obtain ⟨d, hd⟩ := f3 i hi
          exact (R.own i d hd).2.2 j (fun ij => n3 i hi j hj ij.symm) a q' q
    · rcases List.mem_append.mp hj with hj | hj
      · exact f3 j hj
      · exact k3 j hj

theorem Rps.there {h : Heap} {vs ds as} (r : Rps h vs ds as) : ∀ a ∈ as, h.get? a ≠ Option.none := fun a ha q => by
  obtain ⟨o, _, _, e, _⟩ := r.mem a ha
  rw [q] at e; cases e
theorem Rp.there {h : Heap} {v d as} (r : Rp h v d as) : ∀ a ∈ as, h.get? a ≠ Option.none := fun a ha q => by
  obtain ⟨o, _, _, e, _⟩ := r.mem a ha
  rw [q] at e; cases e

theorem cp_ok {h h' : Heap} {f : Fg} {as : List Addr} {vs : List Value} {ds : List D} (R : Rel g F sc h ρ fp) (x : Ext h h') (r : Rps h' vs ds as) (hf : FgOk ρ fp h ⟨true, f.u⟩ as) {a : Addr} (ha : h'.get? a = none) : FgOk ρ fp h (cpF ds f) (a :: as) := by
  unfold cpF
  split
  · rename_i hfl
    rw [r.flat hfl]
    exact FgOk.cons R x (.nil fun _ => rfl) ha (fun _ hb => (nomatch hb))
  · exact FgOk.cons R x hf ha r.there

theorem FgOk.shared {h : Heap} {f : Fg} {as : List Addr} (o : FgOk ρ fp h f as) : FgOk ρ fp h ⟨true, f.u⟩ as := ⟨o.1, fun q => (nomatch q)⟩
theorem st_list (x : Str) : st x.cps.toList = x := by obtain ⟨c⟩ := x; simp [st]
theorem add_texts {x y : Str} {t u : Tok} {Q E : Value → Shared → Prop} (hz : x.cps.toList.length + y.cps.toList.length ≤ sizeLine) (h : ∀ t' k, Q (.str (st (x.cps.toList ++ y.cps.toList)) t') { s with toks := k }) :
    wpAny (model g.p g.w) A (binaryOp .Add (.str x t) (.str y u)) Q E s := by
  refine P.add_str ?_
  split
  · rename_i hx
    have e : x.cps.toList = [] := by
      have : x.cps.size = 0 := by simpa [Str.length] using hx
      simpa using this
    have q := h u s.toks
    rw [e, List.nil_append, st_list] at q
    exact q
  · split
    · rename_i _ hy
      have e : y.cps.toList = [] := by
        have : y.cps.size = 0 := by simpa [Str.length] using hy
        simpa using this
      have q := h t s.toks
      rw [e, List.append_nil, st_list] at q
      exact q
    · have e : st (x.cps.toList ++ y.cps.toList) = x ++ y := by
        obtain ⟨c⟩ := x; obtain ⟨d⟩ := y
        show Str.mk _ = Str.mk (c ++ d)
        simp
      have q := h s.toks (s.toks + 1)
      rw [e] at q
      exact ⟨by show (x.cps ++ y.cps).size ≤ sizeLine; simpa using hz, q⟩
theorem foldl_cps (c : Array Nat) : ∀ (k : Nat) (acc : Array Nat), ((List.replicate k c).foldl (· ++ ·) acc).toList = acc.toList ++ (List.replicate k c.toList).flatten
  | 0, acc => by simp
  | k + 1, acc => by
    rw [List.replicate_succ, List.foldl_cons, foldl_cps c k, List.replicate_succ, List.flatten_cons]
    simp
theorem mul_text {x : Str} {m : Int} {t u : Tok} {Q E : Value → Shared → Prop} (m0 : 0 ≤ m) (m1 : m ≤ 1000) (hz : x.cps.toList.length ≤ 1000) (h : ∀ t' k, Q (.str (st (List.replicate m.toNat x.cps.toList).flatten) t') { s with toks := k }) :
    wpAny (model g.p g.w) A (binaryOp .Mult (.str x t) (.int m u)) Q E s := by
  have hx : x.length ≤ 1000 := by simpa [Str.length] using hz
  have hmul : x.length * m.toNat ≤ 1000 * 1000 := Nat.mul_le_mul hx (by omega)
  refine P.mul_str ?_ (fun h1 _ => ?_) (fun _ _ => ?_) ?_
  · rw [decide_eq_false (by omega), decide_eq_false (by omega)]; rfl
  · have h2 : (2 ^ 63 - 1 : Int) / 1000 ≤ (2 ^ 63 - 1) / m := by
      refine Int.le_ediv_of_mul_le (by omega) ?_
      have : (2 ^ 63 - 1 : Int) / 1000 * m ≤ (2 ^ 63 - 1) / 1000 * 1000 := Int.mul_le_mul_of_nonneg_left m1 (by decide)
      exact Int.le_trans this (by decide)
    have h3 : (1000 : Int) ≤ (2 ^ 63 - 1 : Int) / 1000 := by decide
    omega
  · simp only [Builtin.Str.tooLong, decide_eq_false_iff_not]
    have : (1000 * 1000 : Nat) < sizeLine := by decide
    first | omega | (simp; omega)
  · split
    · have e : m.toNat = 0 := by omega
      have q := h s.toks (s.toks + 1)
      rw [e] at q
      exact ⟨by decide, q⟩
    · split
      · rename_i _ hc
        have q := h t s.toks
        have e : st (List.replicate m.toNat x.cps.toList).flatten = x := by
          simp only [Bool.or_eq_true, beq_iff_eq] at hc
          rcases hc with hc | hc
          · rw [hc]; simp [st_list]
          · have : x.cps.toList = [] := by
              have : x.cps.size = 0 := by simpa [Str.length] using hc
              simpa using this
            rw [this]
            have e2 : (List.replicate m.toNat ([] : List Nat)).flatten = [] := by simp
            rw [e2, ← this, st_list]
        rw [e] at q
        exact q
      · have q := h s.toks (s.toks + 1)
        have e : st (List.replicate m.toNat x.cps.toList).flatten = ⟨(List.replicate m.toNat x.cps).foldl (· ++ ·) #[]⟩ := by
          show Str.mk _ = Str.mk _
          congr 1
          apply Array.toList_inj.mp
          rw [foldl_cps]; simp
        rw [e] at q
        refine ⟨?_, q⟩
        show ((List.replicate m.toNat x.cps).foldl (· ++ ·) #[]).size ≤ sizeLine
        have : ((List.replicate m.toNat x.cps).foldl (· ++ ·) #[]).toList.length = m.toNat * x.cps.toList.length := by rw [foldl_cps]; simp
        rw [Array.length_toList] at this
        rw [this, Nat.mul_comm]
        have h4 : x.cps.toList.length * m.toNat ≤ 1000 * 1000 := Nat.mul_le_mul hz (by omega)
        exact Nat.le_trans h4 (by decide)

theorem bin_rule {op : Op} {v w : Value} {x y : D} {f k : Fg} {as bs : List Addr} {s₂ : Shared} {K : D → Fg → Prop} {Q E : Value → Shared → Prop} (T : At fname g Φ n F sc A s ρ fp) (st : Step g s s₂)
    (h : binK op x f y k K) (r1 : Rp s₂.heap v x as) (r2 : Rp s₂.heap w y bs) (fo1 : FgOk ρ fp s.heap f as) (fo2 : FgOk ρ fp s.heap k bs)
    (hQ : ∀ v s' d f as, K d f → Step g s s' → Rp s'.heap v d as → FgOk ρ fp s.heap f as → Q v s') : wpAny (model g.p g.w) A (binaryOp (opOf op) v w) Q E s₂ := by
  unfold binK at h
  split at h
  · cases r1; cases r2; exact P.add_int (hQ _ _ _ _ [] h (st.toks _) (.int _ _) .ff)
  · cases r1; cases r2; exact P.sub_int (hQ _ _ _ _ [] h (st.toks _) (.int _ _) .ff)
  · cases r1; cases r2; exact P.mul_int (hQ _ _ _ _ [] h.2 (st.toks _) (.int _ _) .ff) (mulOk_fits h.1)
  · cases r1; cases r2
    exact floordiv_int h.1 (hQ _ _ _ _ [] h.2 (st.toks _) (.int _ _) .ff) (.inr ((T.step st).pylong))
  · cases r1; cases r2; exact mod_int' h.1 (hQ _ _ _ _ [] h.2 (st.toks _) (.int _ _) .ff)
  · cases r1; cases r2
    refine pow_int h.1 ?_ (hQ _ _ _ _ [] h.2.2.2 (st.toks _) (.int _ _) .ff)
    rename_i a b t u
    have h2 := intBits_le h.2.2.1
    have h3 := h.2.1
    have h4 := h.1
    have h5 : (Builtin.Int.intBits a : Int) * b ≤ 64 * 1000 := Int.mul_le_mul (by omega) (by omega) (by omega) (by omega)
    omega
  · cases r1 with
    | list e1 c1 d1 q1 z1 i1 =>
      cases r2 with
      | list e2 c2 d2 q2 z2 i2 =>
        rename_i xs ys a o vs en as' b o' ws en' bs'
        obtain ⟨cls, dd, data, sl⟩ := o
        obtain ⟨cls', dd', data', sl'⟩ := o'
        simp only at c1 q1 c2 q2 d1 d2
        subst c1 q1 c2 q2 d1 d2
        have hsz : vs.size + ws.size ≤ sizeLine := by
          have l1 := i1.length; have l2 := i2.length
          simp only [Array.length_toList] at l1 l2
          rw [l1, l2]; exact h.1
        refine concat_meets ⟨_, e1, rfl⟩ ⟨_, e2, rfl⟩ noFill_list_add seq_list_add PySem.F.slot_list_add PySem.F.entry_list_add (PySem.F.args_list_add_2 _ _) (list_addW a b vs ws en en' none none sl sl' hsz) ⟨e1, e2, ?_⟩
        have i3 := i1.append i2
        have e3 : (vs ++ ws) = (vs.toList ++ ws.toList).toArray := by simp
        refine hQ _ _ _ _ (s₂.heap.objs.size :: (as' ++ bs')) h.2 (st.keep (fun _ _ e => Heap.get?_push_of_some _ e) _) ?_ ?_
        · show Rp (s₂.heap.push { cls := Value.type "list", data := Data.seq (vs ++ ws) }) (.ref s₂.heap.objs.size) (.list (xs ++ ys)) _
          rw [e3]
          exact new_list i3 (by simpa using hsz) 0
        · refine cp_ok (f := ⟨true, f.u ++ k.u⟩) T.rel st.ext i3 ⟨fun j d hj hn c hc => ?_, fun q => (nomatch q)⟩ (fresh_size _)
          rcases List.mem_append.mp hc with hc | hc
          · exact fo1.1 j d hj (fun q => hn (List.mem_append_left _ q)) c (.tail _ hc)
          · exact fo2.1 j d hj (fun q => hn (List.mem_append_right _ q)) c (.tail _ hc)
  · cases r1 with
    | str x t hx =>
      cases r2 with
      | str y u hy => exact add_texts h.1 fun t' k => hQ _ _ _ _ [] h.2 (st.toks k) (.str _ _ (by have h' : _ ≤ sizeLine := h.1; simpa [Mine.st] using h')) .ff
  · cases r1 with
    | str x t hx =>
      cases r2 with
      | int m u =>
        rename_i x' m'
        refine mul_text h.1 h.2.1 h.2.2.1 fun t' k => hQ _ _ _ _ [] h.2.2.2 (st.toks k) (.str _ _ ?_) .ff
        have h1 := h.1
        have h2 := h.2.1
        have h3 := h.2.2.1
        refine Nat.le_trans (?_ : _ ≤ 1000 * 1000) (by decide)
        have h5 : ∀ (k : Nat) (l : List Nat), (Mine.st (List.replicate k l).flatten).cps.size = k * l.length := fun k l => by simp [Mine.st]
        rw [h5]
        exact Nat.mul_le_mul (by omega) h3
  · cases r2
    cases r1 with
    | list e1 c1 d1 q1 z1 i1 =>
      rename_i xs x u a o vs en as'
      obtain ⟨cls, dd, data, sl⟩ := o
      simp only at c1 q1 d1
      subst c1 q1 d1
      obtain ⟨hfl, hhi, hlo, hz, hk⟩ := h
      have e0 := i1.flat hfl
      subst e0
      have hl : vs.size = xs.length := by simpa using i1.length
      have hz' : vs.size * x.toNat ≤ 2 ^ 24 := by rw [hl]; exact hz
      have hhi' : x < 2 ^ 63 := hhi
      have hlo' : -(2 ^ 63 : Int) ≤ x := hlo
      refine wpAny_binaryOp_repeat_ref (T := "list") (U := "int") (by decide) ⟨_, e1, rfl⟩ (fun s' => typeIs_int s' x u) noFill_list_mul PySem.F.fills_int_mul PySem.F.slot_int_rmul repeat_list PySem.F.slot_int_index.lookup
        (call_meets PySem.F.slot_int_rmul (typeIs_int _ x u) PySem.F.entry_int_rmul (PySem.F.args_int_rmul_2 _ _) (lm_int_rmul_list_any x u a vs en none sl)
          ⟨e1, rfl, ⟨_, e1, rfl⟩, call_meets PySem.F.slot_list_mul ⟨_, e1, rfl⟩ PySem.F.entry_list_mul (PySem.F.args_list_mul_2 _ _)
            (lm_list_mul_any a vs en none sl x u (by simp [Builtin.List.listFitsIndex]; omega) (by omega) (by simp [Builtin.List.listTooLong, sizeLine]; omega))
            ⟨e1, ?_⟩⟩)
      rw [listMul_foldl_if]
      have i3 := i1.rep x.toNat
      refine hQ _ _ _ _ [s₂.heap.objs.size] hk (st.keep (fun _ _ e => Heap.get?_push_of_some _ e) _) (new_list i3 ?_ 0) (FgOk.cons T.rel st.ext (.nil fun _ => rfl) (fresh_size _) (fun _ hb => (nomatch hb)))
      have hq : (List.replicate x.toNat vs.toList).flatten.length = x.toNat * vs.size := by simp
      rw [hq, Nat.mul_comm]; exact hz'
  · exact h.elim

theorem sem_bin {op : Op} {l r : Expr} {a b : X} {pos : Pos} (ha : SemE fname sc l a) (hb : SemE fname sc r b) : SemE fname sc (.BinOp l (opOf op) r pos) (.bin op a b) := by
  intro g Φ n F A s ρ fp K Q E T h hQ
  conv at h => whnf
  refine wpAny_BinOp (ha g Φ n F A s ρ fp _ _ E T h fun v s₁ x f as hk st r1 fo => hb g Φ n F A s₁ ρ fp _ _ E (T.step st) hk fun w s₂ y k bs hk' st' r2 fo' => ?_)
  exact bin_rule T (st.trans st') hk' (r1.ext st'.ext) r2 fo (fo'.back st.ext) hQ

theorem sem_neg {e : Expr} {a : X} {pos : Pos} (ha : SemE fname sc e a) : SemE fname sc (.UnaryOp .USub e pos) (.neg a) := by
  intro g Φ n F A s ρ fp K Q E T h hQ
  conv at h => whnf
  refine wpAny_UnaryOp (ha g Φ n F A s ρ fp _ _ E T h fun v s₁ x f as hk st r1 fo => ?_)
  split at hk
  · cases r1; exact P.neg_int (hQ _ _ _ _ [] hk (st.toks _) (.int _ _) .ff)
  · exact hk.elim
end
end Mine
set_option Elab.async false
set_option maxRecDepth 100000
namespace Mine
open PySem PySem.Calls PyProof.Rows

section
variable {fname : Nat → Str} {g : Gx} {Φ : Calls} {n : Nat} {F : Fm} {sc : Scope} {A : Around} {s s' : Shared} {ρ : Vars} {fp : Nat → List Addr}

theorem line_lt {k : Nat} (h : k ≤ sizeLine) : (k : Int) < 2 ^ 63 := by
  have : sizeLine = 16777216 := by decide
  omega

theorem truthy_rule {v : Value} {d : D} {as : List Addr} {Q : Bool → Shared → Prop} {E : Value → Shared → Prop} (r : Rp s.heap v d as) (h : ∀ tk, Q (truth d) { s with toks := tk }) :
    wpAny (model g.p g.w) A (truthy v) Q E s := by
  cases r with
  | none => exact PyProof.Rows.truthy_none (h s.toks)
  | bool b => exact wpAny_truthy_bool (h s.toks)
  | int i t => exact P.truthy_int (h s.toks)
  | str x t hz =>
    refine P.truthy_str ?_ ?_
    · have := line_lt hz
      show ¬ (x.cps.size : Int) ≥ 2 ^ 63
      omega
    · have e : ((x.length : Int) != 0) = truth (.str x) := by
        show ((x.cps.size : Int) != 0) = (x.cps.size != 0)
        rw [Bool.eq_iff_iff]; simp
      rw [e]; exact h _
  | @list a o vs en xs as' e c di dt sz i =>
    have hl : vs.size = xs.length := by simpa using i.length
    have e' : (!vs.isEmpty) = truth (.list xs) := by
      unfold Array.isEmpty; rw [hl]; cases xs <;> rfl
    refine wpAny_truthy_list ⟨_, e, c, _, dt⟩ (line_lt sz) ?_
    rw [e']; exact h _
  | @tuple a o vs en xs as' e c di dt sz i =>
    have hl : vs.size = xs.length := by simpa using i.length
    have e' : (!vs.isEmpty) = truth (.tuple xs) := by
      unfold Array.isEmpty; rw [hl]; cases xs <;> rfl
    refine truthy_tuple ⟨_, e, c, _, dt⟩ (line_lt sz) ?_
    rw [e']; exact h _

noncomputable def cmOf : Cm → CmpOp
  | .eq => .Eq
  | .ne => .NotEq
  | .lt => .Lt
  | .le => .LtE
  | .gt => .Gt
  | .ge => .GtE
  | .is => .Is
  | .isnt => .IsNot
  | .isin => .In
  | .notin => .NotIn

mutual
theorem eqD_eqv : ∀ x y : D, PyData.eqv x y = eqD x y
  | .none, y => by cases y <;> simp [PyData.eqv, eqD]
  | .bool _, y => by cases y <;> simp [PyData.eqv, eqD]
  | .int _, y => by cases y <;> simp [PyData.eqv, eqD]
  | .str _, y => by cases y <;> simp [PyData.eqv, eqD]
  | .list xs, y => by cases y <;> simp [PyData.eqv, eqD, eqDs_eqv xs]
  | .tuple xs, y => by cases y <;> simp [PyData.eqv, eqD, eqDs_eqv xs]
  | .dict _, y => by cases y <;> simp [PyData.eqv, eqD]
theorem eqDs_eqv : ∀ xs ys : List D, PyData.eqvAll xs ys = eqDs xs ys
  | [], ys => by cases ys <;> simp [PyData.eqvAll, eqDs]
  | x :: xs, [] => by simp [PyData.eqvAll, eqDs]
  | x :: xs, y :: ys => by simp [PyData.eqvAll, eqDs, eqD_eqv x y, eqDs_eqv xs ys]
end

theorem lays_of {xs : List D} {k : Nat} (h : ∀ x ∈ xs, x.canLay0 = true ∧ x.depth ≤ k) : PyData.canLayAll0 xs = true ∧ PyData.depthAll xs ≤ k := by
  induction xs with
  | nil => simp [PyData.canLayAll0, PyData.depthAll]
  | cons x xs ih =>
    have h1 := h x (.head _)
    have h2 := ih fun y hy => h y (.tail _ hy)
    simp only [PyData.canLayAll0, PyData.depthAll, h1.1, h2.1, Bool.and_self, true_and]
    exact Nat.max_le.mpr ⟨h1.2, h2.2⟩
theorem okD_lays : ∀ (k : Nat) (d : D), okD k d = true → d.canLay0 = true ∧ d.depth ≤ k
  | k, .none, _ => by simp [PyData.canLay0, PyData.depth]
  | k, .bool _, _ => by simp [PyData.canLay0, PyData.depth]
  | k, .int _, _ => by simp [PyData.canLay0, PyData.depth]
  | k, .str x, h => by
    have h' : PyData.strOk x = true := by cases k <;> simpa [okD, PyData.strOk] using h
    simp [PyData.canLay0, PyData.depth, h']
  | 0, .list _, h => by simp [okD] at h
  | 0, .tuple _, h => by simp [okD] at h
  | 0, .dict _, h => by simp [okD] at h
  | k + 1, .dict _, h => by simp [okD] at h
  | k + 1, .list xs, h => by
    simp only [okD, List.all_eq_true] at h
    have := lays_of fun x hx => okD_lays k x (h x hx)
    simp only [PyData.canLay0, PyData.depth]
    exact ⟨this.1, Nat.succ_le_succ this.2⟩
  | k + 1, .tuple xs, h => by
    simp only [okD, List.all_eq_true] at h
    have := lays_of fun x hx => okD_lays k x (h x hx)
    simp only [PyData.canLay0, PyData.depth]
    exact ⟨this.1, Nat.succ_le_succ this.2⟩
theorem okD_shaped {d : D} (h : okD 8 d = true) : SeqAt.shaped d = true := by
  have := okD_lays 8 d h
  unfold SeqAt.shaped
  rw [this.1, Bool.true_and, decide_eq_true_eq]
  omega

theorem contains_one (x : Str) (c : Nat) : (!(Builtin.Str.occurrences x ⟨#[c]⟩ 0 x.length 1).isEmpty) = x.cps.toList.contains c := by
  rw [Bool.eq_iff_iff, StrLaws.found_iff]
  constructor
  · rintro ⟨i, h1, h2⟩
    have := (StrLaws.subAt_one x c i).mp ⟨h1, h2⟩
    simpa using List.mem_of_getElem? this
  · intro h
    have h' : c ∈ x.cps.toList := by simpa using h
    obtain ⟨i, hi⟩ := List.getElem?_of_mem h'
    exact ⟨i, (StrLaws.subAt_one x c i).mpr hi⟩
theorem cmp_rule {op : Cm} {v w : Value} {x y : D} {as bs : List Addr} {K : Bool → Prop} {Q E : Value → Shared → Prop} (hu : A.units + 64 < cLine)
    (h : cmpK op x y K) (r1 : Rp s.heap v x as) (r2 : Rp s.heap w y bs) (hQ : ∀ b tk, K b → Q (.bool b) { s with toks := tk }) : wpAny (model g.p g.w) A (compareOp (cmOf op) v w) Q E s := by
  unfold cmpK at h
  split at h
  · cases r1; cases r2; exact P.eq_int (hQ _ s.toks h)
  · cases r1; cases r2; refine P.ne_int ?_
    rename_i a b _ _
    have e : (a != b) = decide (a ≠ b) := by rw [Bool.eq_iff_iff]; simp
    rw [e]; exact hQ _ s.toks h
  · cases r1; cases r2; exact P.lt_int (hQ _ s.toks h)
  · cases r1; cases r2; exact P.le_int (hQ _ s.toks h)
  · cases r1; cases r2; exact P.gt_int (hQ _ s.toks h)
  · cases r1; cases r2; exact P.ge_int (hQ _ s.toks h)
  · refine SeqAt.compareEq_shaped r1.reads r2.reads (okD_shaped h.1) (okD_shaped h.2.1) hu ?_
    rw [eqD_eqv]; exact hQ _ s.toks h.2.2
  · refine SeqAt.compareNe_shaped r1.reads r2.reads (okD_shaped h.1) (okD_shaped h.2.1) hu ?_
    rw [eqD_eqv]; exact hQ _ s.toks h.2.2
  · cases r2
    cases r1 <;> refine wpAny_is_plain rfl ?_ <;> first | exact hQ _ s.toks h | (rename_i p q; cases p <;> cases q <;> exact hQ _ s.toks h)
  · cases r2
    cases r1 <;> refine wpAny_is_plain rfl ?_ <;> first | exact hQ _ s.toks h | (rename_i p q; cases p <;> cases q <;> exact hQ _ s.toks h)
  · cases r2
    cases r1 <;> refine wpAny_isNot_plain rfl ?_ <;> first | exact hQ _ s.toks h | (rename_i p q; cases p <;> cases q <;> exact hQ _ s.toks h)
  · cases r2
    cases r1 <;> refine wpAny_isNot_plain rfl ?_ <;> first | exact hQ _ s.toks h | (rename_i p q; cases p <;> cases q <;> exact hQ _ s.toks h)
  · cases r1 with
    | str y t hy =>
      cases r2 with
      | str x u hx =>
        rename_i y' x'
        obtain ⟨c, hc, hk⟩ := h
        have e : y' = ⟨#[c]⟩ := by rw [← st_list y', hc]; rfl
        subst e
        refine P.notIn_str ?_
        rw [contains_one]
        exact hQ _ s.toks hk
  · exact h.elim

theorem At.units (T : At fname g Φ n F sc A s ρ fp) : A.units + 64 < cLine := by have := T.room.units; omega

theorem sem_test {e : Expr} {a : X} (ha : SemE fname sc e a) (hp : ∀ env whole, isTrue e env whole = (do let v ← whole; standAt e.pos; holding [v] (truthy v))) : SemT fname sc e a := by
  intro g Φ n F A s ρ fp K Q E T h hQ
  refine wpAny_isTrue_value (ha g Φ n F A s ρ fp _ _ E T h fun v s₁ d f as hk st r fo => truthy_rule r fun tk => hQ _ _ hk (st.toks tk)) (hp _ _)

theorem sem_not {e : Expr} {a : X} {pos : Pos} (ha : SemE fname sc e a) : SemE fname sc (.UnaryOp .Not e pos) (.not a) := by
  intro g Φ n F A s ρ fp K Q E T h hQ
  conv at h => whnf
  exact wpAny_UnaryOp (ha g Φ n F A s ρ fp _ _ E T h fun v s₁ x f as hk st r1 fo => not_of (truthy_rule r1 fun tk => hQ _ _ _ _ [] hk (st.toks tk) (.bool _) .ff))
theorem sem_not_t {e : Expr} {a : X} {pos : Pos} (ha : SemT fname sc e a) : SemT fname sc (.UnaryOp .Not e pos) (.not a) := by
  intro g Φ n F A s ρ fp K Q E T h hQ
  conv at h => whnf
  exact wpAny_isTrue_Not (ha g Φ n F A s ρ fp (fun b => K (!b)) _ E T h fun b s₁ hk st => hQ _ _ hk st)

theorem sem_ite {t b o : Expr} {x y z : X} {pos : Pos} (ht : SemT fname sc t x) (hb : SemE fname sc b y) (ho : SemE fname sc o z) : SemE fname sc (.IfExp t b o pos) (.ite x y z) := by
  intro g Φ n F A s ρ fp K Q E T h hQ
  conv at h => whnf
  refine wpAny_IfExp (ht g Φ n F A s ρ fp (fun r => br r (wE Φ ρ y K) (wE Φ ρ z K)) _ E T h fun r s₁ hk st => ?_)
  cases r
  · exact ho g Φ n F A s₁ ρ fp _ _ E (T.step st) hk fun v s' d f as hk st' r fo => hQ _ _ _ _ _ hk (st.trans st') r (fo.back st.ext)
  · exact hb g Φ n F A s₁ ρ fp _ _ E (T.step st) hk fun v s' d f as hk st' r fo => hQ _ _ _ _ _ hk (st.trans st') r (fo.back st.ext)

theorem marks_false {op : Cm} {r : Expr} (h : op ≠ .isin ∧ op ≠ .notin) : behindInMarks (cmOf op) r = false := by
  cases r <;> first | rfl | (cases op <;> first | rfl | exact absurd rfl h.1 | exact absurd rfl h.2 | (simp [behindInMarks, cmOf]))

theorem sem_cmp {op : Cm} {l r : Expr} {a b : X} {pos : Pos} (ha : SemE fname sc l a) (hb : SemE fname sc r b) (hm : behindInMarks (cmOf op) r = false) : SemE fname sc (.Compare l [cmOf op] [r] pos) (.cmp op a b) := by
  intro g Φ n F A s ρ fp K Q E T h hQ
  conv at h => whnf
  exact wpAny_Compare1 (ha g Φ n F A s ρ fp _ _ E T h fun v s₁ x f as hk st r1 fo => hb g Φ n F A s₁ ρ fp _ _ E (T.step st) hk fun w s₂ y k bs hk' st' r2 fo' =>
    cmp_rule T.units hk' (r1.ext st'.ext) r2 fun b tk hk => hQ _ _ _ _ [] hk ((st.trans st').toks tk) (.bool _) .ff) hm
theorem sem_cmp_t {op : Cm} {l r : Expr} {a b : X} {pos : Pos} (ha : SemE fname sc l a) (hb : SemE fname sc r b) (hm : behindInMarks (cmOf op) r = false) : SemT fname sc (.Compare l [cmOf op] [r] pos) (.cmp op a b) := by
  intro g Φ n F A s ρ fp K Q E T h hQ
  conv at h => whnf
  exact wpAny_isTrue_Compare1 (ha g Φ n F A s ρ fp _ _ E T h fun v s₁ x f as hk st r1 fo => hb g Φ n F A s₁ ρ fp _ _ E (T.step st) hk fun w s₂ y k bs hk' st' r2 fo' =>
    cmp_rule T.units hk' (r1.ext st'.ext) r2 fun b tk hk => wpAny_truthy_bool (hQ _ _ hk ((st.trans st').toks tk))) hm
end
end Mine
set_option Elab.async false
set_option maxRecDepth 100000
namespace Mine
open PySem PySem.Calls PyProof.Rows

section
variable {fname : Nat → Str} {g : Gx} {Φ : Calls} {n : Nat} {F : Fm} {sc : Scope} {A : Around} {s s' : Shared} {ρ : Vars} {fp : Nat → List Addr}

theorem last_marks {o1 o2 : CmpOp} {r1 r2 : Expr} (h : behindInMarks o2 r2 = false) : lastMarks [o1, o2] [r1, r2] = false := by
  simpa [lastMarks] using h

theorem sem_cmp2 {o1 o2 : Cm} {l r r' : Expr} {a b c : X} {pos : Pos} (ha : SemE fname sc l a) (hb : SemE fname sc r b) (hc : SemE fname sc r' c) (hm : behindInMarks (cmOf o2) r' = false) :
    SemE fname sc (.Compare l [cmOf o1, cmOf o2] [r, r'] pos) (.cmp2 o1 o2 a b c) := by
  intro g Φ n F A s ρ fp K Q E T h hQ
  conv at h => whnf
  refine Compare_chain (ha g Φ n F A s ρ fp _ _ E T h fun v s₁ x f as hk st r1 fo => chain_link (hb g Φ n F A s₁ ρ fp _ _ E (T.step st) hk fun w s₂ y k bs hk' st' r2 fo' =>
    cmp_rule T.units hk' (r1.ext st'.ext) r2 fun t tk hk => wpAny_truthy_bool ?_)) (last_marks hm)
  have st₂ := (st.trans st').toks tk
  cases t
  · exact hQ _ _ _ _ [] hk st₂ (.bool _) .ff
  · exact chain_last (hc g Φ n F A _ ρ fp _ _ E (T.step st₂) hk fun u s₃ z k' cs hk' st₃ r3 fo' =>
      cmp_rule T.units hk' (r2.ext st₃.ext) r3 fun t tk hk => hQ _ _ _ _ [] hk ((st₂.trans st₃).toks tk) (.bool _) .ff)
theorem sem_cmp2_t {o1 o2 : Cm} {l r r' : Expr} {a b c : X} {pos : Pos} (ha : SemE fname sc l a) (hb : SemE fname sc r b) (hc : SemE fname sc r' c) (hm : behindInMarks (cmOf o2) r' = false) :
    SemT fname sc (.Compare l [cmOf o1, cmOf o2] [r, r'] pos) (.cmp2 o1 o2 a b c) := by
  intro g Φ n F A s ρ fp K Q E T h hQ
  conv at h => whnf
  refine isTrue_chain (ha g Φ n F A s ρ fp _ _ E T h fun v s₁ x f as hk st r1 fo => test_link (hb g Φ n F A s₁ ρ fp _ _ E (T.step st) hk fun w s₂ y k bs hk' st' r2 fo' =>
    cmp_rule T.units hk' (r1.ext st'.ext) r2 fun t tk hk => wpAny_truthy_bool ?_)) (last_marks hm)
  have st₂ := (st.trans st').toks tk
  cases t
  · exact hQ _ _ hk st₂
  · exact test_last (hc g Φ n F A _ ρ fp _ _ E (T.step st₂) hk fun u s₃ z k' cs hk' st₃ r3 fo' =>
      cmp_rule T.units hk' (r2.ext st₃.ext) r3 fun t tk hk => wpAny_truthy_bool (hQ _ _ hk ((st₂.trans st₃).toks tk)))

noncomputable def wB : Bool → Calls → Vars → Xs → (D → Fg → Prop) → Prop
  | true => wAnd
  | false => wOr
noncomputable def bopOf : Bool → BoolOp
  | true => .And
  | false => .Or
noncomputable abbrev bX : Bool → Xs → X
  | true => .and
  | false => .or

noncomputable def SemB (fname : Nat → Str) (i : Bool) (sc : Scope) (es : List Expr) (xs : Xs) : Prop :=
  ∀ (g : Gx) (Φ : Calls) (n : Nat) (F : Fm) (A : Around) (s : Shared) (ρ : Vars) (fp : Nat → List Addr) (pos : Pos) (K : D → Fg → Prop) (Q : Value → Shared → Prop) (E : Value → Shared → Prop),
    At fname g Φ n F sc A s ρ fp → wB i Φ ρ xs K →
    (∀ v s' d f as, K d f → Step g s s' → Rp s'.heap v d as → FgOk ρ fp s.heap f as → Q v s') →
    wpAny (model g.p g.w) A (boolOp pos (bopOf i) (evalEach es (F.env sc))) Q E s
noncomputable def SemBT (fname : Nat → Str) (i : Bool) (sc : Scope) (es : List Expr) (xs : Xs) : Prop :=
  ∀ (g : Gx) (Φ : Calls) (n : Nat) (F : Fm) (A : Around) (s : Shared) (ρ : Vars) (fp : Nat → List Addr) (K : Bool → Prop) (Q : Bool → Shared → Prop) (E : Value → Shared → Prop),
    At fname g Φ n F sc A s ρ fp → wB i Φ ρ xs (fun d _ => K (truth d)) → (∀ b s', K b → Step g s s' → Q b s') →
    wpAny (model g.p g.w) A (allTrue (bopOf i) es (F.env sc)) Q E s

theorem sem_b1 {i : Bool} {e : Expr} {x : X} (h : SemE fname sc e x) : SemB fname i sc [e] (.cons x .nil) := by
  intro g Φ n F A s ρ fp pos K Q E T hw hQ
  have hw' : wE Φ ρ x K := by cases i <;> exact hw
  exact h g Φ n F A s ρ fp K Q E T hw' hQ
theorem sem_b2 {i : Bool} {e e' : Expr} {es : List Expr} {x y : X} {xs : Xs} (h : SemE fname sc e x) (hr : SemB fname i sc (e' :: es) (.cons y xs)) : SemB fname i sc (e :: e' :: es) (.cons x (.cons y xs)) := by
  intro g Φ n F A s ρ fp pos K Q E T hw hQ
  have hw' : wE Φ ρ x fun d f => if truth d = i then wB i Φ ρ (.cons y xs) K else K d f := by
    cases i
    · have : wE Φ ρ x fun d f => br (truth d) (K d f) (wOr Φ ρ (.cons y xs) K) := hw
      have e : (fun (d : D) (f : Fg) => if truth d = false then wB false Φ ρ (.cons y xs) K else K d f) = fun d f => br (truth d) (K d f) (wOr Φ ρ (.cons y xs) K) := by
        funext d f; cases truth d <;> rfl
      rw [e]; exact this
    · have : wE Φ ρ x fun d f => br (truth d) (wAnd Φ ρ (.cons y xs) K) (K d f) := hw
      have e : (fun (d : D) (f : Fg) => if truth d = true then wB true Φ ρ (.cons y xs) K else K d f) = fun d f => br (truth d) (wAnd Φ ρ (.cons y xs) K) (K d f) := by
        funext d f; cases truth d <;> rfl
      rw [e]; exact this
  show wpAny (model g.p g.w) A (do
    let v ← eval e (F.env sc)
    standAt pos
    let t ← holding [v] (truthy v)
    match bopOf i, t with
    | .And, false | .Or, true => pure v
    | _, _ => boolOp pos (bopOf i) (evalEach (e' :: es) (F.env sc))) Q E s
  refine wpAny_bind (h g Φ n F A s ρ fp _ _ E T hw' fun v s₁ d f as hk st r fo => wpAny_bind (wpAny_standAt (wpAny_bind (wpAny_holding (truthy_rule r fun tk => ?_)))))
  have st₁ := st.toks tk
  cases i <;> cases ht : truth d <;> simp only [ht, bopOf, if_true, if_false, Bool.false_eq_true, Bool.true_eq_false] at hk ⊢
  · exact hr g Φ n F A _ ρ fp pos K Q E (T.step st₁) hk fun v' s' d' f' as' hk' st' r' fo' => hQ _ _ _ _ _ hk' (st₁.trans st') r' (fo'.back st₁.ext)
  · exact wpAny_pure (hQ _ _ _ _ _ hk st₁ r fo)
  · exact wpAny_pure (hQ _ _ _ _ _ hk st₁ r fo)
  · exact hr g Φ n F A _ ρ fp pos K Q E (T.step st₁) hk fun v' s' d' f' as' hk' st' r' fo' => hQ _ _ _ _ _ hk' (st₁.trans st') r' (fo'.back st₁.ext)

theorem sem_bool_op {i : Bool} {es : List Expr} {xs : Xs} {pos : Pos} (h : SemB fname i sc es xs) : SemE fname sc (.BoolOp (bopOf i) es pos) (bX i xs) := by
  intro g Φ n F A s ρ fp K Q E T hw hQ
  have hw' : wB i Φ ρ xs K := by cases i <;> exact hw
  exact h g Φ n F A s ρ fp pos K Q E T hw' hQ

theorem sem_bt1 {i : Bool} {e : Expr} {x : X} (h : SemT fname sc e x) : SemBT fname i sc [e] (.cons x .nil) := by
  intro g Φ n F A s ρ fp K Q E T hw hQ
  have hw' : wE Φ ρ x (fun d _ => K (truth d)) := by cases i <;> exact hw
  cases i
  · refine wpAny_allTrue_Or_cons (h g Φ n F A s ρ fp K _ E T hw' fun b s' hk st => ?_)
    cases b
    · exact wpAny_allTrue_Or_nil (hQ _ _ hk st)
    · exact hQ _ _ hk st
  · refine wpAny_allTrue_And_cons (h g Φ n F A s ρ fp K _ E T hw' fun b s' hk st => ?_)
    cases b
    · exact hQ _ _ hk st
    · exact wpAny_allTrue_And_nil (hQ _ _ hk st)
theorem sem_bt2 {i : Bool} {e e' : Expr} {es : List Expr} {x y : X} {xs : Xs} (h : SemT fname sc e x) (hr : SemBT fname i sc (e' :: es) (.cons y xs)) : SemBT fname i sc (e :: e' :: es) (.cons x (.cons y xs)) := by
  intro g Φ n F A s ρ fp K Q E T hw hQ
  cases i
  · have hw' : wE Φ ρ x fun d _ => (fun b => if b then K true else wOr Φ ρ (.cons y xs) fun d _ => K (truth d)) (truth d) := by
      have : wE Φ ρ x fun d f => br (truth d) (K (truth d)) (wOr Φ ρ (.cons y xs) fun d _ => K (truth d)) := hw
      have e : (fun (d : D) (_ : Fg) => (fun b => if b then K true else wOr Φ ρ (.cons y xs) fun d _ => K (truth d)) (truth d)) = fun d f => br (truth d) (K (truth d)) (wOr Φ ρ (.cons y xs) fun d _ => K (truth d)) := by
        funext d f; cases truth d <;> rfl
      rw [e]; exact this
    refine wpAny_allTrue_Or_cons (h g Φ n F A s ρ fp (fun b => if b then K true else wOr Φ ρ (.cons y xs) fun d _ => K (truth d)) _ E T hw' fun b s' hk st => ?_)
    cases b
    · exact hr g Φ n F A _ ρ fp K Q E (T.step st) hk fun b s'' hk st' => hQ _ _ hk (st.trans st')
    · exact hQ _ _ hk st
  · have hw' : wE Φ ρ x fun d _ => (fun b => if b then wAnd Φ ρ (.cons y xs) fun d _ => K (truth d) else K false) (truth d) := by
      have : wE Φ ρ x fun d f => br (truth d) (wAnd Φ ρ (.cons y xs) (fun d _ => K (truth d))) (K (truth d)) := hw
      have e : (fun (d : D) (_ : Fg) => (fun b => if b then wAnd Φ ρ (.cons y xs) fun d _ => K (truth d) else K false) (truth d)) = fun d f => br (truth d) (wAnd Φ ρ (.cons y xs) (fun d _ => K (truth d))) (K (truth d)) := by
        funext d f; cases truth d <;> rfl
      rw [e]; exact this
    refine wpAny_allTrue_And_cons (h g Φ n F A s ρ fp (fun b => if b then wAnd Φ ρ (.cons y xs) fun d _ => K (truth d) else K false) _ E T hw' fun b s' hk st => ?_)
    cases b
    · exact hQ _ _ hk st
    · exact hr g Φ n F A _ ρ fp K Q E (T.step st) hk fun b s'' hk st' => hQ _ _ hk (st.trans st')
theorem sem_bool_op_t {i : Bool} {es : List Expr} {xs : Xs} {pos : Pos} (h : SemBT fname i sc es xs) : SemT fname sc (.BoolOp (bopOf i) es pos) (bX i xs) := by
  intro g Φ n F A s ρ fp K Q E T hw hQ
  have hw' : wB i Φ ρ xs (fun d _ => K (truth d)) := by cases i <;> exact hw
  exact wpAny_isTrue_BoolOp (h g Φ n F A s ρ fp K Q E T hw' hQ)

theorem sem_ite_t {t b o : Expr} {x y z : X} {pos : Pos} (ht : SemT fname sc t x) (hb : SemT fname sc b y) (ho : SemT fname sc o z) : SemT fname sc (.IfExp t b o pos) (.ite x y z) := by
  intro g Φ n F A s ρ fp K Q E T h hQ
  conv at h => whnf
  show wpAny (model g.p g.w) A (do
    if ← isTrue t (F.env sc) (eval t (F.env sc)) then isTrue b (F.env sc) (eval b (F.env sc)) else isTrue o (F.env sc) (eval o (F.env sc))) Q E s
  refine wpAny_bind (ht g Φ n F A s ρ fp (fun r => br r (wE Φ ρ y (fun d _ => K (truth d))) (wE Φ ρ z (fun d _ => K (truth d)))) _ E T h fun r s₁ hk st => ?_)
  cases r
  · exact ho g Φ n F A s₁ ρ fp K _ E (T.step st) hk fun b s' hk st' => hQ _ _ hk (st.trans st')
  · exact hb g Φ n F A s₁ ρ fp K _ E (T.step st) hk fun b s' hk st' => hQ _ _ hk (st.trans st')

noncomputable def noStar : Expr → Bool
  | .Starred _ _ => false
  | _ => true
theorem starEach_cons {e : Expr} {r : List Expr} {env : Env} (h : noStar e = true) : starEach (e :: r) env = (false, eval e env) :: starEach r env := by
  cases e <;> first | rfl | cases h

theorem sem_nil : SemL fname sc [] .nil := by
  intro g Φ n F A s ρ fp pos K Q E T h hQ
  conv at h => whnf
  exact args_nil (hQ _ _ _ _ [] h T.here .nil .ff)
theorem sem_cons {e : Expr} {es : List Expr} {x : X} {xs : Xs} (hs : noStar e = true) (he : SemE fname sc e x) (hr : SemL fname sc es xs) : SemL fname sc (e :: es) (.cons x xs) := by
  intro g Φ n F A s ρ fp pos K Q E T h hQ
  conv at h => whnf
  exact args_cons (he g Φ n F A s ρ fp _ _ E T h fun v s₁ d f as hk st r fo => hr g Φ n F A s₁ ρ fp pos _ _ E (T.step st) hk fun vs s₂ ds k bs hk' st' r' fo' =>
    hQ _ _ _ _ _ hk' (st.trans st') (.cons (r.ext st'.ext) r') (FgOk.append T.rel st.ext fo fo' r.there)) (starEach_cons hs)

theorem sem_list {es : List Expr} {xs : Xs} {pos : Pos} (h : SemL fname sc es xs) : SemE fname sc (.List es pos) (.list xs) := by
  intro g Φ n F A s ρ fp K Q E T hw hQ
  conv at hw => whnf
  refine wpAny_List (h g Φ n F A s ρ fp pos _ _ E T hw fun vs s₁ ds f as hk st r fo => ⟨?_, ?_⟩)
  · rw [r.length]; exact hk.1
  · exact hQ _ _ _ _ _ hk.2 (st.push _) (new_list r (by rw [r.length]; exact hk.1) 0) (FgOk.cons T.rel st.ext fo (fresh_size _) r.there)
theorem sem_tup {es : List Expr} {xs : Xs} {k : Nat} {pos : Pos} (h : SemL fname sc es xs) : SemE fname sc (.Tuple es k pos) (.tup xs) := by
  intro g Φ n F A s ρ fp K Q E T hw hQ
  conv at hw => whnf
  refine wpAny_Tuple (h g Φ n F A s ρ fp pos _ _ E T hw fun vs s₁ ds f as hk st r fo => ⟨?_, ?_⟩)
  · rw [r.length]; exact hk.1
  · exact hQ _ _ _ _ _ hk.2 (st.push _) (.tuple (Heap.get?_push_size _ rfl) rfl rfl rfl (by rw [List.size_toArray, r.length]; exact hk.1) (by simpa using Rps.ext (Ext.push _ _) r)) fo
end
end Mine
set_option Elab.async false
set_option maxRecDepth 100000
namespace Mine
open PySem PySem.Calls PyProof.Rows

section
variable {fname : Nat → Str} {g : Gx} {Φ : Calls} {n : Nat} {F : Fm} {sc : Scope} {A : Around} {s s' : Shared} {ρ : Vars} {fp : Nat → List Addr}

theorem imm_ok {h h' : Heap} {v : Value} {d : D} {as : List Addr} {f : Fg} (r : Rp h v d as) (hi : imm d = true) (hf : f.sh = false → f.u = []) : FgOk ρ fp h' f as := by
  rw [r.imm hi]; exact .nil hf

theorem sem_call {x : Str} {np pos : Pos} {e : Expr} {es : List Expr} {xs : Xs} {f : Nat} (hx : sc.names.lookup x = some .globalImplicit) (hn : fname f = x) (hf : f < 500) (hne : x ≠ Str.empty) (hd : (x == ("__debug__" : Str)) = false)
    (hs : noStar e = true) (ha : SemL fname sc (e :: es) xs) : SemE fname sc (.Call (.Name x np) (e :: es) [] pos) (.call f xs) := by
  intro g Φ n F A s ρ fp K Q E T h hQ
  conv at h => whnf
  obtain ⟨fa, o, fd, hmg, hb, hdat⟩ := T.named f (by omega) (by rw [hn]; exact hne)
  rw [hn] at hmg
  refine wpAny_Call_ofName (Name_function_global T.kind hx (loadGlobal_global (T.gd.glb.keeps T.rel.stays) hmg ?_) hd)
  refine callWith_def hdat (ha g Φ n F A s ρ fp pos _ _ E T h fun vs s₁ ds f' as hk st r fo => ⟨st.stays _ _ hb, ?_⟩) (starEach_cons hs)
  have q := T.fns _ _ _ hk
  unfold Spec at q
  rw [if_neg (by omega), if_neg (by omega)] at q
  obtain ⟨fa', q⟩ := q
  have e := q.named
  rw [hn, hmg] at e
  cases e
  refine q.run A s₁ vs as _ Q E T.room st.stays (T.step st).rel.frames r fun v s' d fr bs hk st' r' hfr => hQ _ _ _ _ _ hk (st.trans st') r' ?_
  refine FgOk.back st.ext ?_
  split
  · rename_i hi; exact imm_ok r' hi fun _ => rfl
  · split
    · rename_i hfr'
      have := hfr hfr'
      exact FgOk.new (T.step st).rel (fun _ => rfl) this.2 this.1
    · refine ⟨fun j d hj hu => ?_, fun q => (nomatch q)⟩
      exact absurd (List.mem_range.mpr (by rw [List.getElem?_eq_some_iff] at hj; exact hj.1)) hu

theorem blt1 {x : Str} {id : String} {np pos : Pos} {e : Expr} {a : X} {K : D → Fg → Prop} {Q E : Value → Shared → Prop} (T : At fname g Φ n F sc A s ρ fp) (hx : sc.names.lookup x = some .globalImplicit)
    (hb : (x, .builtin id) ∈ bltTab) (hd : (x == ("__debug__" : Str)) = false) (hs : noStar e = true) (he : SemE fname sc e a) (h : wE Φ ρ a K)
    (hQ : ∀ v s' d f as, K d f → Step g s s' → Rp s'.heap v d as → FgOk ρ fp s.heap f as → wpAny (model g.p g.w) A (call (.builtin id) [v]) Q E s') :
    wpAny (model g.p g.w) A (eval (.Call (.Name x np) [e] [] pos) (F.env sc)) Q E s :=
  wpAny_Call_ofName (blt_name T hx hb hd (callWith_builtin1 (args_cons (he g Φ n F A s ρ fp _ _ E T h fun v s' d f as hk st r fo => args_nil (hQ v s' d f as hk st r fo)) (starEach_cons hs)) (starEach_cons hs) rfl))
theorem typ1 {x : Str} {id : String} {np pos : Pos} {e : Expr} {a : X} {K : D → Fg → Prop} {Q E : Value → Shared → Prop} (T : At fname g Φ n F sc A s ρ fp) (hx : sc.names.lookup x = some .globalImplicit)
    (hb : (x, .type id) ∈ bltTab) (hd : (x == ("__debug__" : Str)) = false) (hs : noStar e = true) (he : SemE fname sc e a) (h : wE Φ ρ a K)
    (hQ : ∀ v s' d f as, K d f → Step g s s' → Rp s'.heap v d as → FgOk ρ fp s.heap f as → wpAny (model g.p g.w) A (call (.type id) [v]) Q E s') :
    wpAny (model g.p g.w) A (eval (.Call (.Name x np) [e] [] pos) (F.env sc)) Q E s :=
  wpAny_Call_ofName (blt_name T hx hb hd (callWith_type1 (args_cons (he g Φ n F A s ρ fp _ _ E T h fun v s' d f as hk st r fo => args_nil (hQ v s' d f as hk st r fo)) (starEach_cons hs)) (starEach_cons hs) rfl))
theorem sem_len {np pos : Pos} {e : Expr} {a : X} (hx : sc.names.lookup ("len" : Str) = some .globalImplicit) (hs : noStar e = true) (he : SemE fname sc e a) : SemE fname sc (.Call (.Name "len" np) [e] [] pos) (.len a) := by
  intro g Φ n F A s ρ fp K Q E T h hQ
  conv at h => whnf
  refine blt1 (id := "len") T hx (by simp [bltTab]) (by decide) hs he h fun v s' d f as hk st r fo => ?_
  cases r with
  | @list a o vs en xs as' e c di dt sz i =>
    have hl : vs.size = xs.length := by simpa using i.length
    refine PySem.Calls.call_len_list ⟨_, e, c, _, dt⟩ (line_lt sz) ?_
    rw [hl]; exact hQ _ _ _ _ [] hk (st.toks _) (.int _ _) .ff
  | @tuple a o vs en xs as' e c di dt sz i =>
    have hl : vs.size = xs.length := by simpa using i.length
    refine len_tuple ⟨_, e, c, _, dt⟩ (line_lt sz) ?_
    rw [hl]; exact hQ _ _ _ _ [] hk (st.toks _) (.int _ _) .ff
  | str x t z =>
    refine P.len_str ?_ (hQ _ _ _ _ [] hk (st.toks _) (.int _ _) .ff)
    have := line_lt z
    show ¬ (x.cps.size : Int) ≥ 2 ^ 63
    omega
  | _ => exact hk.elim

noncomputable def tyName : Ty → String
  | .int => "int"
  | .bool => "bool"
  | .list => "list"
  | .tuple => "tuple"
  | .str => "str"

theorem isi_rule {t : Ty} {v : Value} {d : D} {as : List Addr} {Q E : Value → Shared → Prop} (r : Rp s.heap v d as) (h : ∀ tk, Q (.bool (isTy t d)) { s with toks := tk }) : wpAny (model g.p g.w) A (call (.builtin "isinstance") [v, .type (tyName t)]) Q E s := by
  cases r with
  | none => cases t <;> first | exact IsiPair.NoneType_int (h _) | exact IsiPair.NoneType_bool (h _) | exact IsiPair.NoneType_list (h _) | exact IsiPair.NoneType_tuple (h _) | exact IsiPair.NoneType_str (h _)
  | bool b => cases t <;> first | exact IsiPair.bool_int (h s.toks) | exact IsiPair.bool_bool (h s.toks) | exact IsiPair.bool_list (h _) | exact IsiPair.bool_tuple (h _) | exact IsiPair.bool_str (h _)
  | int i u => cases t <;> first | exact IsiPair.int_int (h s.toks) | exact IsiPair.int_bool (h _) | exact IsiPair.int_list (h _) | exact IsiPair.int_tuple (h _) | exact IsiPair.int_str (h _)
  | str x u z => cases t <;> first | exact IsiPair.str_int (h _) | exact IsiPair.str_bool (h _) | exact IsiPair.str_list (h _) | exact IsiPair.str_tuple (h _) | exact IsiPair.str_str (h s.toks)
  | list e c => cases t <;> first | exact IsiPair.list_int e c (h _) | exact IsiPair.list_bool e c (h _) | exact IsiPair.list_list e c (h s.toks) | exact IsiPair.list_tuple e c (h _) | exact IsiPair.list_str e c (h _)
  | tuple e c => cases t <;> first | exact IsiPair.tuple_int e c (h _) | exact IsiPair.tuple_bool e c (h _) | exact IsiPair.tuple_list e c (h _) | exact IsiPair.tuple_tuple e c (h s.toks) | exact IsiPair.tuple_str e c (h _)

theorem sem_isinst {np tp pos : Pos} {e : Expr} {a : X} {t : Ty} (hx : sc.names.lookup ("isinstance" : Str) = some .globalImplicit) (ht : sc.names.lookup (Str.ofString (tyName t)) = some .globalImplicit) (hs : noStar e = true) (he : SemE fname sc e a) :
    SemE fname sc (.Call (.Name "isinstance" np) [e, .Name (tyName t) tp] [] pos) (.isinst a t) := by
  intro g Φ n F A s ρ fp K Q E T h hQ
  conv at h => whnf
  refine wpAny_Call_ofName (blt_name (v := .builtin "isinstance") T hx (by simp [bltTab]) (by decide) (callWith_builtin1 (args_cons (he g Φ n F A s ρ fp _ _ E T h fun v s₁ d f as hk st r fo => ?_) (starEach_cons hs)) (starEach_cons hs) rfl))
  have hb : (Str.ofString (tyName t), Value.type (tyName t)) ∈ bltTab := by cases t <;> simp [bltTab, tyName]
  refine args_cons (blt_name (T.step st) ht hb (by cases t <;> decide) (args_nil ?_)) rfl
  exact isi_rule r fun tk => hQ _ _ _ _ [] hk (st.toks tk) (.bool _) .ff

theorem sem_listOf {np pos : Pos} {e : Expr} {a : X} (hx : sc.names.lookup ("list" : Str) = some .globalImplicit) (hs : noStar e = true) (he : SemE fname sc e a) : SemE fname sc (.Call (.Name "list" np) [e] [] pos) (.listOf a) := by
  intro g Φ n F A s ρ fp K Q E T h hQ
  conv at h => whnf
  refine typ1 (id := "list") T hx (by simp [bltTab]) (by decide) hs he h fun v s' d f as hk st r fo => ?_
  cases r with
  | @list a o vs en xs as' e c di dt sz i =>
    refine call_list_seq a (.inl rfl) e c dt (fun h' c' kp hn => ?_) sz
    have st' := st.keep kp s'.toks
    refine hQ _ _ _ _ (s'.heap.objs.size :: as') hk st' (.list hn rfl rfl rfl sz (i.ext (.of_keep kp))) ?_
    exact cp_ok (f := f) T.rel st.ext i ((fo.sub (List.sublist_cons_self _ _)).shared) (fresh_size _)
  | _ => exact hk.elim

theorem sem_intOf {np pos : Pos} {e : Expr} {a : X} (hx : sc.names.lookup ("int" : Str) = some .globalImplicit) (hs : noStar e = true) (he : SemE fname sc e a) : SemE fname sc (.Call (.Name "int" np) [e] [] pos) (.intOf a) := by
  intro g Φ n F A s ρ fp K Q E T h hQ
  conv at h => whnf
  refine typ1 (id := "int") T hx (by simp [bltTab]) (by decide) hs he h fun v s' d f as hk st r fo => ?_
  cases r with
  | bool b => exact call_int_bool (hQ _ _ _ _ [] hk (st.toks _) (.int _ _) .ff)
  | int i t => exact call_int_int (hQ _ _ _ _ [] hk st (.int _ _) .ff)
  | str x t hz =>
    obtain ⟨h1, h2, h3, hk⟩ := hk
    have hx : x.length ≤ 640 := by simpa [Str.length] using h2
    have hd : NumText.AllDigits x.cps.toList := fun c hc => by have := h3 c hc; simpa [isDig] using this
    exact PySem.W.KIN.call_text (intText_digits hd h1 (by omega)) hx (hQ _ _ _ _ [] hk (st.toks _) (.int _ _) .ff)
  | _ => exact hk.elim

theorem txt_str {m : Int} (h : 0 ≤ m) : Str.ofString (toString m) = Mine.st (txt m) := by
  obtain ⟨k, rfl⟩ := Int.eq_ofNat_of_zero_le h
  rw [← st_list (Str.ofString _), PySem.W.KIN.signs_num]
  rfl
theorem txt_size {m : Int} (h : m < 10000000000) : (txt m).length ≤ sizeLine := by
  have := digits10_le (k := 10) (n := m.toNat) (by decide) (by omega)
  unfold txt
  rw [List.length_map]
  exact Nat.le_trans this (by decide)
theorem sem_strOf {np pos : Pos} {e : Expr} {a : X} (hx : sc.names.lookup ("str" : Str) = some .globalImplicit) (hs : noStar e = true) (he : SemE fname sc e a) : SemE fname sc (.Call (.Name "str" np) [e] [] pos) (.strOf a) := by
  intro g Φ n F A s ρ fp K Q E T h hQ
  conv at h => whnf
  refine typ1 (id := "str") T hx (by simp [bltTab]) (by decide) hs he h fun v s' d f as hk st r fo => ?_
  cases r with
  | int i t =>
    obtain ⟨h1, h2, hk⟩ := hk
    refine P.str_of_int ?_ ?_
    · by_cases h0 : i.natAbs = 0
      · rw [h0]; decide
      · refine (Nat.log2_lt h0).mpr (Nat.lt_trans (show i.natAbs < 2 ^ 64 by omega) ?_)
        exact Nat.pow_lt_pow_right (by decide) (by decide)
    · rw [txt_str h1]
      exact hQ _ _ _ _ [] hk (st.toks _) (.str _ _ (by show (txt i).toArray.size ≤ sizeLine; simpa using txt_size h2)) .ff
  | _ => exact hk.elim
end
end Mine
set_option Elab.async false
set_option maxRecDepth 100000
namespace Mine
open PySem PySem.Calls PyProof.Rows

section
variable {fname : Nat → Str} {g : Gx} {Φ : Calls} {n : Nat} {F : Fm} {sc : Scope} {A : Around} {s s' : Shared} {ρ : Vars} {fp : Nat → List Addr}

noncomputable def noSlice : Expr → Bool
  | .Slice .. => false
  | _ => true
theorem subscripted_plain {e : Expr} (h : noSlice e = true) (o i : Value) : subscripted e false o i = operate [o, i] (getItem o i) := by
  cases e <;> first | rfl | cases h

theorem line63 : (wordLid : Int) = 2 ^ 63 := rfl

theorem sem_idx {e i : Expr} {a k : X} {pos : Pos} (hi : noSlice i = true) (he : SemE fname sc e a) (hk : SemE fname sc i k) : SemE fname sc (.Subscript e i pos) (.idx a k) := by
  intro g Φ n F A s ρ fp K Q E T h hQ
  conv at h => whnf
  refine Subscript_ (he g Φ n F A s ρ fp _ _ E T h fun v s₁ x f as hk' st r fo => hk g Φ n F A s₁ ρ fp _ _ E (T.step st) hk' fun w s₂ y f' bs h' st' r' fo' => ?_)
  have st₂ := st.trans st'
  have r₂ := r.ext st'.ext
  unfold idxK at h'
  split at h'
  · rename_i xs j
    cases r'
    obtain ⟨h1, h2, h3, z, hz, hK⟩ := h'
    rw [line63] at h1 h2
    cases r₂ with
    | @list b o vs en _ as' e1 c di dt sz it =>
      obtain ⟨u, cs, hu, ru, hsub⟩ := it.get hz
      have hl : vs.size = xs.length := by simpa using it.length
      have hu' : vs[(place xs.length j).toNat]? = some u := by simpa using hu
      have hend := hQ u _ z _ cs hK st₂ ru (by
        split
        · rename_i hi; exact imm_ok ru hi fun _ => rfl
        · exact fo.sub (hsub.trans (List.sublist_cons_self _ _)))
      refine tail_any (T := "list") ⟨_, e1, c⟩ slot_list_getitem.lookup ?_ (subscripted_plain hi _ _)
      by_cases hneg : j < 0
      · rw [place, if_pos hneg] at h3 hu'
        exact wpAny_getItem_list_neg ⟨_, e1, c, _, dt⟩ hneg (by rw [hl]; omega) h1 (by rw [hl]; exact hu') hend
      · rw [place, if_neg hneg] at h3 hu'
        exact wpAny_getItem_list ⟨_, e1, c, _, dt⟩ h3 h2 hu' hend
  · rename_i xs j
    cases r'
    obtain ⟨h1, h2, h3, z, hz, hK⟩ := h'
    rw [line63] at h1 h2
    cases r₂ with
    | @tuple b o vs en _ as' e1 c di dt sz it =>
      obtain ⟨u, cs, hu, ru, hsub⟩ := it.get hz
      have hl : vs.size = xs.length := by simpa using it.length
      have hu' : vs[(place xs.length j).toNat]? = some u := by simpa using hu
      have hend := hQ u _ z _ cs hK st₂ ru (by
        split
        · rename_i hi; exact imm_ok ru hi fun _ => rfl
        · exact fo.sub hsub)
      refine tail_any (T := "tuple") ⟨_, e1, c⟩ slot_tuple_getitem.lookup ?_ (subscripted_plain hi _ _)
      have hlt : (place xs.length j).toNat < xs.length := by
        rw [List.getElem?_eq_some_iff] at hz; exact hz.1
      refine PyProof.Rows.getItem_tuple (j := (place xs.length j).toNat) ⟨_, e1, c, _, dt⟩ h1 h2 ?_ hu' hend
      rw [hl]
      unfold seqIndex?
      unfold place at h3 hlt ⊢
      split <;> rename_i hc <;> simp only [hc, if_true, if_false] at h3 hlt ⊢
      all_goals (first | (rw [if_pos (by omega)]) | (rw [if_neg (by omega)]) | (simp; omega))
  · rename_i x j
    cases r'
    obtain ⟨h1, h2, h3, c, hz, hK⟩ := h'
    rw [line63] at h1 h2
    cases r₂ with
    | str _ t hsz =>
      have hl : x.cps.toList.length = x.length := by simp [Str.length]
      have hlt : (place x.cps.toList.length j).toNat < x.length := by
        rw [List.getElem?_eq_some_iff] at hz; rw [← hl]; exact hz.1
      refine tail_any (T := "str") (by rfl) PySem.F.slot_str_getitem.lookup ?_ (subscripted_plain hi _ _)
      refine P.getItem_str (c := c) ?_ ?_ (hQ _ _ _ _ [] hK (st₂.toks _) (.str _ _ (by show 1 ≤ sizeLine; decide)) .ff)
      · rw [decide_eq_false (by omega), decide_eq_false (by omega)]; rfl
      · have e : seqIndex? j x.length = some (place x.cps.toList.length j).toNat := by
          rw [hl] at h3 hlt ⊢
          unfold seqIndex?
          unfold place at h3 hlt ⊢
          split <;> rename_i hc <;> simp only [hc, if_true, if_false] at h3 hlt ⊢
          all_goals (first | (rw [if_pos (by omega)]) | (rw [if_neg (by omega)]) | (simp; omega))
        rw [e]
        simpa using hz
  · exact h'.elim

theorem clip_cut (n : Nat) (k : Int) : clipAt n k = min (cut n k) n := by
  unfold clipAt cut
  split <;> omega

theorem pick_upto (items : Array Value) (k : Int) : slicePick items none (some k) none = (items.toList.take (cut items.size k)).toArray := by
  rw [slicePick_plain]
  simp only [Option.elim, List.drop_zero, Nat.sub_zero, clip_cut]
  congr 1
  rw [List.take_eq_take_iff]
  simp
theorem pick_from (items : Array Value) (k : Int) : slicePick items (some k) none none = (items.toList.drop (cut items.size k)).toArray := by
  rw [slicePick_plain]
  simp only [Option.elim, clip_cut]
  congr 1
  by_cases h : cut items.size k ≤ items.size
  · rw [Nat.min_eq_left h, List.take_of_length_le (by simp)]
  · rw [Nat.min_eq_right (by omega)]
    simp
    omega

theorem new_pick {vs : Array Value} {xs : List D} {as bs : List Addr} {ws : List Value} {ys : List D} {s₂ : Shared} {f : Fg} {K : D → Fg → Prop} {Q : Value → Shared → Prop} (T : At fname g Φ n F sc A s ρ fp) (st : Step g s s₂) {o : Obj}
    (i : Rps s₂.heap ws ys bs) (hf : FgOk ρ fp s.heap ⟨true, f.u⟩ bs) (hz : ws.length ≤ sizeLine) (hK : K (.list ys) (cpF ys f))
    (hQ : ∀ v s' d f as, K d f → Step g s s' → Rp s'.heap v d as → FgOk ρ fp s.heap f as → Q v s') :
    Q (.ref (s₂.heap.push o).objs.size) { s₂ with heap := (s₂.heap.push o).push { cls := .type "list", data := .seq ws.toArray } } := by
  have st' := st.push o
  exact hQ _ _ _ _ ((s₂.heap.push o).objs.size :: bs) hK (st'.push _) (new_list (i.ext (Ext.push _ _)) hz 0)
    (cp_ok (f := f) T.rel st'.ext (i.ext (Ext.push _ _)) hf (fresh_size _))

theorem idx_upto (len : Nat) (j : Int) : Builtin.Str.strSliceIndices none (some j) 1 len = Builtin.Str.strSliceIndices (some ((0 : Nat) : Int)) (some ((min (cut len j) len : Nat) : Int)) 1 len := by
  have e1 : max (0 : Int) (min ((0 : Nat) : Int) (len : Int)) = 0 := by omega
  have e2 : max (0 : Int) (min (if j < 0 then j + len else j) (len : Int)) = max (0 : Int) (min (((min (cut len j) len : Nat) : Int)) (len : Int)) := by
    unfold cut; split <;> omega
  have h1 : ¬ (((0 : Nat) : Int) < 0) := by omega
  have h2 : ¬ (((min (cut len j) len : Nat) : Int) < 0) := by omega
  simp only [Builtin.Str.strSliceIndices, h1, h2, if_false, show ((1 : Int) > 0) = True from by simp, if_true, e1, e2]
theorem idx_from (len : Nat) (j : Int) : Builtin.Str.strSliceIndices (some j) none 1 len = Builtin.Str.strSliceIndices (some ((min (cut len j) len : Nat) : Int)) (some ((len : Nat) : Int)) 1 len := by
  have e2 : max (0 : Int) (min (if j < 0 then j + len else j) (len : Int)) = max (0 : Int) (min (((min (cut len j) len : Nat) : Int)) (len : Int)) := by
    unfold cut; split <;> omega
  have e3 : max (0 : Int) (min ((len : Nat) : Int) (len : Int)) = len := by omega
  have h2 : ¬ (((min (cut len j) len : Nat) : Int) < 0) := by omega
  have h3 : ¬ (((len : Nat) : Int) < 0) := by omega
  simp only [Builtin.Str.strSliceIndices, h2, h3, if_false, show ((1 : Int) > 0) = True from by simp, if_true, e2, e3]
theorem post_slice {x : Str} {t : Tok} {l u : Option (Int × Tok)} {w : List Nat} {Q : Value → Shared → Prop} (hz : x.cps.size ≤ sizeLine) (hw : (slicePicked x l u none).filterMap (x.cps[·]?) = w) (hl : (slicePicked x l u none).length = w.length) (hwl : w.length ≤ x.length) (hwx : w.length = x.length → w = x.cps.toList)
    (h : ∀ t' k, w.length ≤ x.length → Q (.str (Mine.st w) t') { s with toks := k }) : (sliceMade x t l u none).post Q s := by
  unfold sliceMade
  split
  · rename_i hc
    simp only [Option.map_none, Option.getD_none, beq_self_eq_true, Bool.true_and, beq_iff_eq] at hc
    have q := h t s.toks hwl
    rw [hwx (by omega), st_list] at q
    exact q
  · have q := h s.toks (s.toks + 1) hwl
    rw [hw]
    exact ⟨by show w.toArray.size ≤ sizeLine; simp; exact Nat.le_trans hwl hz, q⟩

theorem sem_upto {e i : Expr} {a k : X} {p pos : Pos} (he : SemE fname sc e a) (hk : SemE fname sc i k) : SemE fname sc (.Subscript e (.Slice none (some i) none p) pos) (.upto a k) := by
  intro g Φ n F A s ρ fp K Q E T h hQ
  conv at h => whnf
  refine Subscript_ (he g Φ n F A s ρ fp _ _ E T h fun v s₁ x f as hk' st r fo => wpAny_Slice (wpAny_pure (hk g Φ n F A s₁ ρ fp _ _ E (T.step st) hk' fun w s₂ y f' bs h' st' r' fo' => wpAny_pure ?_)))
  have st₂ := st.trans st'
  have r₂ := r.ext st'.ext
  split at h'
  · rename_i xs j
    cases r'
    cases r₂ with
    | @list b o vs en _ as' e1 c di dt sz it =>
      have hl : vs.size = xs.length := by simpa using it.length
      refine tail_any (T := "list") ⟨_, Heap.get?_push_of_some _ e1, c⟩ slot_list_getitem.lookup ?_ rfl
      refine wpAny_getItem_list_slice (l := b) ⟨_, Heap.get?_push_of_some _ e1, c, _, dt⟩ (Heap.IsSliceOf.new ..) .none (.int _ _) .none (by simp) ?_ sz
      rw [pick_upto, hl]
      obtain ⟨cs, hr, hsub⟩ := it.sub 0 (cut xs.length j)
      simp only [List.drop_zero] at hr
      exact new_pick (vs := vs) (xs := xs) (as := as') T st₂ hr ((fo.sub (hsub.trans (List.sublist_cons_self _ _))).shared) (Nat.le_trans (List.length_take_le' _ _) (by simpa using sz)) h' hQ
  · rename_i x j
    cases r'
    cases r₂ with
    | str _ t hsz =>
      rename_i tk
      have hl : x.cps.toList.length = x.length := by simp [Str.length]
      have hp : slicePicked x none (some (j, tk)) none = Builtin.Str.strSliceIndices (some ((0 : Nat) : Int)) (some ((min (cut x.length j) x.length : Nat) : Int)) 1 x.length := idx_upto x.length j
      have hq := StrLaws.sliced_plain x (a := 0) (b := min (cut x.length j) x.length) (Nat.zero_le _) (Nat.min_le_right _ _)
      have ew : (x.cps.toList.drop 0).take (min (cut x.length j) x.length - 0) = x.cps.toList.take (cut x.cps.toList.length j) := by
        rw [hl, List.drop_zero, Nat.sub_zero, List.take_eq_take_iff, hl]; omega
      rw [ew] at hq
      refine tail_any (T := "str") (by rfl) PySem.F.slot_str_getitem.lookup ?_ rfl
      refine wpAny_getItem_str_slice (l := none) (u := some (j, tk)) (st := none) ⟨_, Heap.get?_push_size _ rfl, rfl, rfl⟩ rfl (post_slice (w := x.cps.toList.take (cut x.cps.toList.length j)) hsz (by rw [hp]; exact hq) ?_ (by simp [hl]; omega) ?_ fun t' k hle => ?_)
      · rw [hp, StrLaws.strSliceIndices_plain (Nat.zero_le _) (Nat.min_le_right _ _)]; simp [hl]
      · intro hle; exact List.take_of_length_le (by simp [hl] at hle ⊢; omega)
      · exact hQ _ _ _ _ [] h' ((st₂.push _).toks k) (.str _ _ (by show (x.cps.toList.take _).toArray.size ≤ sizeLine; rw [List.size_toArray]; exact Nat.le_trans hle hsz)) .ff
  · exact h'.elim

theorem sem_from {e i : Expr} {a k : X} {p pos : Pos} (he : SemE fname sc e a) (hk : SemE fname sc i k) : SemE fname sc (.Subscript e (.Slice (some i) none none p) pos) (.from a k) := by
  intro g Φ n F A s ρ fp K Q E T h hQ
  conv at h => whnf
  refine Subscript_ (he g Φ n F A s ρ fp _ _ E T h fun v s₁ x f as hk' st r fo => wpAny_Slice (hk g Φ n F A s₁ ρ fp _ _ E (T.step st) hk' fun w s₂ y f' bs h' st' r' fo' => wpAny_pure (wpAny_pure ?_)))
  have st₂ := st.trans st'
  have r₂ := r.ext st'.ext
  split at h'
  · rename_i xs j
    cases r'
    cases r₂ with
    | @list b o vs en _ as' e1 c di dt sz it =>
      have hl : vs.size = xs.length := by simpa using it.length
      refine tail_any (T := "list") ⟨_, Heap.get?_push_of_some _ e1, c⟩ slot_list_getitem.lookup ?_ rfl
      refine wpAny_getItem_list_slice (l := b) ⟨_, Heap.get?_push_of_some _ e1, c, _, dt⟩ (Heap.IsSliceOf.new ..) (.int _ _) .none .none (by simp) ?_ sz
      rw [pick_from, hl]
      obtain ⟨cs, hr, hsub⟩ := it.sub (cut xs.length j) xs.length
      rw [List.take_of_length_le (by simp; omega), List.take_of_length_le (by simp)] at hr
      exact new_pick (vs := vs) (xs := xs) (as := as') T st₂ hr ((fo.sub (hsub.trans (List.sublist_cons_self _ _))).shared) (by simp; omega) h' hQ
  · rename_i x j
    cases r'
    cases r₂ with
    | str _ t hsz =>
      rename_i tk
      have hl : x.cps.toList.length = x.length := by simp [Str.length]
      have hp : slicePicked x (some (j, tk)) none none = Builtin.Str.strSliceIndices (some ((min (cut x.length j) x.length : Nat) : Int)) (some ((x.length : Nat) : Int)) 1 x.length := idx_from x.length j
      have hq := StrLaws.sliced_plain x (a := min (cut x.length j) x.length) (b := x.length) (Nat.min_le_right _ _) (Nat.le_refl _)
      have ew : (x.cps.toList.drop (min (cut x.length j) x.length)).take (x.length - min (cut x.length j) x.length) = x.cps.toList.drop (cut x.cps.toList.length j) := by
        rw [hl, List.take_of_length_le (by simp [hl])]
        by_cases hc : cut x.length j ≤ x.length
        · rw [Nat.min_eq_left hc]
        · rw [Nat.min_eq_right (by omega), List.drop_of_length_le (by omega), List.drop_of_length_le (by omega)]
      rw [ew] at hq
      refine tail_any (T := "str") (by rfl) PySem.F.slot_str_getitem.lookup ?_ rfl
      refine wpAny_getItem_str_slice (l := some (j, tk)) (u := none) (st := none) ⟨_, Heap.get?_push_size _ rfl, rfl, rfl⟩ rfl (post_slice (w := x.cps.toList.drop (cut x.cps.toList.length j)) hsz (by rw [hp]; exact hq) ?_ (by simp [hl]) ?_ fun t' k hle => ?_)
      · rw [hp, StrLaws.strSliceIndices_plain (Nat.min_le_right _ _) (Nat.le_refl _)]; simp [hl]; omega
      · intro hle
        by_cases h0 : x.length = 0
        · have : x.cps.toList = [] := List.length_eq_zero_iff.mp (by omega)
          rw [this]; simp
        · have : cut x.cps.toList.length j = 0 := by simp [hl] at hle ⊢; omega
          rw [this]; rfl
      · exact hQ _ _ _ _ [] h' ((st₂.push _).toks k) (.str _ _ (by show (x.cps.toList.drop _).toArray.size ≤ sizeLine; rw [List.size_toArray]; exact Nat.le_trans hle hsz)) .ff
  · exact h'.elim
end
end Mine
set_option Elab.async false
set_option maxRecDepth 100000
set_option linter.unusedVariables false
namespace Mine
open PySem PySem.Calls PyProof.Rows

noncomputable def FlowIs (F : Fm) (h : Heap) : Fl → Flow → Prop
  | .next, .next => True
  | .brk, .brk => True
  | .cont, .cont => True
  | .ret d fr, .ret v => ∃ as, Rp h v d as ∧ (fr = true → as.Nodup ∧ ∀ a ∈ as, F.H a = none)
  | _, _ => False

theorem Later.refl (s : Shared) : Later s s := ⟨s.heap, s.toks, rfl⟩
theorem Later.trans {s₁ s₂ s₃ : Shared} (x : Later s₁ s₂) (y : Later s₂ s₃) : Later s₁ s₃ := by
  obtain ⟨h, tk, rfl⟩ := x; obtain ⟨h', tk', rfl⟩ := y; exact ⟨h', tk', rfl⟩
theorem Step.later {g : Gx} {s s' : Shared} (x : Step g s s') : Later s s' := by obtain ⟨h, tk, rfl, _⟩ := x; exact ⟨h, tk, rfl⟩

noncomputable def SemS (fname : Nat → Str) (sc : Scope) (st : Stmt) (x : S) : Prop :=
  ∀ (g : Gx) (Φ : Calls) (n : Nat) (F : Fm) (A : Around) (s : Shared) (ρ : Vars) (fp : Nat → List Addr) (Q : Fl → Vars → Prop) (R : Flow → Shared → Prop) (E : Value → Shared → Prop),
    At fname g Φ n F sc A s ρ fp → wS Φ x Q ρ →
    (∀ fl fl' s' ρ' fp', Q fl ρ' → FlowIs F s'.heap fl fl' → Later s s' → Rel g F sc s'.heap ρ' fp' → R fl' s') →
    wpAny (model g.p g.w) A (exec st (F.env sc)) R E s
noncomputable def SemSs (fname : Nat → Str) (sc : Scope) (st : List Stmt) (x : Ss) : Prop :=
  ∀ (g : Gx) (Φ : Calls) (n : Nat) (F : Fm) (A : Around) (s : Shared) (ρ : Vars) (fp : Nat → List Addr) (Q : Fl → Vars → Prop) (R : Flow → Shared → Prop) (E : Value → Shared → Prop),
    At fname g Φ n F sc A s ρ fp → wSs Φ x Q ρ →
    (∀ fl fl' s' ρ' fp', Q fl ρ' → FlowIs F s'.heap fl fl' → Later s s' → Rel g F sc s'.heap ρ' fp' → R fl' s') →
    wpAny (model g.p g.w) A (execs st (F.env sc)) R E s

theorem dem_get : ∀ (u : List Nat) (ρ : Vars) (j : Nat), (∀ d, (dem ρ u)[j]? = some (.own d) → ρ[j]? = some (.own d) ∧ j ∉ u) ∧ (∀ d, (dem ρ u)[j]? = some (.val d) → ρ[j]? = some (.val d) ∨ ρ[j]? = some (.own d)) ∧
    (∀ d, (ρ[j]? = some (.val d) ∨ ρ[j]? = some (.own d)) → (dem ρ u)[j]? = some (.val d) ∨ (dem ρ u)[j]? = some (.own d)) ∧ (dem ρ u).length = ρ.length
  | [], ρ, j => ⟨fun d h => ⟨h, fun q => (nomatch q)⟩, fun d h => .inl h, fun d h => h, rfl⟩
  | i :: u, ρ, j => by
    unfold dem
    split
    · rename_i d hi
      obtain ⟨h1, h2, h3, h4⟩ := dem_get u (ρ.set i (.val d)) j
      have hlt : i < ρ.length := by rw [List.getElem?_eq_some_iff] at hi; exact hi.1
      by_cases hij : j = i
      · subst hij
        have e : (ρ.set j (.val d))[j]? = some (.val d) := by simp [hlt]
        refine ⟨fun e' h => ?_, fun e' h => ?_, fun e' h => ?_, by simpa using h4⟩
        · have := (h1 e' h).1; rw [e] at this; cases this
        · rcases h2 e' h with q | q <;> rw [e] at q <;> cases q
          exact .inr hi
        · have hd : e' = d := by rcases h with q | q <;> rw [hi] at q <;> cases q; rfl
          subst hd
          exact h3 e' (.inl e)
      · have e : (ρ.set i (.val d))[j]? = ρ[j]? := by simp [List.getElem?_set, Ne.symm hij]
        rw [e] at h1 h2 h3
        refine ⟨fun e' h => ⟨(h1 e' h).1, fun q => ?_⟩, h2, h3, by simpa using h4⟩
        rcases List.mem_cons.mp q with q | q
        · exact hij q
        · exact (h1 e' h).2 q
    · rename_i hno
      obtain ⟨h1, h2, h3, h4⟩ := dem_get u ρ j
      refine ⟨fun e' h => ⟨(h1 e' h).1, fun q => ?_⟩, h2, h3, h4⟩
      rcases List.mem_cons.mp q with q | q
      · subst q; exact hno _ (h1 e' h).1
      · exact (h1 e' h).2 q

section
variable {fname : Nat → Str} {g : Gx} {Φ : Calls} {n : Nat} {F : Fm} {sc : Scope} {A : Around} {s s' : Shared} {ρ : Vars} {fp : Nat → List Addr} {h h' : Heap}

theorem Rel.dem (R : Rel g F sc h ρ fp) (u : List Nat) : Rel g F sc h (dem ρ u) fp where
  stays := R.stays
  held := R.held
  frames := R.frames
  ns := R.ns
  hL := R.hL
  cells := R.cells
  cnd := R.cnd
  ccov := R.ccov
  len := (dem_get u ρ 0).2.2.2.trans R.len
  nd := R.nd
  vars := fun i d e => R.vars i d (by
    rcases e with e | e
    · exact (dem_get u ρ i).2.1 d e
    · exact .inr ((dem_get u ρ i).1 d e).1)
  nofp := fun i e => R.nofp i fun d => ⟨fun q => by rcases (dem_get u ρ i).2.2.1 d (.inl q) with q | q; exact (e d).1 q; exact (e d).2 q, fun q => by rcases (dem_get u ρ i).2.2.1 d (.inr q) with q | q; exact (e d).1 q; exact (e d).2 q⟩
  own := fun i d e => R.own i d ((dem_get u ρ i).1 d e).1

noncomputable def Priv (F : Fm) (b : Addr) : Prop := b = F.L ∨ ∃ p ∈ F.cl, b = p.2

structure Stored (F : Fm) (sc : Scope) (h h' : Heap) (x : Str) (v : Value) : Prop where
  is : VarIs (F.env sc) h' x v
  oth : ∀ y w, y ≠ x → VarIs (F.env sc) h y w → VarIs (F.env sc) h' y w
  keep : ∀ b o, h.get? b = some o → ¬ Priv F b → h'.get? b = some o
  ns : ∃ m, h'.Ns F.L m
  cells : ∀ p ∈ F.cl, ∃ o v, h'.get? p.2 = some o ∧ o.data = .cell v

theorem Rel.privData (R : Rel g F sc h ρ fp) {b : Addr} (hb : Priv F b) {o : Obj} (e : h.get? b = some o) : ∀ vs n, o.data ≠ .seq vs n := by
  intro vs k hd
  rcases hb with rfl | ⟨p, hp, rfl⟩
  · obtain ⟨m, o', es, ep, ho, hd', _⟩ := R.ns
    rw [e] at ho; cases ho; rw [hd] at hd'; cases hd'
  · obtain ⟨_, _, o', v, ho, hd'⟩ := R.cells p hp
    rw [e] at ho; cases ho; rw [hd] at hd'; cases hd'

theorem Rel.stayBut (R : Rel g F sc h ρ fp) (k : ∀ b o, h.get? b = some o → ¬ Priv F b → h'.get? b = some o) : StayBut (Priv F) h h' :=
  ⟨fun b o e hb => .inl (k b o e hb), fun b o hb e => .inr (R.privData hb e)⟩
theorem Rel.rpStay (R : Rel g F sc h ρ fp) (k : ∀ b o, h.get? b = some o → ¬ Priv F b → h'.get? b = some o) {v d as} (r : Rp h v d as) : Rp h' v d as :=
  r.stay (R.stayBut k) fun a ha hb => by
    obtain ⟨o, vs, m, e, _, _, hd, _⟩ := r.mem a ha
    exact R.privData hb e vs m hd

theorem FunFrames.data {base : Heap} (k : ∀ b o, h.get? b = some o → (∀ vs, o.data ≠ .fields vs) → ∃ o', h'.get? b = some o' ∧ ∀ vs, o'.data ≠ .fields vs) : ∀ {l : List Env}, h.FunFrames base l → h'.FunFrames base l
  | [], _ => trivial
  | env :: l, hl => by
    obtain ⟨hk, ⟨L, o, hf, hn, ho, hd⟩, hr⟩ := hl
    obtain ⟨o', ho', hd'⟩ := k L o ho hd
    exact ⟨hk, ⟨L, o', hf, hn, ho', hd'⟩, FunFrames.data k hr⟩

theorem Rel.baseL (R : Rel g F sc h ρ fp) : g.base.get? F.L = none := by
  obtain ⟨_, ⟨L, o, hf, hn, _⟩, _⟩ := R.frames
  cases hf; exact hn

theorem slots_ne {xs : List Str} (nd : xs.Nodup) {i j : Nat} {x y : Str} (hx : xs[i]? = some x) (hy : xs[j]? = some y) (h : j ≠ i) : y ≠ x := by
  rw [List.getElem?_eq_some_iff] at hx hy
  obtain ⟨hi, hx⟩ := hx
  obtain ⟨hj, hy⟩ := hy
  intro e
  have pw := List.pairwise_iff_getElem.mp nd
  rcases Nat.lt_or_gt_of_ne h with q | q
  · exact pw j i hj hi q (by rw [hx, hy, e])
  · exact pw i j hi hj q (by rw [hx, hy, e])

theorem Rel.put (R : Rel g F sc h ρ fp) {x : Str} {i : Nat} {v : Value} {d : D} {as : List Addr} {c : Cell} (hx : (slots sc)[i]? = some x) (S : Stored F sc h h' x v) (r : Rp h v d as) (hc : c = .val d ∨ c = .own d)
    (hown : ∀ j e, j ≠ i → ρ[j]? = some (.own e) → ∀ a ∈ as, a ∉ fp j) (hnew : c = .own d → as.Nodup ∧ (∀ a ∈ as, F.H a = none ∧ g.base.get? a = none) ∧ ∀ j, j ≠ i → ∀ a ∈ as, a ∉ fp j) :
    Rel g F sc h' (ρ.set i c) (fun j => if j = i then as else fp j) := by
  have hlt : i < ρ.length := by rw [R.len]; rw [List.getElem?_eq_some_iff] at hx; exact hx.1
  have hi : (ρ.set i c)[i]? = some c := by simp [hlt]
  have hj : ∀ j, j ≠ i → (ρ.set i c)[j]? = ρ[j]? := fun j hne => by simp [List.getElem?_set, Ne.symm hne]
  refine ⟨fun b o e => S.keep b o (R.stays b o e) ?_, fun b o e => ?_, FunFrames.data (fun b o e hd => ?_) R.frames, S.ns, R.hL, fun p hp => ?_, R.cnd, R.ccov, by simpa using R.len, R.nd, fun j e he => ?_, fun j e => ?_, fun j e he => ?_⟩
  · rintro (rfl | ⟨p, hp, rfl⟩)
    · rw [R.baseL] at e; cases e
    · rw [(R.cells p hp).2.1] at e; cases e
  · have hb : ¬ Priv F b := by
      rintro (rfl | ⟨p, hp, rfl⟩)
      · rw [R.hL] at e; cases e
      · rw [(R.cells p hp).1] at e; cases e
    rcases R.held b o e with q | ⟨hd, sl, q⟩
    · exact .inl (S.keep b o q hb)
    · exact .inr ⟨hd, sl, S.keep b _ q hb⟩
  · by_cases hb : Priv F b
    · rcases hb with rfl | ⟨p, hp, rfl⟩
      · obtain ⟨m, o', es, ep, ho, hd', _⟩ := S.ns
        exact ⟨o', ho, fun vs q => by rw [hd'] at q; cases q⟩
      · obtain ⟨o', w, ho, hd'⟩ := S.cells p hp
        exact ⟨o', ho, fun vs q => by rw [hd'] at q; cases q⟩
    · exact ⟨o, S.keep b o e hb, hd⟩
  · obtain ⟨a, b, _⟩ := R.cells p hp
    exact ⟨a, b, S.cells p hp⟩
  · by_cases hne : j = i
    · subst hne
      rw [hi] at he
      have he' : e = d := by rcases hc with q | q <;> rcases he with p | p <;> rw [q] at p <;> cases p <;> rfl
      subst he'
      rw [if_pos rfl]
      exact ⟨x, v, hx, S.is, R.rpStay S.keep r⟩
    · rw [hj j hne] at he
      rw [if_neg hne]
      obtain ⟨y, w, hy, hv, hr⟩ := R.vars j e he
      exact ⟨y, w, hy, S.oth y w (slots_ne R.nd hx hy hne) hv, R.rpStay S.keep hr⟩
  · by_cases hne : j = i
    · subst hne
      rw [hi] at e
      rcases hc with q | q
      · exact absurd (congrArg some q) (e d).1
      · exact absurd (congrArg some q) (e d).2
    · rw [hj j hne] at e
      rw [if_neg hne]; exact R.nofp j e
  · by_cases hne : j = i
    · subst hne
      rw [hi] at he
      have hcd : c = .own d := by
        rcases hc with q | q
        · rw [q] at he; cases he
        · exact q
      have q := hnew hcd
      simp only [if_true]
      refine ⟨q.1, q.2.1, fun k hk a ha => ?_⟩
      rw [if_neg hk]; exact q.2.2 k hk a ha
    · rw [hj j hne] at he
      simp only [if_neg hne]
      obtain ⟨o1, o2, o3⟩ := R.own j e he
      refine ⟨o1, o2, fun k hk a ha => ?_⟩
      by_cases hki : k = i
      · rw [if_pos hki]; exact fun q => hown j e hne he a q ha
      · rw [if_neg hki]; exact o3 k hk a ha

theorem mem_of_look : ∀ {l : List (Str × Addr)} {u : Str} {k : Addr}, l.lookup u = some k → (u, k) ∈ l
  | [], _, _, e => by cases e
  | (z, w) :: r, u, k, e => by
    rw [List.lookup_cons] at e
    by_cases h : (u == z) = true
    · simp only [h] at e; cases e; rw [beq_iff_eq.mp h]; exact .head _
    · simp only [h] at e; exact .tail _ (mem_of_look e)

theorem cells_ne (nd : (F.cl.map (·.2)).Nodup) : ∀ {x y : Str} {c c' : Addr}, F.cl.lookup x = some c → F.cl.lookup y = some c' → y ≠ x → c' ≠ c := by
  have key : ∀ (l : List (Str × Addr)), (l.map (·.2)).Nodup → ∀ {x y : Str} {c c' : Addr}, l.lookup x = some c → l.lookup y = some c' → y ≠ x → c' ≠ c := by
    intro l
    induction l with
    | nil => intro _ x y c c' h; cases h
    | cons p r ih =>
      obtain ⟨z, w⟩ := p
      intro nd x y c c' hx hy hne
      simp only [List.map_cons, List.nodup_cons] at nd
      have memOf : ∀ {u : Str} {k : Addr}, r.lookup u = some k → k ∈ r.map (·.2) := by
        intro u k hk
        exact List.mem_map.mpr ⟨(u, k), mem_of_look hk, rfl⟩
      rw [List.lookup_cons] at hx hy
      by_cases h1 : (x == z) = true
      · simp only [h1] at hx
        cases hx
        by_cases h2 : (y == z) = true
        · exact absurd ((beq_iff_eq.mp h2).trans (beq_iff_eq.mp h1).symm) hne
        · simp only [h2] at hy
          intro q; subst q; exact nd.1 (memOf hy)
      · simp only [h1] at hx
        by_cases h2 : (y == z) = true
        · simp only [h2] at hy
          cases hy
          intro q; subst q; exact nd.1 (memOf hx)
        · simp only [h2] at hy
          exact ih nd.2 hx hy hne
  intro x y c c' h1 h2 h3
  exact key F.cl nd h1 h2 h3

theorem store0 {x : Str} {i : Nat} {v : Value} {R : Unit → Shared → Prop} {E : Value → Shared → Prop} (hkd : sc.kind = .function) (Rl : Rel g F sc s.heap ρ fp) (hk : sc.names.lookup x = some .local ∨ sc.names.lookup x = some .cell)
    (hR : ∀ h' tk, Stored F sc s.heap h' x v → R () { s with heap := h', toks := tk }) : wpAny (model g.p g.w) A (storeName (F.env sc) x v) R E s := by
  rcases hk with hk | hk
  · obtain ⟨m, hn⟩ := Rl.ns
    have hp : ((F.env sc).scope.kind == .class || ((F.env sc).scope.kind == .module && (F.env sc).locals != (F.env sc).globals)) = false := by
      show (sc.kind == .class || (sc.kind == .module && F.L != mainGlobals)) = false
      rw [hkd]; rfl
    refine wpAny_storeName_local hk hn (fun h' hn' hs => hR h' _ ?_) hp
    have keep : ∀ b o, s.heap.get? b = some o → ¬ Priv F b → h'.get? b = some o := fun b o e hb => (hs.2 b fun q => hb (.inl q)).trans e
    have hcl : ∀ p ∈ F.cl, p.2 ≠ F.L := fun p hp q => by
      obtain ⟨_, _, o, w, ho, hd⟩ := Rl.cells p hp
      obtain ⟨o', es, ep, ho', hd', _⟩ := hn
      rw [q, ho'] at ho; cases ho; rw [hd'] at hd; cases hd
    refine ⟨.inl ⟨hk, _, hn', by simp⟩, fun y w hne hv => ?_, keep, ⟨_, hn'⟩, fun p hp => ?_⟩
    · rcases hv with ⟨hl, m', hm', hv'⟩ | ⟨hl, c, o, h1, h2, h3⟩
      · refine .inl ⟨hl, _, hn', ?_⟩
        rw [if_neg hne]
        obtain ⟨o, es, ep, ho, hd, _, hf⟩ := hn
        obtain ⟨o', es', ep', ho', hd', _, hf'⟩ := hm'
        rw [show (F.env sc).locals = F.L from rfl, ho] at ho'
        cases ho'
        rw [hd] at hd'; cases hd'
        rw [← hf, hf', hv']
      · exact .inr ⟨hl, c, o, h1, (hs.2 c (hcl _ (mem_of_look h1))).trans h2, h3⟩
    · obtain ⟨_, _, o, w, ho, hd⟩ := Rl.cells p hp
      exact ⟨o, w, (hs.2 p.2 (hcl p hp)).trans ho, hd⟩
  · obtain ⟨c, hc⟩ := Rl.ccov x hk
    obtain ⟨_, _, o, v₀, ho, hd⟩ := Rl.cells _ (mem_of_look hc)
    refine wpAny_storeName_cell hkd hk hc ⟨o, ho, hd⟩ fun h' hn' hs => hR h' s.toks ?_
    obtain ⟨o', ho', hd'⟩ := hn'
    have keep : ∀ b o, s.heap.get? b = some o → ¬ Priv F b → h'.get? b = some o := fun b o e hb => (hs.2 b fun q => hb (.inr ⟨_, mem_of_look hc, q⟩)).trans e
    have hcL : c ≠ F.L := fun q => by
      obtain ⟨m, o2, es, ep, ho2, hd2, _⟩ := Rl.ns
      rw [← q, ho] at ho2; cases ho2; rw [hd] at hd2; cases hd2
    obtain ⟨m, hn⟩ := Rl.ns
    refine ⟨.inr ⟨hk, c, o', hc, ho', hd'⟩, fun y w hne hv => ?_, keep, ⟨m, hn.sameBut hs (Ne.symm hcL)⟩, fun p hp => ?_⟩
    · rcases hv with ⟨hl, m', hm', hv'⟩ | ⟨hl, c', o2, h1, h2, h3⟩
      · exact .inl ⟨hl, m', Heap.Ns.sameBut hm' hs (Ne.symm hcL), hv'⟩
      · exact .inr ⟨hl, c', o2, h1, (hs.2 c' (cells_ne Rl.cnd hc h1 hne)).trans h2, h3⟩
    · by_cases q : p.2 = c
      · rw [q]; exact ⟨o', _, ho', hd'⟩
      · obtain ⟨_, _, o2, w, ho2, hd2⟩ := Rl.cells p hp
        exact ⟨o2, w, (hs.2 p.2 q).trans ho2, hd2⟩

theorem store_rule {x : Str} {i : Nat} {v : Value} {R : Unit → Shared → Prop} {E : Value → Shared → Prop} (T : At fname g Φ n F sc A s ρ fp) (hk : sc.names.lookup x = some .local ∨ sc.names.lookup x = some .cell)
    (hR : ∀ h' tk, Stored F sc s.heap h' x v → R () { s with heap := h', toks := tk }) : wpAny (model g.p g.w) A (storeName (F.env sc) x v) R E s :=
  store0 (i := i) T.kind T.rel hk hR

theorem Rel.asg {s₀ : Shared} (R₀ : Rel g F sc s₀.heap ρ fp) (R : Rel g F sc h ρ fp) (x : Ext s₀.heap h) {y : Str} {i : Nat} {v : Value} {d : D} {f : Fg} {as : List Addr} (hx : (slots sc)[i]? = some y) (S : Stored F sc h h' y v) (r : Rp h v d as) (fo : FgOk ρ fp s₀.heap f as) :
    Rel g F sc h' (Mine.asg ρ i d f) (fun j => if j = i then as else fp j) := by
  unfold Mine.asg
  split
  · rename_i hi
    have e := r.imm hi
    subst e
    exact R.put hx S r (.inl rfl) (fun _ _ _ _ _ ha => (nomatch ha)) fun q => (nomatch q)
  · split
    · rename_i hf
      have q := fo.2 hf.1
      rw [hf.2] at q
      have fresh : ∀ a ∈ as, s₀.heap.get? a = none := fun a ha => by
        rcases q.1 a ha with q | ⟨j, hj, _⟩
        · exact q
        · cases hj
      have hdis : ∀ j, ∀ a ∈ as, a ∉ fp j := fun j a ha q => by
        obtain ⟨o, _, _, e, _⟩ := R₀.fp_there j a q
        rw [fresh a ha] at e; cases e
      refine R.put hx S r (.inr rfl) (fun j _ _ _ => hdis j) fun _ => ⟨q.2.1 List.nodup_nil, fun a ha => ⟨?_, ?_⟩, fun j _ => hdis j⟩
      · cases hq : F.H a with
        | none => rfl
        | some o => rcases R₀.held a o hq with e | ⟨_, _, e⟩ <;> rw [fresh a ha] at e <;> cases e
      · cases hq : g.base.get? a with
        | none => rfl
        | some o => have e := R₀.stays a o hq; rw [fresh a ha] at e; cases e
    · refine (R.dem f.u).put hx S r (.inl rfl) (fun j e _ hj a ha => ?_) fun q => (nomatch q)
      have := (dem_get f.u ρ j).1 e hj
      exact fo.1 j e this.1 this.2 a ha

noncomputable def noComp : Expr → Bool
  | .ListComp .. | .SetComp .. | .DictComp .. => false
  | _ => true
theorem swaps_no {e : Expr} (h : noComp e = true) (t : Option Expr) (l : Nat) (env : Env) : swapsWith e t l env = pure false := by
  cases e <;> first | rfl | cases h

theorem sem_assign {x : Str} {p pos : Pos} {e : Expr} {a : X} {i : Nat} (hx : (slots sc)[i]? = some x) (hk : sc.names.lookup x = some .local ∨ sc.names.lookup x = some .cell) (hn : noComp e = true) (he : SemE fname sc e a) :
    SemS fname sc (.Assign [.Name x p] e pos) (.assign i a) := by
  intro g Φ n F A s ρ fp Q R E T h hR
  conv at h => whnf
  refine wpAny_Assign_Name (he g Φ n F A s ρ fp _ _ E T h fun v s₁ d f as hq st r fo => store_rule (i := i) (T.step st) hk fun h' tk S => ?_) (swaps_no hn _ _ _)
  have R' := Rel.asg T.rel (T.step st).rel st.ext hx S r fo
  exact hR _ _ _ _ _ hq trivial (st.later.trans ⟨_, _, rfl⟩) R'

theorem not_interactive (T : At fname g Φ n F sc A s ρ fp) : interactive (F.env sc) = false := by
  show (sc.kind == .module && _) = false
  rw [T.kind]; rfl

theorem sem_expr {e : Expr} {a : X} {pos : Pos} (hn : noComp e = true) (he : SemE fname sc e a) : SemS fname sc (.Expr e pos) (.expr a) := by
  intro g Φ n F A s ρ fp Q R E T h hR
  conv at h => whnf
  exact wpAny_Expr_any (he g Φ n F A s ρ fp _ _ E T h fun v s₁ d f as hq st r fo => hR .next .next s₁ _ fp hq trivial st.later (T.step st).rel) (not_interactive T) (swaps_no hn _ _ _)

theorem sem_if {t : Expr} {b o : List Stmt} {x : X} {y z : Ss} {pos : Pos} (ht : SemT fname sc t x) (hb : SemSs fname sc b y) (ho : SemSs fname sc o z) : SemS fname sc (.If t b o pos) (.ite x y z) := by
  intro g Φ n F A s ρ fp Q R E T h hR
  conv at h => whnf
  refine wpAny_If (ht g Φ n F A s ρ fp (fun r => br r (wSs Φ y Q ρ) (wSs Φ z Q ρ)) _ E T h fun r s₁ hk st => ?_)
  cases r
  · exact ho g Φ n F A s₁ ρ fp Q R E (T.step st) hk fun fl fl' s' ρ' fp' a b c d => hR fl fl' s' ρ' fp' a b (st.later.trans c) d
  · exact hb g Φ n F A s₁ ρ fp Q R E (T.step st) hk fun fl fl' s' ρ' fp' a b c d => hR fl fl' s' ρ' fp' a b (st.later.trans c) d

theorem sem_ret {e : Expr} {a : X} {pos : Pos} (he : SemE fname sc e a) : SemS fname sc (.Return (some e) pos) (.ret a) := by
  intro g Φ n F A s ρ fp Q R E T h hR
  conv at h => whnf
  refine wpAny_Return_some (he g Φ n F A s ρ fp _ _ E T h fun v s₁ d f as hq st r fo => hR _ (.ret v) s₁ _ fp hq ⟨as, r, fun hfr => ?_⟩ st.later (T.step st).rel)
  have hfr' : f.sh = false ∧ f.u.Nodup := by simpa using hfr
  obtain ⟨q1, q2, q3⟩ := fo.2 hfr'.1
  refine ⟨q2 hfr'.2, fun a ha => ?_⟩
  rcases q1 a ha with q | ⟨j, hj, q⟩
  · cases hq : F.H a with
    | none => rfl
    | some o => rcases T.rel.held a o hq with e | ⟨_, _, e⟩ <;> rw [q] at e <;> cases e
  · obtain ⟨d', hd'⟩ := q3 j hj
    exact ((T.rel.own j d' hd').2.1 a q).1

theorem sem_snil : SemSs fname sc [] .nil := by
  intro g Φ n F A s ρ fp Q R E T h hR
  conv at h => whnf
  exact wpAny_execs_nil (hR _ _ _ _ fp h trivial (.refl s) T.rel)
theorem At.rel' (T : At fname g Φ n F sc A s ρ fp) {ρ' : Vars} {fp' : Nat → List Addr} (R : Rel g F sc s'.heap ρ' fp') : At fname g Φ n F sc A s' ρ' fp' := ⟨T.gd, T.fns, T.named, T.kind, T.plain, T.room, R⟩
theorem sem_scons {st : Stmt} {r : List Stmt} {x : S} {y : Ss} (hs : SemS fname sc st x) (hr : SemSs fname sc r y) : SemSs fname sc (st :: r) (.cons x y) := by
  intro g Φ n F A s ρ fp Q R E T h hR
  conv at h => whnf
  refine wpAny_execs_cons (hs g Φ n F A s ρ fp _ _ E T h fun fl fl' s' ρ' fp' hq hf hl hrel => ?_)
  cases fl with
  | next =>
    cases fl' with
    | next => exact hr g Φ n F A s' ρ' fp' Q R E (T.rel' hrel) hq fun fl fl' s'' ρ'' fp'' a b c d => hR fl fl' s'' ρ'' fp'' a b (hl.trans c) d
    | _ => exact hf.elim
  | brk => cases fl' with
    | brk => exact hR _ _ _ _ _ hq trivial hl hrel
    | _ => exact hf.elim
  | cont => cases fl' with
    | cont => exact hR _ _ _ _ _ hq trivial hl hrel
    | _ => exact hf.elim
  | ret d fr => cases fl' with
    | ret v => exact hR _ _ _ _ _ hq hf hl hrel
    | _ => exact hf.elim
end
end Mine
set_option Elab.async false
set_option maxRecDepth 100000
set_option linter.unusedVariables false
namespace Mine
open PySem PySem.Calls PyProof.Rows

section
variable {fname : Nat → Str} {g : Gx} {Φ : Calls} {n : Nat} {F : Fm} {sc : Scope} {A : Around} {s s' : Shared} {ρ : Vars} {fp : Nat → List Addr} {h h' : Heap}

theorem append_heap {l : Addr} {x : Value} {o : Obj} {vs : Array Value} {k : Nat} {Q E : Value → Shared → Prop} (ho : s.heap.get? l = some o) (hc : o.cls = .type "list") (hd : o.data = .seq vs k) (hz : vs.size ≤ sizeLine)
    (hQ : Q .none { s with heap := s.heap.update l (Obj.mapSeq (·.push x)) }) : wpAny (model g.p g.w) A (call (.builtin "list.append") [.ref l, x]) Q E s := by
  refine wpAny_call_entry slot_list_append ⟨o, ho, hc⟩ entry_list_append ?_ (args_list_append _ _)
  show wpAny _ _ (updateSeq l (·.push x) >>= fun _ => ret .none) _ _ s
  exact wpAny_bind (wpAny_updateSeq ho hd (wpAny_pure ⟨.none, rfl, hQ⟩) hz (by simp; omega))

theorem Rel.mutate (R : Rel g F sc h ρ fp) {i : Nat} {a : Addr} {as as' : List Addr} {xs xs' : List D} {o' : Obj} {vs' : Array Value} {k' : Nat} (hi : ρ[i]? = some (.own (.list xs))) (hf : fp i = a :: as)
    (hs : Heap.SameBut a h h') (ho' : h'.get? a = some o') (hc : o'.cls = .type "list") (hdi : o'.dict = none) (hd : o'.data = .seq vs' k') (hz : vs'.size ≤ sizeLine) (r : Rps h vs'.toList xs' as')
    (hnd : (a :: as').Nodup) (hH : ∀ b ∈ as', F.H b = none ∧ g.base.get? b = none) (hdis : ∀ j, j ≠ i → ∀ b ∈ as', b ∉ fp j) :
    Rel g F sc h' (ρ.set i (.own (.list xs'))) (fun j => if j = i then a :: as' else fp j) := by
  obtain ⟨o1, o2, o3⟩ := R.own i _ hi
  obtain ⟨x, v, hx, hv, rv⟩ := R.vars i _ (.inr hi)
  have hva : v = .ref a := by rw [hf] at rv; cases rv; rfl
  have hlt : i < ρ.length := by rw [List.getElem?_eq_some_iff] at hi; exact hi.1
  have hi' : (ρ.set i (.own (.list xs')))[i]? = some (.own (.list xs')) := by simp [hlt]
  have hj : ∀ j, j ≠ i → (ρ.set i (.own (.list xs')))[j]? = ρ[j]? := fun j hne => by simp [Ne.symm hne]
  obtain ⟨ob, vb, kb, eb, cb, db, qb, zb⟩ := R.fp_there i a (by rw [hf]; exact .head _)
  have hLa : F.L ≠ a := fun q => by
    obtain ⟨m, o2, es, ep, ho2, hd2, _⟩ := R.ns
    rw [q, eb] at ho2; cases ho2; rw [qb] at hd2; cases hd2
  have hca : ∀ p ∈ F.cl, p.2 ≠ a := fun p hp q => by
    obtain ⟨_, _, o2, w, ho2, hd2⟩ := R.cells p hp
    rw [q, eb] at ho2; cases ho2; rw [qb] at hd2; cases hd2
  have sb : StayBut (· = a) h h' := ⟨fun b o e hb => .inl ((hs.2 b hb).trans e), fun b o hb e => .inl (by
    rw [show b = a from hb, eb] at e; cases e; rw [cb]; decide)⟩
  have vs_ok : ∀ y w, VarIs (F.env sc) h y w → VarIs (F.env sc) h' y w := by
    intro y w hv
    rcases hv with ⟨hl, m, hm, hv⟩ | ⟨hl, c, o2, h1, h2, h3⟩
    · exact .inl ⟨hl, m, Heap.Ns.sameBut hm hs hLa, hv⟩
    · exact .inr ⟨hl, c, o2, h1, (hs.2 c (hca _ (mem_of_look h1))).trans h2, h3⟩
  have hHa := o2 a (by rw [hf]; exact .head _)
  refine ⟨fun b o e => (hs.2 b fun q => ?_).trans (R.stays b o e), fun b o e => ?_, FunFrames.data (fun b o e hd' => ?_) R.frames, ?_, R.hL, fun p hp => ?_, R.cnd, R.ccov, by simpa using R.len, R.nd, fun j e he => ?_, fun j e => ?_, fun j e he => ?_⟩
  · rw [q, hHa.2] at e; cases e
  · have hb : b ≠ a := fun q => by rw [q, hHa.1] at e; cases e
    rw [hs.2 b hb]; exact R.held b o e
  · by_cases hb : b = a
    · subst hb; exact ⟨o', ho', fun vs q => by rw [hd] at q; cases q⟩
    · exact ⟨o, (hs.2 b hb).trans e, hd'⟩
  · obtain ⟨m, hm⟩ := R.ns; exact ⟨m, hm.sameBut hs hLa⟩
  · obtain ⟨c1, c2, o2, w, c3, c4⟩ := R.cells p hp
    exact ⟨c1, c2, o2, w, (hs.2 p.2 (hca p hp)).trans c3, c4⟩
  · by_cases hne : j = i
    · subst hne
      rw [hi'] at he
      have : e = .list xs' := by rcases he with q | q <;> cases q; rfl
      subst this
      rw [if_pos rfl]
      refine ⟨x, v, hx, vs_ok x v hv, ?_⟩
      rw [hva]
      refine .list ho' hc hdi hd hz (r.stay sb fun b hb q => ?_)
      rw [show b = a from q] at hb
      exact (List.nodup_cons.mp hnd).1 hb
    · rw [hj j hne] at he
      rw [if_neg hne]
      obtain ⟨y, w, hy, hv', hr⟩ := R.vars j e he
      refine ⟨y, w, hy, vs_ok y w hv', hr.stay sb fun b hb q => ?_⟩
      rw [show b = a from q] at hb
      exact o3 j hne a (by rw [hf]; exact .head _) hb
  · by_cases hne : j = i
    · subst hne; rw [hi'] at e; exact absurd rfl (e (.list xs')).2
    · rw [hj j hne] at e; rw [if_neg hne]; exact R.nofp j e
  · by_cases hne : j = i
    · subst hne
      simp only [if_true]
      refine ⟨hnd, fun b hb => ?_, fun k hk b hb => ?_⟩
      · rcases List.mem_cons.mp hb with rfl | hb
        · exact hHa
        · exact hH b hb
      · rw [if_neg hk]
        rcases List.mem_cons.mp hb with rfl | hb
        · exact o3 k hk b (by rw [hf]; exact .head _)
        · exact hdis k hk b hb
    · rw [hj j hne] at he
      simp only [if_neg hne]
      obtain ⟨p1, p2, p3⟩ := R.own j e he
      refine ⟨p1, p2, fun k hk b hb => ?_⟩
      by_cases hki : k = i
      · rw [if_pos hki]
        intro q
        rcases List.mem_cons.mp q with rfl | q
        · exact p3 i (Ne.symm hne) b hb (by rw [hf]; exact .head _)
        · exact hdis j hne b q hb
      · rw [if_neg hki]; exact p3 k hk b hb

theorem load_var {x : Str} {v : Value} {pos : Pos} {Q E : Value → Shared → Prop} (T : At fname g Φ n F sc A s ρ fp) (hv : VarIs (F.env sc) s.heap x v) (hd : (x == ("__debug__" : Str)) = false) (h : Q v s) : wpAny (model g.p g.w) A (eval (.Name x pos) (F.env sc)) Q E s := by
  rcases hv with ⟨hl, m, hn, hm⟩ | ⟨hl, c, o, h1, h2, h3⟩
  · exact wpAny_Name (wpAny_loadName_local T.kind hl hn hm h) hd
  · exact wpAny_Name (wpAny_loadName_cell T.kind hl h1 ⟨o, h2, h3⟩ h) hd

theorem sem_append {x : Str} {p apos pos epos : Pos} {e : Expr} {a : X} {i : Nat} (hx : (slots sc)[i]? = some x) (hd : (x == ("__debug__" : Str)) = false) (hl : (apos.endLine == pos.line) = true) (hs : noStar e = true) (he : SemE fname sc e a) :
    SemS fname sc (.Expr (.Call (.Attribute (.Name x p) "append" apos) [e] [] pos) epos) (.append i a) := by
  intro g Φ n F A s ρ fp Q R E T h hR
  conv at h => whnf
  split at h
  · rename_i xs hi
    obtain ⟨y, v, hy, hv, r⟩ := T.rel.vars i _ (.inr hi)
    rw [hx] at hy; cases hy
    refine wpAny_Expr_any ?_ (not_interactive T) (swaps_no rfl _ _ _)
    refine wpAny_Call_append rfl ?_ hl ?_ ?_
    · rw [starEach_cons hs]; rfl
    · rw [starEach_cons hs]; rfl
    · refine load_var T hv hd ?_
      generalize hfp : fp i = fi at r
      cases r with
      | @list b o vs en _ as' e1 c di dt sz it =>
        refine ⟨b, vs, rfl, ⟨o, en, e1, c, di, dt⟩, he g Φ n F A s ρ fp _ _ E T h fun w s₁ d f bs hk st rw' fo => ?_⟩
        obtain ⟨hsh, hu, hz, hQ⟩ := hk
        obtain ⟨sl', e1'⟩ := st.ext.soft e1
        have hl' : vs.size = xs.length := by simpa using it.length
        have hz' : vs.size + 1 ≤ sizeLine := by rw [hl']; exact hz
        refine append_heap e1' c dt (Nat.le_of_succ_le hz') ?_
        have R₁ := (T.step st).rel
        obtain ⟨k', hd'⟩ := Obj.data_mapSeq (o := { o with slots := sl' }) dt (·.push w)
        have ho' := Heap.get?_update_self (Obj.mapSeq (·.push w)) e1' (by
          obtain ⟨oc, od, odt, osl⟩ := o; simp only at dt; subst dt; rfl)
        have q := fo.2 hsh
        rw [hu] at q
        have fresh : ∀ a ∈ bs, s.heap.get? a = none := fun a ha => by
          rcases q.1 a ha with q | ⟨j, hj, _⟩
          · exact q
          · cases hj
        have hdis : ∀ j, ∀ a ∈ bs, a ∉ fp j := fun j a ha q => by
          obtain ⟨o, _, _, e, _⟩ := T.rel.fp_there j a q
          rw [fresh a ha] at e; cases e
        obtain ⟨o1, o2, o3⟩ := T.rel.own i _ hi
        rw [hfp] at o1 o2 o3
        have nd : (b :: (as' ++ (bs ++ []))).Nodup := by
          rw [List.append_nil]
          obtain ⟨n1, n2⟩ := List.nodup_cons.mp o1
          refine List.nodup_cons.mpr ⟨fun q => ?_, List.nodup_append.mpr ⟨n2, q.2.1 List.nodup_nil, fun a ha a' ha' hab => ?_⟩⟩
          · rcases List.mem_append.mp q with q | q
            · exact n1 q
            · exact hdis i b q (by rw [hfp]; exact .head _)
          · subst hab; exact hdis i a ha' (by rw [hfp]; exact .tail _ ha)
        have R₂ := R₁.mutate hi hfp (Heap.SameBut.update _ _ _) ho' (by cases o; cases c; simp only at dt; subst dt; rfl) (by cases o; cases di; simp only at dt; subst dt; rfl) hd' (by simpa using hz')
          (xs' := xs ++ [d]) (by simpa using Rps.append (it.ext st.ext) (.cons rw' .nil)) nd (fun a ha => ?_) (fun j hj a ha => ?_)
        · exact hR .next .next _ _ _ hQ trivial (st.later.trans ⟨_, _, rfl⟩) R₂
        · rw [List.append_nil] at ha
          rcases List.mem_append.mp ha with ha | ha
          · exact o2 a (.tail _ ha)
          · refine ⟨?_, ?_⟩
            · cases hq : F.H a with
              | none => rfl
              | some o => rcases T.rel.held a o hq with e | ⟨_, _, e⟩ <;> rw [fresh a ha] at e <;> cases e
            · cases hq : g.base.get? a with
              | none => rfl
              | some o => have e := T.rel.stays a o hq; rw [fresh a ha] at e; cases e
        · rw [List.append_nil] at ha
          rcases List.mem_append.mp ha with ha | ha
          · exact o3 j hj a (.tail _ ha)
          · exact hdis j a ha
  · exact h.elim
end
end Mine
set_option Elab.async false
set_option maxRecDepth 100000
set_option linter.unusedVariables false
namespace Mine
open PySem PySem.Calls PyProof.Rows

section
variable {fname : Nat → Str} {g : Gx} {Φ : Calls} {n : Nat} {F : Fm} {sc : Scope} {A : Around} {s s' : Shared} {ρ : Vars} {fp : Nat → List Addr} {h h' : Heap}

theorem sem_while {t : Expr} {b : List Stmt} {x : X} {y : Ss} {pos : Pos} (ht : SemT fname sc t x) (hb : SemSs fname sc b y) : SemS fname sc (.While t b [] pos) (.whil x y) := by
  intro g Φ n F A s ρ fp Q R E T h hR
  conv at h => whnf
  obtain ⟨I, ⟨k, hk⟩, hI⟩ := h
  refine wpAny_While (codeAny_whileLoop (fun k s' => ∃ σ fp', I k σ ∧ Later s s' ∧ Rel g F sc s'.heap σ fp') (fun k s' hs => ?_) k ⟨ρ, fp, hk, .refl s, T.rel⟩)
  obtain ⟨σ, fp', hσ, hl, hrel⟩ := hs
  have T' := T.rel' hrel
  have hw := hI k σ hσ
  rw [wT] at hw
  refine ht g Φ n F A s' σ fp' (fun r => br r (wSs Φ y (fun fl τ => match fl with | .next | .cont => ∃ m, m < k ∧ I m τ | .brk => Q .next τ | .ret d fr => Q (.ret d fr) τ) σ) (Q .next σ)) _ _ T' hw fun r s₁ hr st => ?_
  cases r
  · exact wpAny_execs_nil (hR .next .next _ _ _ hr trivial (hl.trans st.later) (T'.step st).rel)
  · refine hb g Φ n F A s₁ σ fp' _ _ _ (T'.step st) hr fun fl fl' s₂ ρ₂ fp₂ hq hf hl₂ hr₂ => ?_
    have hl₃ := hl.trans (st.later.trans hl₂)
    cases fl with
    | next => cases fl' with
      | next => obtain ⟨m, hm, hIm⟩ := hq; exact ⟨m, hm, ρ₂, fp₂, hIm, hl₃, hr₂⟩
      | _ => exact hf.elim
    | cont => cases fl' with
      | cont => obtain ⟨m, hm, hIm⟩ := hq; exact ⟨m, hm, ρ₂, fp₂, hIm, hl₃, hr₂⟩
      | _ => exact hf.elim
    | brk => cases fl' with
      | brk => exact hR .next .next _ _ _ hq trivial hl₃ hr₂
      | _ => exact hf.elim
    | ret d fr => cases fl' with
      | ret v => exact hR _ _ _ _ _ hq hf hl₃ hr₂
      | _ => exact hf.elim

theorem Rel.fieldsBut (R : Rel g F sc h ρ fp) {I : Addr} (hI : ∃ o vs, h.get? I = some o ∧ o.data = .fields vs) (hH : F.H I = none) (hB : g.base.get? I = none) (k : ∀ b o, b ≠ I → h.get? b = some o → h'.get? b = some o) : Rel g F sc h' ρ fp := by
  obtain ⟨oI, vI, eI, dI⟩ := hI
  have ne : ∀ {b : Addr} {o : Obj}, h.get? b = some o → (∀ vs, o.data ≠ .fields vs) → b ≠ I := fun e hd q => by
    subst q; rw [eI] at e; cases e; exact hd _ dI
  have kn : ∀ b o, h.get? b = some o → (∀ vs, o.data ≠ .fields vs) → h'.get? b = some o := fun b o e hd => k b o (ne e hd) e
  have sb : StayBut (· = I) h h' := ⟨fun b o e hb => .inl (k b o hb e), fun b o hb e => .inr fun vs m q => by
    rw [show b = I from hb, eI] at e; cases e; rw [dI] at q; cases q⟩
  have rp : ∀ {v d as}, Rp h v d as → Rp h' v d as := fun r => r.stay sb fun a ha q => by
    obtain ⟨o, vs, m, e, _, _, hd, _⟩ := r.mem a ha
    exact ne e (fun vs' q' => by rw [hd] at q'; cases q') q
  have nsk : ∀ {m}, h.Ns F.L m → h'.Ns F.L m := fun hn => by
    obtain ⟨o, es, ep, ho, hd, r⟩ := hn
    exact ⟨o, es, ep, kn _ _ ho (fun vs q => by rw [hd] at q; cases q), hd, r⟩
  refine ⟨fun b o e => k b o (fun q => ?_) (R.stays b o e), fun b o e => ?_, FunFrames.data (fun b o e hd => ⟨o, kn b o e hd, hd⟩) R.frames, ?_, R.hL, fun p hp => ?_, R.cnd, R.ccov, R.len, R.nd, fun i d e => ?_, R.nofp, R.own⟩
  · rw [q, hB] at e; cases e
  · have hb : b ≠ I := fun q => by rw [q, hH] at e; cases e
    rcases R.held b o e with q | ⟨hd, sl, q⟩
    · exact .inl (k b o hb q)
    · exact .inr ⟨hd, sl, k b _ hb q⟩
  · obtain ⟨m, hm⟩ := R.ns; exact ⟨m, nsk hm⟩
  · obtain ⟨c1, c2, o, w, c3, c4⟩ := R.cells p hp
    exact ⟨c1, c2, o, w, kn _ _ c3 (fun vs q => by rw [c4] at q; cases q), c4⟩
  · obtain ⟨y, v, hy, hv, r⟩ := R.vars i d e
    refine ⟨y, v, hy, ?_, rp r⟩
    rcases hv with ⟨hl, m, hm, hv⟩ | ⟨hl, c, o, h1, h2, h3⟩
    · exact .inl ⟨hl, m, nsk hm, hv⟩
    · exact .inr ⟨hl, c, o, h1, kn _ _ h2 (fun vs q => by rw [h3] at q; cases q), h3⟩

noncomputable def Mut (F : Fm) (ρ : Vars) (fp : Nat → List Addr) (b : Addr) : Prop := Priv F b ∨ ∃ j d, ρ[j]? = some (.own d) ∧ b ∈ fp j

theorem Rel.mutH (R : Rel g F sc h ρ fp) {b : Addr} (hm : Mut F ρ fp b) : F.H b = none := by
  rcases hm with (rfl | ⟨p, hp, rfl⟩) | ⟨j, d, hj, hb⟩
  · exact R.hL
  · exact (R.cells p hp).1
  · exact ((R.own j d hj).2.1 b hb).1
theorem Rel.freeze (R : Rel g F sc h ρ fp) : ∃ H', (∀ b o, H' b = some o ↔ h.get? b = some o ∧ ¬ Mut F ρ fp b) ∧ (∀ b, H' b = none → F.H b = none) ∧ Rel g { F with H := H' } sc h ρ fp := by
  classical
  refine ⟨fun b => if Mut F ρ fp b then none else h.get? b, fun b o => ?_, fun b hb => ?_, ?_⟩
  · by_cases hm : Mut F ρ fp b
    · simp [hm]
    · simp [hm]
  · by_cases hm : Mut F ρ fp b
    · exact R.mutH hm
    · simp only [hm, if_false] at hb
      cases hq : F.H b with
      | none => rfl
      | some o => rcases R.held b o hq with e | ⟨_, _, e⟩ <;> rw [hb] at e <;> cases e
  · refine ⟨R.stays, fun b o e => ?_, R.frames, R.ns, ?_, fun p hp => ?_, R.cnd, R.ccov, R.len, R.nd, R.vars, R.nofp, fun i d e => ?_⟩
    · by_cases hm : Mut F ρ fp b
      · simp [hm] at e
      · simp only [hm, if_false] at e; exact .inl e
    · exact if_pos (.inl (.inl rfl))
    · obtain ⟨c1, c2, c3⟩ := R.cells p hp
      exact ⟨if_pos (.inl (.inr ⟨p, hp, rfl⟩)), c2, c3⟩
    · obtain ⟨o1, o2, o3⟩ := R.own i d e
      exact ⟨o1, fun a ha => ⟨if_pos (.inr ⟨i, d, e, ha⟩), (o2 a ha).2⟩, o3⟩

theorem Rel.thaw {H' : Addr → Option Obj} (R : Rel g { F with H := H' } sc h ρ fp) (hH : ∀ b, H' b = none → F.H b = none) (hh : ∀ b o, F.H b = some o → ∃ o', H' b = some o' ∧ (o' = o ∨ ((∀ vs, o.data ≠ .fields vs) ∧ ∃ sl, o' = { o with slots := sl }))) : Rel g F sc h ρ fp := by
  refine ⟨R.stays, fun b o e => ?_, R.frames, R.ns, hH _ R.hL, fun p hp => ?_, R.cnd, R.ccov, R.len, R.nd, R.vars, R.nofp, fun i d e => ?_⟩
  · obtain ⟨o', e', ho⟩ := hh b o e
    rcases ho with rfl | ⟨hd, sl, rfl⟩
    · exact R.held b _ e'
    · rcases R.held b _ e' with q | ⟨_, sl', q⟩
      · exact .inr ⟨hd, sl, q⟩
      · exact .inr ⟨hd, sl', q⟩
  · obtain ⟨c1, c2, c3⟩ := R.cells p hp
    exact ⟨hH _ c1, c2, c3⟩
  · obtain ⟨o1, o2, o3⟩ := R.own i d e
    exact ⟨o1, fun a ha => ⟨hH _ (o2 a ha).1, (o2 a ha).2⟩, o3⟩

structure Source (g : Gx) (A : Around) (I : Addr) (ds : List D) (St : Nat → Heap → Prop) (Z : List Addr) : Prop where
  there : ∀ k h, St k h → ∃ o vs, h.get? I = some o ∧ o.data = .fields vs
  lists : ∀ k h, St k h → ∀ z ∈ Z, ∃ o vs n, h.get? z = some o ∧ o.data = .seq vs n
  frame : ∀ k h h' (M : Addr → Prop), St k h → StayBut M h h' → ¬ M I → (∀ z ∈ Z, ¬ M z) → St k h'
  item : ∀ k (s : Shared) (Q : Option Value → Shared → Prop) (E : Value → Shared → Prop) (d : D), ds[k]? = some d → St k s.heap →
    (∀ v h' tk as, Rp h' v d as → (∀ a ∈ as, a ∈ Z) → St (k + 1) h' → (∀ b o, b ≠ I → s.heap.get? b = some o → h'.get? b = some o) → Q (some v) { s with heap := h', toks := tk }) →
    wpAny (model g.p g.w) A (pyNext (.ref I)) Q E s
  done : ∀ (s : Shared) (Q : Option Value → Shared → Prop) (E : Value → Shared → Prop), St ds.length s.heap →
    (∀ h' tk, (∀ b o, b ≠ I → s.heap.get? b = some o → h'.get? b = some o) → Q none { s with heap := h', toks := tk }) → wpAny (model g.p g.w) A (pyNext (.ref I)) Q E s

theorem for_gen {I : Addr} {ds : List D} {St : Nat → Heap → Prop} {Z : List Addr} {x : Str} {p : Pos} {i : Nat} {body : List Stmt} {Inv : Nat → Vars → Prop} {Q : Fl → Vars → Prop} {R : Flow → Shared → Prop} {E : Value → Shared → Prop} {s₀ : Shared}
    (Sr : Source g A I ds St Z) (T : At fname g Φ n F sc A s ρ fp) (hl0 : Later s₀ s) (hI : Inv 0 ρ) (st : St 0 s.heap) (hdis : ∀ j d, ρ[j]? = some (.own d) → ∀ z ∈ Z, z ∉ fp j) (hH : F.H I = none) (hB : g.base.get? I = none)
    (hx : (slots sc)[i]? = some x) (hk : sc.names.lookup x = some .local ∨ sc.names.lookup x = some .cell) 
    (hturn : ∀ (k : Nat) (σ : Vars) (d : D) (H' : Addr → Option Obj) (s' : Shared) (fp' : Nat → List Addr) (R' : Flow → Shared → Prop), ds[k]? = some d → Inv k σ → Later s₀ s' → At fname g Φ n { F with H := H' } sc A s' (asg σ i d ⟨true, []⟩) fp' →
      (∀ h ρ fp, Rel g { F with H := H' } sc h ρ fp → Rel g F sc h ρ fp) →
      (∀ fl fl' s'' ρ' fp'', (match fl with | .next | .cont => Inv (k + 1) ρ' | .brk => Q .next ρ' | .ret d fr => Q (.ret d fr) ρ') → FlowIs { F with H := H' } s''.heap fl fl' → Later s' s'' → Rel g { F with H := H' } sc s''.heap ρ' fp'' → R' fl' s'') →
      wpAny (model g.p g.w) A (execs body (F.env sc)) R' (notedBy (model g.p g.w) A (F.env sc) fun e s' => cameBackBy (model g.p g.w) A (F.env sc) E e s') s')
    (hend : ∀ σ, Inv ds.length σ → Q .next σ)
    (hR : ∀ fl fl' s' ρ' fp', Q fl ρ' → FlowIs F s'.heap fl fl' → Later s₀ s' → Rel g F sc s'.heap ρ' fp' → R fl' s') :
    codeAny (model g.p g.w) A (.forLoop (.Name x p) (.ref I) body [] (F.env sc)) (fun r s' => match r with | .ok f => R f s' | .error e => cameBackBy (model g.p g.w) A (F.env sc) E e s') s := by
  refine codeAny_forLoop (fun m s' => ∃ k σ fp', m = ds.length - k ∧ k ≤ ds.length ∧ Inv k σ ∧ Later s₀ s' ∧ Rel g F sc s'.heap σ fp' ∧ St k s'.heap ∧ ∀ j d, σ[j]? = some (.own d) → ∀ z ∈ Z, z ∉ fp' j)
    (fun m s' hs => ?_) ds.length ⟨0, ρ, fp, rfl, Nat.zero_le _, hI, hl0, T.rel, st, hdis⟩
  obtain ⟨k, σ, fp', rfl, hkl, hσ, hl, hrel, hst, hds⟩ := hs
  by_cases hlt : k < ds.length
  · refine Sr.item k s' _ _ ds[k] (by simp [hlt]) hst fun v h₁ tk as rv hz hst₁ hkeep => ?_
    have R₁ := hrel.fieldsBut (Sr.there k _ hst) hH hB hkeep
    have T₁ : At fname g Φ n F sc A { s' with heap := h₁, toks := tk } σ fp' := T.rel' R₁
    refine wpAny_assign_Name (store_rule (i := i) T₁ hk fun h₂ tk₂ S => ?_)
    have fo : FgOk σ fp' h₁ ⟨true, []⟩ as := ⟨fun j d hj _ a ha q => hds j d hj a (hz a ha) q, fun q => (nomatch q)⟩
    have R₂ := Rel.asg (s₀ := { s' with heap := h₁, toks := tk }) R₁ R₁ (.refl _) (d := ds[k]) (f := ⟨true, []⟩) hx S rv fo
    generalize hfp₂ : (fun j => if j = i then as else fp' j) = fp₂ at R₂
    -- what the store left alone
    have sb₂ : StayBut (Priv F) h₁ h₂ := R₁.stayBut S.keep
    have hI2 : ¬ Priv F I := fun q => by
      obtain ⟨o, vs, e, hd⟩ := Sr.there _ _ hst₁
      rcases q with rfl | ⟨p, hp, rfl⟩
      · obtain ⟨m, o2, es, ep, ho2, hd2, _⟩ := R₁.ns
        rw [e] at ho2; cases ho2; rw [hd] at hd2; cases hd2
      · obtain ⟨_, _, o2, w, ho2, hd2⟩ := R₁.cells p hp
        rw [e] at ho2; cases ho2; rw [hd] at hd2; cases hd2
    have hZ2 : ∀ z ∈ Z, ¬ Priv F z := fun z hz q => by
      obtain ⟨o, vs, m, e, hd⟩ := Sr.lists _ _ hst₁ z hz
      exact R₁.privData q e vs m hd
    have hst₂ := Sr.frame _ _ _ _ hst₁ sb₂ hI2 hZ2
    -- the own cells after the store are own cells before it
    have hown₂ : ∀ j d, (asg σ i ds[k] ⟨true, []⟩)[j]? = some (.own d) → ∀ z ∈ Z, z ∉ fp₂ j := by
      intro j d hj z hz
      have key : j ≠ i ∧ σ[j]? = some (.own d) := by
        have hil : i < σ.length := by rw [hrel.len]; rw [List.getElem?_eq_some_iff] at hx; exact hx.1
        unfold asg at hj
        by_cases hji : j = i
        · subst hji
          split at hj
          · simp [hil] at hj
          · simp [dem, hil] at hj
        · refine ⟨hji, ?_⟩
          split at hj
          · simpa [Ne.symm hji] using hj
          · simpa [dem, Ne.symm hji] using hj
      rw [← hfp₂]
      simp only [if_neg key.1]
      exact hds j d key.2 z hz
    obtain ⟨H', hH1, hH2, R₃⟩ := R₂.freeze
    have T₃ : At fname g Φ n { F with H := H' } sc A { s' with heap := h₂, toks := tk₂ } (asg σ i ds[k] ⟨true, []⟩) fp₂ := ⟨T.gd, T.fns, T.named, T.kind, T.plain, T.room, R₃⟩
    have thaw : ∀ h ρ fp, Rel g { F with H := H' } sc h ρ fp → Rel g F sc h ρ fp := fun h ρ fp R => R.thaw hH2 fun b o e => by
      have hnm : ¬ Mut F (asg σ i ds[k] ⟨true, []⟩) fp₂ b := fun q => by rw [R₂.mutH q] at e; cases e
      rcases R₂.held b o e with q | ⟨hd, sl, q⟩
      · exact ⟨o, (hH1 b o).mpr ⟨q, hnm⟩, .inl rfl⟩
      · exact ⟨_, (hH1 b _).mpr ⟨q, hnm⟩, .inr ⟨hd, sl, rfl⟩⟩
    refine hturn k σ ds[k] H' _ fp₂ _ (by simp [hlt]) hσ (hl.trans ⟨_, _, rfl⟩) T₃ thaw fun fl fl' s₄ ρ₄ fp₄ hq hf hl₄ hr₄ => ?_
    have hnM : ¬ Mut F (asg σ i ds[k] ⟨true, []⟩) fp₂ I := by
      rintro (q | ⟨j, d, hj, q⟩)
      · exact hI2 q
      · obtain ⟨o, vs, m, e, _, _, hd, _⟩ := R₂.fp_there j I q
        obtain ⟨o', vs', e', hd'⟩ := Sr.there _ _ hst₂
        rw [e] at e'; cases e'; rw [hd] at hd'; cases hd'
    have hnZ : ∀ z ∈ Z, ¬ Mut F (asg σ i ds[k] ⟨true, []⟩) fp₂ z := by
      rintro z hz (q | ⟨j, d, hj, q⟩)
      · exact hZ2 z hz q
      · exact hown₂ j d hj z hz q
    have sb₄ : StayBut (Mut F (asg σ i ds[k] ⟨true, []⟩) fp₂) h₂ s₄.heap := by
      refine ⟨fun b o e hb => hr₄.held b o ((hH1 b o).mpr ⟨e, hb⟩), fun b o hb e => ?_⟩
      rcases hb with q | ⟨j, d, hj, q⟩
      · exact .inr (R₂.privData q e)
      · obtain ⟨o', vs, m, e', hc, _⟩ := R₂.fp_there j b q
        rw [e] at e'; cases e'
        exact .inl (by rw [hc]; decide)
    have hst₄ := Sr.frame _ _ _ _ hst₂ sb₄ hnM hnZ
    have R₄ : Rel g F sc s₄.heap ρ₄ fp₄ := thaw _ _ _ hr₄
    have hl₅ : Later s₀ s₄ := hl.trans (Later.trans ⟨_, _, rfl⟩ hl₄)
    have again : Inv (k + 1) ρ₄ → ∃ m, m < ds.length - k ∧ ∃ k σ fp', m = ds.length - k ∧ k ≤ ds.length ∧ Inv k σ ∧ Later s₀ s₄ ∧ Rel g F sc s₄.heap σ fp' ∧ St k s₄.heap ∧ ∀ j d, σ[j]? = some (.own d) → ∀ z ∈ Z, z ∉ fp' j := by
      intro hi
      refine ⟨ds.length - (k + 1), by omega, k + 1, ρ₄, fp₄, rfl, by omega, hi, hl₅, R₄, hst₄, fun j d hj z hz q => ?_⟩
      obtain ⟨o, vs, m, e, _⟩ := Sr.lists _ _ hst₂ z hz
      have e' := ((hr₄.own j d hj).2.1 z q).1
      have e'' := (hH1 z o).mpr ⟨e, hnZ z hz⟩
      exact absurd (e'.symm.trans e'') (by simp)
    cases fl with
    | next => cases fl' with
      | next => exact again hq
      | _ => exact hf.elim
    | cont => cases fl' with
      | cont => exact again hq
      | _ => exact hf.elim
    | brk => cases fl' with
      | brk => exact hR .next .next _ _ _ hq trivial hl₅ R₄
      | _ => exact hf.elim
    | ret d fr => cases fl' with
      | ret v =>
        obtain ⟨bs, hb1, hb2⟩ := hf
        exact hR _ _ _ _ _ hq ⟨bs, hb1, fun q => ⟨(hb2 q).1, fun a ha => hH2 a ((hb2 q).2 a ha)⟩⟩ hl₅ R₄
      | _ => exact hf.elim
  · have e : k = ds.length := by omega
    subst e
    refine Sr.done s' _ _ hst fun h₁ tk hkeep => ?_
    have R₁ := hrel.fieldsBut (Sr.there _ _ hst) hH hB hkeep
    exact wpAny_execs_nil (hR .next .next { s' with heap := h₁, toks := tk } _ _ (hend σ hσ) trivial (hl.trans ⟨_, _, rfl⟩) R₁)
theorem for_rule {I : Addr} {ds : List D} {St : Nat → Heap → Prop} {Z : List Addr} {x : Str} {p : Pos} {i : Nat} {body : List Stmt} {y : Ss} {Inv : Nat → Vars → Prop} {Q : Fl → Vars → Prop} {R : Flow → Shared → Prop} {E : Value → Shared → Prop} {s₀ : Shared}
    (Sr : Source g A I ds St Z) (T : At fname g Φ n F sc A s ρ fp) (hl0 : Later s₀ s) (hI : Inv 0 ρ) (st : St 0 s.heap) (hdis : ∀ j d, ρ[j]? = some (.own d) → ∀ z ∈ Z, z ∉ fp j) (hH : F.H I = none) (hB : g.base.get? I = none)
    (hx : (slots sc)[i]? = some x) (hk : sc.names.lookup x = some .local ∨ sc.names.lookup x = some .cell) (hbody : SemSs fname sc body y)
    (hturn : ∀ k σ d, ds[k]? = some d → Inv k σ → wSs Φ y (fun fl τ => match fl with | .next | .cont => Inv (k + 1) τ | .brk => Q .next τ | .ret d fr => Q (.ret d fr) τ) (asg σ i d ⟨true, []⟩))
    (hend : ∀ σ, Inv ds.length σ → Q .next σ)
    (hR : ∀ fl fl' s' ρ' fp', Q fl ρ' → FlowIs F s'.heap fl fl' → Later s₀ s' → Rel g F sc s'.heap ρ' fp' → R fl' s') :
    codeAny (model g.p g.w) A (.forLoop (.Name x p) (.ref I) body [] (F.env sc)) (fun r s' => match r with | .ok f => R f s' | .error e => cameBackBy (model g.p g.w) A (F.env sc) E e s') s :=
  for_gen Sr T hl0 hI st hdis hH hB hx hk (fun k σ d H' s' fp' R' hd hσ _ T' _ hR' => hbody g Φ n { F with H := H' } A s' _ fp' _ _ _ T' (hturn k σ d hd hσ) hR') hend hR
end
end Mine
set_option Elab.async false
set_option maxRecDepth 100000
set_option linter.unusedVariables false
namespace Mine
open PySem PySem.Calls PyProof.Rows

section
variable {fname : Nat → Str} {g : Gx} {Φ : Calls} {n : Nat} {F : Fm} {sc : Scope} {A : Around} {s s' : Shared} {ρ : Vars} {fp : Nat → List Addr} {h h' : Heap}

theorem StayBut.fields {M : Addr → Prop} (sb : StayBut M h h') {b : Addr} {o : Obj} (e : h.get? b = some o) (hb : ¬ M b) {vs} (hd : o.data = .fields vs) : h'.get? b = some o := by
  rcases sb.1 b o e hb with q | ⟨q, _⟩
  · exact q
  · exact absurd hd (q vs)

theorem stay_iter {I : Addr} {o : Obj} {vs} (e : h.get? I = some o) (hd : o.data = .fields vs) (k : ∀ b o, b ≠ I → h.get? b = some o → h'.get? b = some o) : StayBut (· = I) h h' :=
  ⟨fun b o e hb => .inl (k b o hb e), fun b o' hb e' => .inr fun vs m q => by
    rw [show b = I from hb, e] at e'; cases e'; rw [hd] at q; cases q⟩

theorem Rp.iter {I : Addr} {o : Obj} {vs} (e : h.get? I = some o) (hd : o.data = .fields vs) (k : ∀ b o, b ≠ I → h.get? b = some o → h'.get? b = some o) {v d as} (r : Rp h v d as) : Rp h' v d as :=
  r.stay (stay_iter e hd k) fun a ha q => by
    obtain ⟨o', vs', m, e', _, _, hd', _⟩ := r.mem a ha
    rw [show a = I from q, e] at e'; cases e'; rw [hd] at hd'; cases hd'

theorem Source.list (hh : A.handled = none) {I l : Addr} {ds : List D} {as : List Addr} : Source g A I ds (fun k h => h.IsListIter I l k ∧ Rp h (.ref l) (.list ds) (l :: as)) (l :: as) where
  there := fun k h st => let ⟨o, e, _, d⟩ := st.1; ⟨o, _, e, d⟩
  lists := fun k h st z hz => let ⟨o, vs, m, e, _, _, d, _⟩ := st.2.mem z hz; ⟨o, vs, m, e, d⟩
  frame := fun k h h' M st sb hI hz => by
    obtain ⟨⟨o, e, c, d⟩, r⟩ := st
    exact ⟨⟨o, sb.fields e hI d, c, d⟩, r.stay sb hz⟩
  item := fun k s Q E d hd st hQ => by
    obtain ⟨hit, r⟩ := st
    obtain ⟨oI, eI, cI, dI⟩ := id hit
    cases r with
    | @list _ o vs en _ _ e1 c di dt sz it =>
      obtain ⟨u, cs, hu, ru, hsub⟩ := it.get hd
      refine wpAny_pyNext_list_item hit ⟨o, e1, c, en, dt⟩ (x := u) (by simpa using hu) fun h' hit' hs => ?_
      have kp : ∀ b o, b ≠ I → s.heap.get? b = some o → h'.get? b = some o := fun b o hb e => (hs.2 b hb).trans e
      exact hQ u h' s.toks cs (ru.iter eI dI kp) (fun a ha => .tail _ (hsub.subset ha)) ⟨hit', (Rp.list e1 c di dt sz it).iter eI dI kp⟩ kp
  done := fun s Q E st hQ => by
    obtain ⟨hit, r⟩ := st
    cases r with
    | @list _ o vs en _ _ e1 c di dt sz it =>
      have hl : vs.size = ds.length := by simpa using it.length
      exact wpAny_pyNext_list_end hh hit ⟨o, e1, c, en, dt⟩ (by simp [hl]) fun h' he => hQ h' s.toks fun b o hb e => he b o hb e

theorem Source.back (hh : A.handled = none) {I l : Addr} {ds : List D} {as : List Addr} : Source g A I ds.reverse (fun k h => k ≤ ds.length ∧ h.IsRevIter I l ((ds.length : Int) - 1 - k) ∧ Rp h (.ref l) (.list ds) (l :: as)) (l :: as) where
  there := fun k h st => let ⟨o, e, _, d⟩ := st.2.1; ⟨o, _, e, d⟩
  lists := fun k h st z hz => let ⟨o, vs, m, e, _, _, d, _⟩ := st.2.2.mem z hz; ⟨o, vs, m, e, d⟩
  frame := fun k h h' M st sb hI hz => by
    obtain ⟨hk, ⟨o, e, c, d⟩, r⟩ := st
    exact ⟨hk, ⟨o, sb.fields e hI d, c, d⟩, r.stay sb hz⟩
  item := fun k s Q E d hd st hQ => by
    obtain ⟨hk, hit, r⟩ := st
    obtain ⟨oI, eI, cI, dI⟩ := id hit
    have hlt : k < ds.length := by
      rw [List.getElem?_eq_some_iff] at hd; simpa using hd.1
    have hd' : ds[ds.length - 1 - k]? = some d := by
      rw [List.getElem?_reverse hlt] at hd; exact hd
    have ei : (ds.length : Int) - 1 - k = ((ds.length - 1 - k : Nat) : Int) := by omega
    rw [ei] at hit
    cases r with
    | @list _ o vs en _ _ e1 c di dt sz it =>
      obtain ⟨u, cs, hu, ru, hsub⟩ := it.get hd'
      refine wpAny_pyNext_rev_item hit ⟨o, e1, c, en, dt⟩ (x := u) (by simpa using hu) fun h' hit' hs => ?_
      have kp : ∀ b o, b ≠ I → s.heap.get? b = some o → h'.get? b = some o := fun b o hb e => (hs.2 b hb).trans e
      have e2 : ((ds.length - 1 - k : Nat) : Int) - 1 = (ds.length : Int) - 1 - ((k + 1 : Nat) : Int) := by omega
      rw [e2] at hit'
      exact hQ u h' s.toks cs (ru.iter eI dI kp) (fun a ha => .tail _ (hsub.subset ha)) ⟨hlt, hit', (Rp.list e1 c di dt sz it).iter eI dI kp⟩ kp
  done := fun s Q E st hQ => by
    obtain ⟨hk, hit, r⟩ := st
    have e : (ds.length : Int) - 1 - (ds.reverse.length : Nat) = -1 := by simp; omega
    rw [e] at hit
    exact wpAny_pyNext_rev_end hh hit fun h' he => hQ h' s.toks fun b o hb e => he b o hb e

theorem Source.range (hh : A.handled = none) {I : Addr} {a c : Int} {m : Nat} : Source g A I ((List.range m).map fun (k : Nat) => .int (a + k * c)) (fun k h => IsRangeIter h I (a + (k : Nat) * c) ((m : Int) - (k : Nat)) c) [] where
  there := fun k h st => ⟨_, _, st, rfl⟩
  lists := fun k h st z hz => by cases hz
  frame := fun k h h' M st sb hI hz => sb.fields st hI rfl
  item := fun k s Q E d hd st hQ => by
    have hlt : k < m := by
      rw [List.getElem?_eq_some_iff] at hd; simpa using hd.1
    have e0 : d = .int (a + k * c) := by
      rw [List.getElem?_map, List.getElem?_range hlt] at hd
      simpa using hd.symm
    subst e0
    refine wpAny_pyNext_range_item st (by omega) fun h' hit hs => ?_
    have e1 : a + ((k + 1 : Nat) : Int) * c = a + (k : Int) * c + c := by push_cast; rw [Int.add_mul, Int.one_mul, Int.add_assoc]
    have e2 : (m : Int) - ((k + 1 : Nat) : Int) = (m : Int) - (k : Int) - 1 := by push_cast; omega
    refine hQ _ h' _ [] (.int _ _) (fun _ h => (nomatch h)) ?_ fun b o hb e => (hs.2 b hb).trans e
    rw [e1, e2]; exact hit
  done := fun s Q E st hQ => wpAny_pyNext_range_end hh st (by simp) fun h' he => hQ h' s.toks fun b o hb e => he b o hb e

theorem Source.text (hh : A.handled = none) {I : Addr} {x : Str} {t : Tok} {ty : String} (hty : ty = "str_ascii_iterator" ∨ ty = "str_iterator") : Source g A I (x.cps.toList.map fun c => .str (Mine.st [c])) (fun k h => h.IsStrIter I ty x t k) [] where
  there := fun k h st => let ⟨o, e, _, d⟩ := st; ⟨o, _, e, d⟩
  lists := fun k h st z hz => by cases hz
  frame := fun k h h' M st sb hI hz => by
    obtain ⟨o, e, c, d⟩ := st
    exact ⟨o, sb.fields e hI d, c, d⟩
  item := fun k s Q E d hd st hQ => by
    rw [List.getElem?_map, Option.map_eq_some_iff] at hd
    obtain ⟨c, hc, rfl⟩ := hd
    have hc' : x.cps[k]? = some c := by simpa using hc
    have go : ∀ h', h'.IsStrIter I ty x t (k + 1) → Heap.SameBut I s.heap h' → Q (some (.str ⟨#[c]⟩ s.toks)) { s with heap := h', toks := s.toks + 1 } := fun h' hit hs =>
      hQ _ h' _ [] (.str _ _ (by show 1 ≤ sizeLine; decide)) (fun _ h => (nomatch h)) hit fun b o hb e => (hs.2 b hb).trans e
    rcases hty with rfl | rfl
    · exact wpAny_pyNext_ascii_item st hc' go
    · exact wpAny_pyNext_wide_item st hc' go
  done := fun s Q E st hQ => by
    rcases hty with rfl | rfl
    · exact wpAny_pyNext_ascii_end hh st (by simp) fun h' he => hQ h' s.toks fun b o hb e => he b o hb e
    · exact wpAny_pyNext_wide_end hh st (by simp) fun h' he => hQ h' s.toks fun b o hb e => he b o hb e

theorem At.newIter (T : At fname g Φ n F sc A s ρ fp) : F.H s.heap.objs.size = none ∧ g.base.get? s.heap.objs.size = none := by
  have hf := fresh_size s.heap
  refine ⟨?_, ?_⟩
  · cases hq : F.H s.heap.objs.size with
    | none => rfl
    | some o => rcases T.rel.held _ o hq with e | ⟨_, _, e⟩ <;> rw [hf] at e <;> cases e
  · cases hq : g.base.get? s.heap.objs.size with
    | none => rfl
    | some o => have e := T.rel.stays _ o hq; rw [hf] at e; cases e

theorem At.dem (T : At fname g Φ n F sc A s ρ fp) (u : List Nat) : At fname g Φ n F sc A s (dem ρ u) fp := T.rel' (T.rel.dem u)

noncomputable def noSet : Expr → Bool
  | .Set .. => false
  | _ => true
theorem folded_no {e : Expr} (h : noSet e = true) (env : Env) (x : Value) : foldedSetIterable e env x = pure x := by
  cases e <;> first | rfl | cases h

theorem for_items {x : Str} {p pos : Pos} {i : Nat} {it : Expr} {a : X} {body : List Stmt} {Q : Fl → Vars → Prop} {R : Flow → Shared → Prop} {E : Value → Shared → Prop} (hx : (slots sc)[i]? = some x) (hk : sc.names.lookup x = some .local ∨ sc.names.lookup x = some .cell) (hset : noSet it = true)
    (he : SemE fname sc it a) (T : At fname g Φ n F sc A s ρ fp) {W : (Nat → Vars → Prop) → Nat → Vars → D → Prop}
    (h : wIt Φ ρ (.items a) fun ds u => ∃ I : Nat → Vars → Prop, I 0 (dem ρ u) ∧ (∀ k σ d, ds[k]? = some d → I k σ → W I k σ d) ∧ ∀ σ, I ds.length σ → Q .next σ)
    (hW : ∀ (Inv : Nat → Vars → Prop) (k : Nat) (σ : Vars) (d : D) (H' : Addr → Option Obj) (s' : Shared) (fp' : Nat → List Addr) (R' : Flow → Shared → Prop), W Inv k σ d → Later s s' → At fname g Φ n { F with H := H' } sc A s' (asg σ i d ⟨true, []⟩) fp' →
      (∀ h ρ fp, Rel g { F with H := H' } sc h ρ fp → Rel g F sc h ρ fp) →
      (∀ fl fl' s'' ρ' fp'', (match fl with | .next | .cont => Inv (k + 1) ρ' | .brk => Q .next ρ' | .ret d fr => Q (.ret d fr) ρ') → FlowIs { F with H := H' } s''.heap fl fl' → Later s' s'' → Rel g { F with H := H' } sc s''.heap ρ' fp'' → R' fl' s'') →
      wpAny (model g.p g.w) A (execs body (F.env sc)) R' (notedBy (model g.p g.w) A (F.env sc) fun e s' => cameBackBy (model g.p g.w) A (F.env sc) E e s') s')
    (hR : ∀ fl fl' s' ρ' fp', Q fl ρ' → FlowIs F s'.heap fl fl' → Later s s' → Rel g F sc s'.heap ρ' fp' → R fl' s') :
    wpAny (model g.p g.w) A (exec (.For (.Name x p) it body [] pos) (F.env sc)) R E s := by
  conv at h => whnf
  refine wpAny_For (he g Φ n F A s ρ fp _ _ E T h fun v s₁ d f as hk' st r fo => ?_) (folded_no hset _)
  cases r with
  | @list l o vs en ds as' e1 c di dt sz itm =>
    obtain ⟨Inv, h0, ht, hend⟩ := hk'
    have T₁ := (T.step st).dem f.u
    refine wpAny_pyIter_list ⟨o, e1, c, en, dt⟩ ?_
    have st₂ := st.push { cls := .type "list_iterator", data := .fields #[.ref l, .int 0 0] }
    have T₂ := (T.step st₂).dem f.u
    refine for_gen (Source.list T.room.handled (l := l) (ds := ds) (as := as')) T₂ st₂.later h0 ⟨⟨_, Heap.get?_push_size _ rfl, rfl, rfl⟩, (Rp.list e1 c di dt sz itm).ext (Ext.push _ _)⟩ ?_ T₁.newIter.1 T₁.newIter.2 hx hk
      (fun k σ d H' s' fp' R' hd hσ hl T' th hR' => hW Inv k σ d H' s' fp' R' (ht k σ d hd hσ) hl T' th hR') hend hR
    intro j d hj z hz
    have q := (dem_get f.u ρ j).1 d hj
    exact fo.1 j d q.1 q.2 z hz
  | str x' t z =>
    obtain ⟨Inv, h0, ht, hend⟩ := hk'
    have T₁ := T.step st
    have key : ∀ ty, (ty = "str_ascii_iterator" ∨ ty = "str_iterator") → codeAny (model g.p g.w) A (.forLoop (.Name x p) (.ref s₁.heap.objs.size) body [] (F.env sc)) (fun r s' => match r with | .ok f => R f s' | .error e => cameBackBy (model g.p g.w) A (F.env sc) E e s') { s₁ with heap := s₁.heap.push { cls := .type ty, data := .fields #[.str x' t, .int 0 0] } } := by
      intro ty hty
      have st₂ := st.push { cls := .type ty, data := .fields #[.str x' t, .int 0 0] }
      have T₂ := T.step st₂
      exact for_gen (Source.text T.room.handled (x := x') (t := t) hty) T₂ st₂.later h0 ⟨_, Heap.get?_push_size _ rfl, rfl, rfl⟩ (fun _ _ _ z hz => (nomatch hz)) T₁.newIter.1 T₁.newIter.2 hx hk
        (fun k σ d H' s' fp' R' hd hσ hl T' th hR' => hW Inv k σ d H' s' fp' R' (ht k σ d hd hσ) hl T' th hR') hend hR
    cases ha : x'.cps.all (· < 128)
    · exact wpAny_pyIter_wide ha (key "str_iterator" (.inr rfl))
    · exact wpAny_pyIter_ascii ha (key "str_ascii_iterator" (.inl rfl))
  | _ => exact hk'.elim

theorem sem_for_items {x : Str} {p pos : Pos} {i : Nat} {it : Expr} {a : X} {body : List Stmt} {y : Ss} (hx : (slots sc)[i]? = some x) (hk : sc.names.lookup x = some .local ∨ sc.names.lookup x = some .cell) (hset : noSet it = true)
    (he : SemE fname sc it a) (hb : SemSs fname sc body y) : SemS fname sc (.For (.Name x p) it body [] pos) (.loop i (.items a) y) := by
  intro g Φ n F A s ρ fp Q R E T h hR
  exact for_items (W := fun I k σ d => wSs Φ y (fun fl τ => match fl with | .next | .cont => I (k + 1) τ | .brk => Q .next τ | .ret d fr => Q (.ret d fr) τ) (asg σ i d ⟨true, []⟩)) hx hk hset he T h
    (fun Inv k σ d H' s' fp' R' hw _ T' _ hR' => hb g Φ n { F with H := H' } A s' _ fp' _ _ _ T' hw hR') hR

theorem sem_for_range {x : Str} {p np cp pos : Pos} {i : Nat} {it : Expr} {a : X} {body : List Stmt} {y : Ss} (hx : (slots sc)[i]? = some x) (hk : sc.names.lookup x = some .local ∨ sc.names.lookup x = some .cell)
    (hr : sc.names.lookup ("range" : Str) = some .globalImplicit) (hs : noStar it = true) (he : SemE fname sc it a) (hb : SemSs fname sc body y) :
    SemS fname sc (.For (.Name x p) (.Call (.Name "range" np) [it] [] cp) body [] pos) (.loop i (.range a) y) := by
  intro g Φ n F A s ρ fp Q R E T h hR
  conv at h => whnf
  refine wpAny_For (typ1 (id := "range") T hr (by simp [bltTab]) (by decide) hs he h fun v s₁ d f as hk' st r fo => ?_) (folded_no rfl _)
  cases r with
  | int m t =>
    obtain ⟨hlo, hhi, Inv, h0, ht, hend⟩ := hk'
    have hlo' : m < 2 ^ 62 := hlo
    have hhi' : -(2 ^ 62) ≤ m := hhi
    refine call_range_1 ?_
    have st₁ := (st.push { cls := .type "range", data := .fields #[.int 0 s₁.toks, .int m t, .int 1 (s₁.toks + 1)] }).toks (s₁.toks + 1 + 1)
    refine wpAny_pyIter_range (IsRange.new ..) (small_one (by decide) (by decide) hhi' hlo') ?_
    rw [rangeSize_one]
    have T₁ := T.step st₁
    have st₂ := st₁.push { cls := .type "range_iterator", data := .fields #[rawInt 0, rawInt (if 0 < m then m - 0 else 0), rawInt 1] }
    have T₂ := T.step st₂
    have eds : ((List.range m.toNat).map fun (k : Nat) => PyData.int k) = (List.range m.toNat).map fun (k : Nat) => .int (0 + k * 1) := by
      apply List.map_congr_left; intro k _; simp
    rw [eds] at ht hend
    refine for_rule (Source.range T.room.handled (a := 0) (c := 1) (m := m.toNat)) T₂ st₂.later h0 ?_ (fun _ _ _ _ hz => (nomatch hz)) T₁.newIter.1 T₁.newIter.2 hx hk hb ht hend hR
    have em : (if 0 < m then m - 0 else 0) = ((m.toNat : Nat) : Int) := by split <;> omega
    rw [em]
    simpa using (Heap.get?_push_size (s₁.heap.push { cls := .type "range", data := .fields #[.int 0 s₁.toks, .int m t, .int 1 (s₁.toks + 1)] }) (o := { cls := .type "range_iterator", data := .fields #[rawInt 0, rawInt ((m.toNat : Nat) : Int), rawInt 1] }) rfl)
  | _ => exact hk'.elim

end
end Mine
set_option Elab.async false
set_option maxRecDepth 100000
set_option linter.unusedVariables false
namespace Mine
open PySem PySem.Calls PyProof.Rows

theorem Rps.fps {h : Heap} : ∀ {vs ds as}, Rps h vs ds as → ∃ fp : Nat → List Addr, (∀ i d, ds[i]? = some d → ∃ v, vs[i]? = some v ∧ Rp h v d (fp i)) ∧ ∀ i, ds.length ≤ i → fp i = []
  | _, _, _, .nil => ⟨fun _ => [], fun i d e => by simp at e, fun _ _ => rfl⟩
  | _, _, _, .cons (as := as) x y => by
    obtain ⟨fp, h1, h2⟩ := Rps.fps y
    refine ⟨fun i => match i with | 0 => as | i + 1 => fp i, fun i d e => ?_, fun i hi => ?_⟩
    · cases i with
      | zero => simp only [List.getElem?_cons_zero, Option.some.injEq] at e; subst e; exact ⟨_, rfl, x⟩
      | succ i => simp only [List.getElem?_cons_succ] at e ⊢; exact h1 i d e
    · cases i with
      | zero => simp at hi
      | succ i => exact h2 i (by simpa using hi)

theorem bindL_skip {k : Str → Option NameKind} {x : Str} : ∀ (r : List (Str × Value)) (m : Str → Option Value), x ∉ r.map (·.1) → bindL k r m x = m x
  | [], _, _ => rfl
  | (n, v) :: r, m, h => by
    simp only [List.map_cons, List.mem_cons, not_or] at h
    rw [bindL, bindL_skip r _ h.2]
    split
    · exact if_neg h.1
    · rfl
theorem bindC_skip {k : Str → Option NameKind} {x : Str} : ∀ (r : List (Str × Value)) (m : Str → Option Value), x ∉ r.map (·.1) → bindC k r m x = m x
  | [], _, _ => rfl
  | (n, v) :: r, m, h => by
    simp only [List.map_cons, List.mem_cons, not_or] at h
    rw [bindC, bindC_skip r _ h.2]
    split
    · rfl
    · exact if_neg h.1
theorem bindL_look {k : Str → Option NameKind} {x : Str} {v : Value} (hk : k x = some .local) : ∀ (r : List (Str × Value)) (m : Str → Option Value), (r.map (·.1)).Nodup → (x, v) ∈ r → bindL k r m x = some v
  | [], _, _, h => nomatch h
  | (n, w) :: r, m, nd, h => by
    simp only [List.map_cons, List.nodup_cons] at nd
    rcases List.mem_cons.mp h with e | h
    · cases e
      rw [bindL, bindL_skip r _ nd.1, if_pos hk, if_pos rfl]
    · rw [bindL]; exact bindL_look hk r _ nd.2 h
theorem bindC_look {k : Str → Option NameKind} {x : Str} {v : Value} (hk : k x = some .cell) : ∀ (r : List (Str × Value)) (m : Str → Option Value), (r.map (·.1)).Nodup → (x, v) ∈ r → bindC k r m x = some v
  | [], _, _, h => nomatch h
  | (n, w) :: r, m, nd, h => by
    simp only [List.map_cons, List.nodup_cons] at nd
    rcases List.mem_cons.mp h with e | h
    · cases e
      rw [bindC, bindC_skip r _ nd.1, if_neg (by rw [hk]; decide), if_pos rfl]
    · rw [bindC]; exact bindC_look hk r _ nd.2 h
theorem look_some {x : Str} : ∀ {l : List (Str × Addr)}, x ∈ l.map (·.1) → ∃ c, l.lookup x = some c
  | [], h => nomatch h
  | (n, c) :: l, h => by
    rw [List.lookup_cons]
    by_cases q : (x == n) = true
    · simp only [q]; exact ⟨c, rfl⟩
    · simp only [q]
      refine look_some ?_
      rw [List.map_cons] at h
      rcases List.mem_cons.mp h with e | h
      · exact absurd (by rw [e]; simp) q
      · exact h

structure FnAt (fname : Nat → Str) (g : Gx) (f k m : Nat) (body : Ss) (fa : Addr) (name : Str) (params : Arguments) (stmts : List Stmt) (sc : Scope) (pm cd doc : Value) (o : Obj) : Prop where
  named : g.mg (fname f) = some (.ref fa)
  at' : g.base.get? fa = some o
  data : o.data = .func (docDef name params stmts sc pm cd doc)
  code : g.base.CodeRec cd name
  sem : SemSs fname sc stmts body
  plain : sc.isGenerator = false ∧ sc.isCoroutine = false ∧ sc.kind = .function
  cells : ((cellsFrom 0 sc.names []).map (·.1)).Nodup ∧ ∀ x, sc.names.lookup x = some .cell → x ∈ (cellsFrom 0 sc.names []).map (·.1)
  xs : (slots sc).Nodup ∧ (slots sc).length = m ∧ k ≤ m ∧ (slots sc).take k = params.args.map (·.arg)
  loc : ∀ x ∈ (slots sc).take k, sc.names.lookup x = some .local ∨ sc.names.lookup x = some .cell
  bind : ∀ vs : List Value, vs.length = k → bindArgs (docDef name params stmts sc pm cd doc) ⟨vs, []⟩ = pure ((params.args.map (·.arg)).zip vs)

noncomputable def FnIs (fname : Nat → Str) (g : Gx) (f k m : Nat) (body : Ss) : Prop := ∃ fa name params stmts sc pm cd doc o, FnAt fname g f k m body fa name params stmts sc pm cd doc o

theorem fn_sound {fname : Nat → Str} {g : Gx} {Φ : Calls} {n f k m : Nat} {body : Ss} {ds : List D} {K : D → Bool → Prop} (G : Gd g) (fn : FnIs fname g f k m body) (hΦ : ∀ f ds K, Φ f ds K → Spec fname g n f ds K)
    (hnm : ∀ f, f < 1000 → fname f ≠ Str.empty → ∃ fa o fd, g.mg (fname f) = some (.ref fa) ∧ g.base.get? fa = some o ∧ o.data = .func fd)
    (hlen : ds.length = k) (hw : wSs Φ body (retPost K) (startVars ds m)) : ∃ fa, SpecF g (n + 1) (fname f) ds K fa := by
  obtain ⟨fa, name, params, stmts, sc, pm, cd, doc, o, T⟩ := fn
  refine ⟨fa, T.named, ⟨o, _, T.at', T.data⟩, ?_⟩
  intro A s vs as outer Q E room stays frames r hQ
  have hvl : vs.length = k := r.length.trans hlen
  obtain ⟨hnd, hsl, hkm, hpar⟩ := T.xs
  have cnames : (cellsFrom (s.heap.objs.size + 1) sc.names []).map (·.1) = (cellsFrom 0 sc.names []).map (·.1) := cellsFrom_names sc.names _ _ _ _ rfl
  have ccov : ∀ x, sc.names.lookup x = some .cell → ∃ c, (cellsFrom (s.heap.objs.size + 1) sc.names []).lookup x = some c := fun x hx => look_some (by rw [cnames]; exact T.cells.2 x hx)
  refine wpAny_call (call_cells (by have := room.depth; omega) (stays _ _ T.at') T.data (G.nolimit.keeps stays) (T.code.keeps stays) (T.bind vs hvl) ?_ ?_ T.plain.2.1 T.plain.1 T.plain.2.2)
  · intro x hx
    have : x.1 ∈ params.args.map (·.arg) := (List.of_mem_zip hx).1
    rw [← hpar] at this
    rcases T.loc _ this with q | q
    · exact .inl q
    · obtain ⟨c, hc⟩ := ccov _ q
      exact .inr ⟨q, by rw [hc]; rfl⟩
  intro h₁ tk₁ Fr₁ Cl₁
  obtain ⟨fp, hf1, hf2⟩ := r.fps
  have hLfresh := fresh_size s.heap
  have keep : ∀ b o, s.heap.get? b = some o → h₁.get? b = some o := Fr₁.keep
  let F : Fm := { name := name, L := s.heap.objs.size, fa := fa, cd := cd, cl := cellsFrom (s.heap.objs.size + 1) sc.names [], outer := outer, H := s.heap.get? }
  have hns := Fr₁.ns
  have hbL : g.base.get? s.heap.objs.size = none := by
    cases hq : g.base.get? s.heap.objs.size with
    | none => rfl
    | some o => have e := stays _ o hq; rw [hLfresh] at e; cases e
  have hstart : ∀ (i : Nat) (c : Cell), (startVars ds m)[i]? = some c → (i < k ∧ ∃ d, ds[i]? = some d ∧ c = .val d) ∨ (k ≤ i ∧ c = .unset) := by
    intro i c e
    unfold startVars at e
    by_cases hi : i < k
    · rw [List.getElem?_append_left (by simpa [hlen] using hi)] at e
      rw [List.getElem?_map] at e
      cases hd : ds[i]? with
      | none => rw [hd] at e; cases e
      | some d => rw [hd] at e; cases e; exact .inl ⟨hi, d, rfl, rfl⟩
    · rw [List.getElem?_append_right (by simp [hlen]; omega)] at e
      rw [List.getElem?_replicate] at e
      split at e
      · cases e; exact .inr ⟨by omega, rfl⟩
      · cases e
  have R : Rel g F sc h₁ (startVars ds m) fp := by
    refine ⟨fun b o e => keep b o (stays b o e), fun b o e => .inl (keep b o e), ⟨?_, ?_, ?_⟩, ⟨_, hns⟩, hLfresh, fun p hp => ?_, ?_, ?_, ?_, hnd, ?_, ?_, ?_⟩
    · show sc.kind ≠ .module; rw [T.plain.2.2]; decide
    · obtain ⟨oL, es, ep, e, hd, _⟩ := hns
      exact ⟨s.heap.objs.size, oL, rfl, hbL, e, fun vs q => by rw [hd] at q; cases q⟩
    · exact FunFrames.ext (.of_keep keep) frames
    · have hab := Cl₁.above p.1 p.2 hp
      have hno : s.heap.get? p.2 = none := Heap.get?_none_of_le (Nat.le_of_lt hab)
      refine ⟨hno, ?_, ?_⟩
      · cases hq : g.base.get? p.2 with
        | none => rfl
        | some o => have e := stays _ o hq; rw [hno] at e; cases e
      · obtain ⟨o, ho, hd⟩ := Cl₁.cell p.1 p.2 (lookup_of_mem_nodup (by rw [cnames]; exact T.cells.1) hp)
        exact ⟨o, _, ho, hd⟩
    · exact List.pairwise_map.mpr Cl₁.apart
    · exact ccov
    · rw [hsl]; unfold startVars; simp [hlen]; omega
    · intro i d hc
      rcases hc with hc | hc
      · rcases hstart i _ hc with ⟨hi, d', hd, e⟩ | ⟨_, e⟩
        · cases e
          obtain ⟨v, hv, rv⟩ := hf1 i d hd
          have hlt : i < (slots sc).length := by omega
          have hx : (slots sc)[i]? = some (slots sc)[i] := by simp [hlt]
          have hx' : ((slots sc).take k)[i]? = some (slots sc)[i] := by rw [List.getElem?_take, if_pos hi]; exact hx
          have hloc := T.loc _ (List.mem_of_getElem? hx')
          refine ⟨_, v, hx, ?_, rv.ext (.of_keep keep)⟩
          rw [hpar] at hx'
          have hnd' : (((params.args.map (·.arg)).zip vs).map (·.1)).Nodup := by
            rw [List.map_fst_zip (by rw [← hpar, hvl]; exact List.length_take_le _ _), ← hpar]; exact hnd.sublist (List.take_sublist _ _)
          have hmem : ((slots sc)[i], v) ∈ (params.args.map (·.arg)).zip vs := List.mem_iff_getElem?.mpr ⟨i, by rw [List.getElem?_zip_eq_some]; exact ⟨hx', hv⟩⟩
          rcases hloc with q | q
          · exact .inl ⟨q, _, hns, bindL_look (k := (F.env sc).kindOf) q _ _ hnd' hmem⟩
          · obtain ⟨c, hc⟩ := ccov _ q
            obtain ⟨o, ho, hd⟩ := Cl₁.cell _ c hc
            refine .inr ⟨q, c, o, hc, ho, ?_⟩
            rw [hd]; congr 1; exact bindC_look (k := (F.env sc).kindOf) q _ _ hnd' hmem
        · cases e
      · rcases hstart i _ hc with ⟨hi, d', hd, e⟩ | ⟨_, e⟩ <;> cases e
    · intro i hno
      by_cases hi : i < k
      · have hd : ds[i]? = some ds[i] := by simp [hlen, hi]
        have : (startVars ds m)[i]? = some (.val ds[i]) := by
          unfold startVars
          rw [List.getElem?_append_left (by simpa [hlen] using hi), List.getElem?_map, hd]; rfl
        exact absurd this (hno ds[i]).1
      · exact hf2 i (by omega)
    · intro i d hc
      rcases hstart i _ hc with ⟨hi, d', hd, e⟩ | ⟨_, e⟩ <;> cases e
  have room' : Room (A.deeper (F.env sc)) n (F.env sc :: outer) := by
    refine ⟨Around.frames_deeper room.frames, ?_, ?_, room.handled⟩
    · have := room.depth; show A.depth + 1 + n + 150 < _; omega
    · have := room.units; show A.units + 3 + 8 * n + 300 < _; omega
  refine T.sem g Φ n F _ _ _ fp _ _ _ ⟨G, hΦ, hnm, T.plain.2.2, ⟨T.plain.1, T.plain.2.1⟩, room', R⟩ hw fun fl fl' s' ρ' fp' hq hf hl hr => ?_
  have hstep : Step g s s' := by
    obtain ⟨h', tk, rfl⟩ := hl
    refine ⟨h', tk, rfl, fun b o e => hr.held b o e, hr.stays⟩
  cases fl with
  | next => cases fl' with
    | next => exact hQ _ _ _ _ [] hq hstep .none fun _ => ⟨List.nodup_nil, fun _ ha => (nomatch ha)⟩
    | _ => exact hf.elim
  | ret d fr => cases fl' with
    | ret v => obtain ⟨bs, h1, h2⟩ := hf; exact hQ _ _ _ _ bs hq hstep h1 h2
    | _ => exact hf.elim
  | _ => exact hq.elim

theorem all_sound {fname : Nat → Str} {g : Gx} (Φ : Nat → Calls) (G : Gd g) (hnm : ∀ f, f < 1000 → fname f ≠ Str.empty → ∃ fa o fd, g.mg (fname f) = some (.ref fa) ∧ g.base.get? fa = some o ∧ o.data = .func fd)
    (h0 : ∀ f ds K, ¬ Φ 0 f ds K)
    (hs : ∀ n f ds K, (∀ f ds K, Φ n f ds K → Spec fname g n f ds K) → Φ (n + 1) f ds K → (1000 ≤ f ∧ ∃ i t, g.mg (fname f) = some (.int i t) ∧ ds = [] ∧ K (.int i) true) ∨ (f < 500 ∧ ∃ k m body, FnIs fname g f k m body ∧ ds.length = k ∧ wSs (Φ n) body (retPost K) (startVars ds m)) ∨
      (500 ≤ f ∧ f < 1000 ∧ ∃ (c : Nat) (C fa : Addr), K (.int (c : Int)) true ∧ IsExc g (fname c) C ∧ SpecX g (n + 1) (fname (f - 500)) ds (fname c) fa)) :
    ∀ n f ds K, Φ n f ds K → Spec fname g n f ds K := by
  intro n
  induction n with
  | zero => intro f ds K h; exact absurd h (h0 f ds K)
  | succ n ih =>
    intro f ds K h
    unfold Spec
    rcases hs n f ds K ih h with ⟨hf, q⟩ | ⟨hf, k, m, body, fn, hl, hw⟩ | ⟨hf, hf', q⟩
    · rw [if_pos hf]; exact q
    · rw [if_neg (by omega), if_neg (by omega)]; exact fn_sound G fn ih hnm hl hw
    · rw [if_neg (by omega), if_pos hf]; exact q
end Mine
set_option Elab.async false
set_option maxRecDepth 100000
set_option linter.unusedVariables false
namespace Mine
open PySem PySem.Calls PyProof.Rows

section
variable {fname : Nat → Str} {g : Gx} {Φ : Calls} {n : Nat} {F : Fm} {sc : Scope} {A : Around} {s s' : Shared} {ρ : Vars} {fp : Nat → List Addr} {h h' : Heap}

theorem sem_never {st : Stmt} : SemS fname sc st .never := by
  intro g Φ n F A s ρ fp Q R E T h hR
  conv at h => whnf
  exact h.elim

theorem Rel.asgC (R : Rel g F sc h ρ fp) {y : Str} {i : Nat} {v : Value} {d : D} {f : Fg} {as : List Addr} (hx : (slots sc)[i]? = some y) (S : Stored F sc h h' y v) (r : Rp h v d as)
    (h1 : ∀ j e, ρ[j]? = some (.own e) → j ∉ f.u → ∀ a ∈ as, a ∉ fp j)
    (h2 : f.sh = false → f.u = [] → as.Nodup ∧ (∀ a ∈ as, F.H a = none ∧ g.base.get? a = none) ∧ ∀ j, ∀ a ∈ as, a ∉ fp j) :
    Rel g F sc h' (Mine.asg ρ i d f) (fun j => if j = i then as else fp j) := by
  unfold Mine.asg
  split
  · rename_i hi
    have e := r.imm hi
    subst e
    exact R.put hx S r (.inl rfl) (fun _ _ _ _ _ ha => (nomatch ha)) fun q => (nomatch q)
  · split
    · rename_i hf
      obtain ⟨q1, q2, q3⟩ := h2 hf.1 hf.2
      exact R.put hx S r (.inr rfl) (fun j _ _ _ => q3 j) fun _ => ⟨q1, q2, fun j _ => q3 j⟩
    · refine (R.dem f.u).put hx S r (.inl rfl) (fun j e _ hj a ha => ?_) fun q => (nomatch q)
      have := (dem_get f.u ρ j).1 e hj
      exact h1 j e this.1 this.2 a ha

theorem asg_own {j i : Nat} {d e : D} {f : Fg} (hl : i < ρ.length) (hj : (asg ρ i d f)[j]? = some (.own e)) : (j ≠ i ∧ ρ[j]? = some (.own e) ∧ (f.sh = false ∧ f.u = [] ∨ imm d = true ∨ j ∉ f.u)) ∨ (j = i ∧ f.sh = false ∧ f.u = [] ∧ imm d = false) := by
  unfold asg at hj
  by_cases hji : j = i
  · subst hji
    split at hj
    · simp [hl] at hj
    · split at hj
      · rename_i h1 h2; exact .inr ⟨rfl, h2.1, h2.2, by simpa using h1⟩
      · have hl' : j < (dem ρ f.u).length := by rw [(dem_get f.u ρ 0).2.2.2]; exact hl
        simp [hl'] at hj
  · refine .inl ⟨hji, ?_⟩
    split at hj
    · rename_i hi; exact ⟨by simpa [Ne.symm hji] using hj, .inr (.inl hi)⟩
    · split at hj
      · rename_i h1 h2; exact ⟨by simpa [Ne.symm hji] using hj, .inl h2⟩
      · have hj' : (dem ρ f.u)[j]? = some (.own e) := by simpa [Ne.symm hji] using hj
        have := (dem_get f.u ρ j).1 e hj'
        exact ⟨this.1, .inr (.inr this.2)⟩

theorem fresh_none (R : Rel g F sc h ρ fp) {a : Addr} (hf : h.get? a = none) : (F.H a = none ∧ g.base.get? a = none) ∧ ∀ j, a ∉ fp j := by
  refine ⟨⟨?_, ?_⟩, fun j q => ?_⟩
  · cases hq : F.H a with
    | none => rfl
    | some o => rcases R.held a o hq with e | ⟨_, _, e⟩ <;> rw [hf] at e <;> cases e
  · cases hq : g.base.get? a with
    | none => rfl
    | some o => have e := R.stays a o hq; rw [hf] at e; cases e
  · obtain ⟨o, _, _, e, _⟩ := R.fp_there j a q
    rw [hf] at e; cases e

theorem pair_stores {s₂ : Shared} {x y : Str} {i j : Nat} {v w : Value} {dx dy : D} {f k : Fg} {as bs : List Addr} {R : Unit → Shared → Prop} {E : Value → Shared → Prop} (T : At fname g Φ n F sc A s ρ fp)
    (hij : i ≠ j) (hx : (slots sc)[i]? = some x) (hy : (slots sc)[j]? = some y) (hkx : sc.names.lookup x = some .local ∨ sc.names.lookup x = some .cell) (hky : sc.names.lookup y = some .local ∨ sc.names.lookup y = some .cell)
    (st : Step g s s₂) (r : Rp s₂.heap v dx as) (r' : Rp s₂.heap w dy bs) (fo : FgOk ρ fp s.heap f as) (fo' : FgOk ρ fp s.heap k bs)
    (hd : f.sh = false → k.sh = false → f.u ++ k.u = [] → ∀ a ∈ as, a ∉ bs)
    (hR : ∀ s' fp', Later s s' → Rel g F sc s'.heap (pairAsg ρ i j dx f dy k) fp' → R () s') :
    wpAny (model g.p g.w) A (assignInOrder [fun v => bindName (F.env sc) y v, fun v => bindName (F.env sc) x v] [w, v]) R E s₂ := by
  have T₂ := T.step st
  have hlj : j < ρ.length := by rw [T.rel.len]; rw [List.getElem?_eq_some_iff] at hy; exact hy.1
  show wpAny _ A (do holding [v] (bindName (F.env sc) y w); assignInOrder [fun v => bindName (F.env sc) x v] [v]) R E s₂
  refine wpAny_bind (wpAny_holding (bindName_ (store_rule (i := j) T₂ hky fun h' tk S => ?_)))
  show wpAny _ A (do holding [] (bindName (F.env sc) x v); assignInOrder [] []) R E _
  by_cases hu : f.sh = false ∧ k.sh = false ∧ f.u ++ k.u = []
  · have hfu : f.u = [] := (List.append_eq_nil_iff.mp hu.2.2).1
    have hku : k.u = [] := (List.append_eq_nil_iff.mp hu.2.2).2
    have R₁ := T₂.rel.asgC (f := k) hy S r' (fun j' e hj hn => fo'.1 j' e hj hn) (fun hs _ => by
      have q := fo'.2 hs
      rw [hku] at q
      have fr : ∀ a ∈ bs, s.heap.get? a = none := fun a ha => by
        rcases q.1 a ha with q | ⟨_, hj, _⟩
        · exact q
        · cases hj
      exact ⟨q.2.1 List.nodup_nil, fun a ha => (fresh_none T.rel (fr a ha)).1, fun j' a ha => (fresh_none T.rel (fr a ha)).2 j'⟩)
    have T₃ : At fname g Φ n F sc A { s₂ with heap := h', toks := tk } (asg ρ j dy k) (fun j' => if j' = j then bs else fp j') := T.rel' R₁
    have rv : Rp h' v dx as := T₂.rel.rpStay S.keep r
    refine wpAny_bind (wpAny_holding (bindName_ (store_rule (i := i) T₃ hkx fun h₄ tk₄ S₄ => wpAny_pure ?_)))
    have R₂ := R₁.asgC (f := f) hx S₄ rv (fun j' e hj hn a ha => ?_) (fun hs _ => ?_)
    · refine hR _ (fun j' => if j' = i then as else if j' = j then bs else fp j') (st.later.trans (Later.trans ⟨h', tk, rfl⟩ ⟨h₄, tk₄, rfl⟩)) ?_
      unfold pairAsg
      rw [if_pos hu]; exact R₂
    · rcases asg_own hlj hj with ⟨hne, ho, _⟩ | ⟨rfl, hks, _, _⟩
      · rw [if_neg hne]; exact fo.1 j' e ho (by rw [hfu]; exact fun q => (nomatch q)) a ha
      · rw [if_pos rfl]; exact hd hu.1 hu.2.1 hu.2.2 a ha
    · have q := fo.2 hs
      rw [hfu] at q
      have fr : ∀ a ∈ as, s.heap.get? a = none := fun a ha => by
        rcases q.1 a ha with q | ⟨_, hj, _⟩
        · exact q
        · cases hj
      refine ⟨q.2.1 List.nodup_nil, fun a ha => (fresh_none T.rel (fr a ha)).1, fun j' a ha => ?_⟩
      by_cases hne : j' = j
      · rw [if_pos hne]; exact hd hu.1 hu.2.1 hu.2.2 a ha
      · rw [if_neg hne]; exact (fresh_none T.rel (fr a ha)).2 j'
  · have R₁ := T₂.rel.asgC (f := ⟨true, f.u ++ k.u⟩) hy S r' (fun j' e hj hn => fo'.1 j' e hj fun q => hn (List.mem_append_right _ q)) (fun hs => (nomatch hs))
    have T₃ : At fname g Φ n F sc A { s₂ with heap := h', toks := tk } (asg ρ j dy ⟨true, f.u ++ k.u⟩) (fun j' => if j' = j then bs else fp j') := T.rel' R₁
    have rv : Rp h' v dx as := T₂.rel.rpStay S.keep r
    refine wpAny_bind (wpAny_holding (bindName_ (store_rule (i := i) T₃ hkx fun h₄ tk₄ S₄ => wpAny_pure ?_)))
    have R₂ := R₁.asgC (f := ⟨true, f.u ++ k.u⟩) hx S₄ rv (fun j' e hj hn a ha => ?_) (fun hs => (nomatch hs))
    · refine hR _ (fun j' => if j' = i then as else if j' = j then bs else fp j') (st.later.trans (Later.trans ⟨h', tk, rfl⟩ ⟨h₄, tk₄, rfl⟩)) ?_
      unfold pairAsg
      rw [if_neg hu]; exact R₂
    · rcases asg_own hlj hj with ⟨hne, ho, _⟩ | ⟨_, hks, _⟩
      · rw [if_neg hne]; exact fo.1 j' e ho (fun q => hn (List.mem_append_left _ q)) a ha
      · cases hks

theorem swapped_ok {x y : Str} {px py tp vp : Pos} {k k' : Nat} {a b : Expr} {env : Env} (hk : env.scope.kind = .function) (hx : env.kindOf x = some .local) (hy : env.kindOf y = some .local) (hl : (py.line == px.line) = true) (hne : x ≠ y)
    (ha : noStar a = true) (hb : noStar b = true) (hf : ([a, b].all (foldedForSure 8)) = false) (hc : ([a, b].all (constantsAlone 8)) = false) :
    swappedStores [.Tuple [.Name x px, .Name y py] k tp] (.Tuple [a, b] k' vp) env = pure (some [x, y]) := by
  have hbk : env.blockKind = .function := by unfold Env.blockKind; rw [hk]; rfl
  have hbn : (env.blockKind != ScopeKind.function) = false := by rw [hbk]; rfl
  have e1 : (env.kindOf x == some .local && (px.line == px.line)) = true := by rw [hx]; simp
  have e2 : (env.kindOf y == some .local && (py.line == px.line)) = true := by rw [hy, hl]; rfl
  have hed : ([x, y] : List Str).eraseDups = [x, y] := by
    have : (y == x) = false := beq_eq_false_iff_ne.mpr (Ne.symm hne)
    simp [List.eraseDups_cons, this]
  unfold swappedStores
  simp only [pure_bind]
  rw [if_neg (by rw [hbn]; simp)]
  rw [if_neg (fun h => by
    rw [List.any_eq_true] at h
    obtain ⟨e, he, hp⟩ := h
    have he' : noStar e = true := by
      rcases List.mem_cons.mp he with rfl | he
      · exact ha
      · rcases List.mem_cons.mp he with rfl | he
        · exact hb
        · cases he
    cases e <;> first | exact Bool.false_ne_true hp | exact Bool.false_ne_true he')]
  have hl0 : (Option.map (fun x : Expr => x.pos.line) ([.Name x px, .Name y py] : List Expr).head?).getD 0 = px.line := rfl
  simp only [hl0, List.filterMap_cons, List.filterMap_nil, e1, e2, if_true]
  rw [if_neg (by rw [hed]; simp), if_neg (by rw [hf]; decide), if_neg (by rw [hc]; decide)]

theorem two_line (v w : Value) : ([v, w] : List Value).length ≤ sizeLine := by
  have e : ([v, w] : List Value).length = 2 := rfl
  rw [e]
  decide

theorem sem_pair {x y : Str} {px py tp vp pos : Pos} {k k' : Nat} {ea eb : Expr} {a b : X} {i j : Nat} (hij : i ≠ j) (hx : (slots sc)[i]? = some x) (hy : (slots sc)[j]? = some y) (hkx : sc.names.lookup x = some .local) (hky : sc.names.lookup y = some .local)
    (hl : (py.line == px.line) = true) (hne : x ≠ y) (hsa : noStar ea = true) (hsb : noStar eb = true) (hf : ([ea, eb].all (foldedForSure 8)) = false) (hc : ([ea, eb].all (constantsAlone 8)) = false)
    (ha : SemE fname sc ea a) (hb : SemE fname sc eb b) : SemS fname sc (.Assign [.Tuple [.Name x px, .Name y py] k tp] (.Tuple [ea, eb] k' vp) pos) (.pair i j a b) := by
  intro g Φ n F A s ρ fp Q R E T h hR
  conv at h => whnf
  refine Assign_Tuple_swapped (names := [x, y]) ?_ (show swapsWith (.Tuple [ea, eb] k' vp) (some (.Tuple [.Name x px, .Name y py] k tp)) pos.line (F.env sc) = pure false from swaps_no rfl _ _ _) (swapped_ok (env := F.env sc) T.kind hkx hky hl hne hsa hsb hf hc)
  refine wpAny_Tuple ?_
  refine args_cons (ha g Φ n F A s ρ fp _ _ E T h fun v s₁ d f as hk st r fo => args_cons (hb g Φ n F A s₁ ρ fp _ _ E (T.step st) hk fun w s₂ d' f' bs hk' st' r' fo' => args_nil ⟨two_line v w, ?_⟩) (starEach_cons hsb)) (starEach_cons hsa)
  have st₂ := (st.trans st').push { cls := .type "tuple", data := .seq #[v, w] }
  have ht : IsTup (s₂.heap.push { cls := .type "tuple", data := .seq #[v, w] }) s₂.heap.objs.size #[v, w] := ⟨_, Heap.get?_push_size _ rfl, rfl, 0, rfl⟩
  show wpAny (model g.p g.w) A (unpackItems (.ref s₂.heap.objs.size) (#[v, w] : Array Value).size none) _ E { s₂ with heap := s₂.heap.push { cls := .type "tuple", data := .seq #[v, w] } }
  refine unpackItems_tuple (s := { s₂ with heap := s₂.heap.push { cls := .type "tuple", data := .seq #[v, w] } }) T.room.handled ht fun h' hext => ?_
  have kp : ∀ b o, (s₂.heap.push { cls := .type "tuple", data := .seq #[v, w] }).get? b = some o → h'.get? b = some o := fun b o e => hext b o (fun q => by
    have := Heap.lt_size e; rw [q] at this; exact Nat.lt_irrefl _ this) e
  have st₃ := st₂.keep kp s₂.toks
  have kp' : Ext s₂.heap h' := (Ext.push _ _).trans (.of_keep kp)
  refine pair_stores (v := v) (w := w) (as := as) (bs := bs) T hij hx hy (.inl hkx) (.inl hky) st₃ ((r.ext st'.ext).ext kp') (r'.ext kp') fo (fo'.back st.ext) (fun h1 h2 h3 a ha hb' => ?_) (fun s' fp' hl' hr => hR .next .next _ _ _ hk' trivial hl' hr)
  have q := fo'.2 h2
  rw [(List.append_eq_nil_iff.mp h3).2] at q
  rcases q.1 a hb' with q | ⟨_, hj, _⟩
  · exact r.there a ha q
  · cases hj
end
end Mine
set_option Elab.async false
set_option maxRecDepth 100000
set_option linter.unusedVariables false
namespace Mine
open PySem PySem.Calls PyProof.Rows

section
variable {fname : Nat → Str} {g : Gx} {Φ : Calls} {n : Nat} {F : Fm} {sc : Scope} {A : Around} {s s' : Shared} {ρ : Vars} {fp : Nat → List Addr} {h h' : Heap}

noncomputable def EnumSt (e it l : Addr) (ds : List D) (as : List Addr) (k : Nat) (h : Heap) : Prop :=
  (∃ old, IsEnum h e it k old) ∧ h.IsListIter it l k ∧ Rp h (.ref l) (.list ds) (l :: as)

theorem EnumSt.frame {e it l : Addr} {ds : List D} {as : List Addr} {k : Nat} {M : Addr → Prop} (st : EnumSt e it l ds as k h) (sb : StayBut M h h') (he : ¬ M e) (hi : ¬ M it) (hz : ∀ z ∈ l :: as, ¬ M z) : EnumSt e it l ds as k h' := by
  obtain ⟨⟨old, x⟩, ⟨o, y, c, d⟩, r⟩ := st
  exact ⟨⟨old, sb.fields x he rfl⟩, ⟨o, sb.fields y hi d, c, d⟩, r.stay sb hz⟩
theorem EnumSt.there {e it l : Addr} {ds : List D} {as : List Addr} {k : Nat} (st : EnumSt e it l ds as k h) : ∀ b, (b = e ∨ b = it) → ∃ o vs, h.get? b = some o ∧ o.data = .fields vs := by
  obtain ⟨⟨old, x⟩, ⟨o, y, c, d⟩, r⟩ := st
  rintro b (rfl | rfl)
  · exact ⟨_, _, x, rfl⟩
  · exact ⟨_, _, y, d⟩
theorem EnumSt.lists {e it l : Addr} {ds : List D} {as : List Addr} {k : Nat} (st : EnumSt e it l ds as k h) : ∀ z ∈ l :: as, ∃ o vs n, h.get? z = some o ∧ o.data = .seq vs n := fun z hz =>
  let ⟨o, vs, m, e, _, _, d, _⟩ := st.2.2.mem z hz; ⟨o, vs, m, e, d⟩

end
end Mine
set_option Elab.async false
set_option maxRecDepth 100000
set_option linter.unusedVariables false
namespace Mine
open PySem PySem.Calls PyProof.Rows

theorem Rps.rev {h : Heap} : ∀ {vs ds as}, Rps h vs ds as → ∃ bs, Rps h vs.reverse ds.reverse bs ∧ List.Perm bs as
  | _, _, _, .nil => ⟨[], .nil, .nil⟩
  | _, _, _, .cons (as := as) (bs := bs) x y => by
    obtain ⟨cs, h1, h2⟩ := Rps.rev y
    refine ⟨cs ++ (as ++ []), ?_, ?_⟩
    · rw [List.reverse_cons, List.reverse_cons]
      exact Rps.append h1 (.cons x .nil)
    · rw [List.append_nil]
      exact (List.perm_append_comm).trans (List.Perm.append_left as h2)

section
variable {fname : Nat → Str} {g : Gx} {Φ : Calls} {n : Nat} {F : Fm} {sc : Scope} {A : Around} {s s' : Shared} {ρ : Vars} {fp : Nat → List Addr} {h h' : Heap}

theorem reverse_heap {l : Addr} {o : Obj} {vs : Array Value} {k : Nat} {pos : Pos} {Q E : Value → Shared → Prop} (ho : s.heap.get? l = some o) (hc : o.cls = .type "list") (hd : o.data = .seq vs k) (hz : vs.size ≤ sizeLine)
    (hQ : Q .none { s with heap := s.heap.update l (Obj.mapSeq (·.reverse)) }) : wpAny (model g.p g.w) A (callWith pos (.builtin "list.reverse") [.ref l] [] []) Q E s := by
  refine Calls.callWith_builtin rfl (PySem.evalArgs_none ?_)
  refine wpAny_call_entry PySem.F.slot_list_reverse ⟨o, ho, hc⟩ PySem.F.entry_list_reverse ?_ (PySem.F.args_list_reverse_1 _)
  show wpAny _ _ (updateSeq l (·.reverse) >>= fun _ => ret .none) _ _ s
  exact wpAny_bind (wpAny_updateSeq ho hd (wpAny_pure ⟨.none, rfl, hQ⟩) hz (by simp; omega))

theorem sem_reverse {x : Str} {p apos pos epos : Pos} {i : Nat} (hx : (slots sc)[i]? = some x) (hd : (x == ("__debug__" : Str)) = false) (hl : (apos.endLine == pos.line) = true) :
    SemS fname sc (.Expr (.Call (.Attribute (.Name x p) "reverse" apos) [] [] pos) epos) (.reverse i) := by
  intro g Φ n F A s ρ fp Q R E T h hR
  conv at h => whnf
  split at h
  · rename_i xs hi
    obtain ⟨y, v, hy, hv, r⟩ := T.rel.vars i _ (.inr hi)
    rw [hx] at hy; cases hy
    refine wpAny_Expr_any ?_ (not_interactive T) (swaps_no rfl _ _ _)
    refine wpAny_Call_method0_late rfl hl ?_
    refine load_var T hv hd ?_
    generalize hfp : fp i = fi at r
    cases r with
    | @list b o vs en _ as' e1 c di dt sz it =>
      refine ⟨"list", "list.reverse", PySem.F.plainAttrs_list, PySem.F.slot_list_reverse, PySem.F.type_list_reverse, ⟨o, e1, c⟩, fun a e => by cases e; exact ⟨o, e1, di⟩, ?_⟩
      refine reverse_heap e1 c dt sz ?_
      obtain ⟨k', hd'⟩ := Obj.data_mapSeq dt (·.reverse)
      have ho' := Heap.get?_update_self (Obj.mapSeq (·.reverse)) e1 (by
        obtain ⟨oc, od, odt, osl⟩ := o; simp only at dt; subst dt; rfl)
      obtain ⟨o1, o2, o3⟩ := T.rel.own i _ hi
      rw [hfp] at o1 o2 o3
      obtain ⟨bs, r1, r2⟩ := it.rev
      have R₂ := T.rel.mutate hi hfp (Heap.SameBut.update _ _ _) ho' (by cases o; cases c; simp only at dt; subst dt; rfl) (by cases o; cases di; simp only at dt; subst dt; rfl) hd' (by simpa using sz)
        (xs' := xs.reverse) (by simpa using r1) ((List.Perm.cons b r2).nodup_iff.mpr o1) (fun a ha => o2 a (.tail _ (r2.mem_iff.mp ha))) (fun j hj a ha => o3 j hj a (.tail _ (r2.mem_iff.mp ha)))
      exact hR .next .next _ _ _ h trivial ⟨_, _, rfl⟩ R₂
  · exact h.elim

end
end Mine
set_option Elab.async false
set_option maxRecDepth 100000
set_option linter.unusedVariables false
namespace Mine
open PySem PySem.Calls PyProof.Rows

noncomputable def Kp (h h' : Heap) : Prop := ∀ b o, h.get? b = some o → h'.get? b = some o
theorem Kp.trans {h₁ h₂ h₃ : Heap} (x : Kp h₁ h₂) (y : Kp h₂ h₃) : Kp h₁ h₃ := fun b o e => y b o (x b o e)
noncomputable def clOf (env : Env) : List (Str × NameKind) → List (Str × Addr) → List (Str × Addr)
  | [], acc => acc
  | (n, k) :: r, acc => if (k == .free) = true then clOf env r ((n, (env.cells.lookup n).getD 0) :: acc) else clOf env r acc

theorem mem_free {y : Str} : ∀ {l : List (Str × NameKind)}, l.lookup y = some .free → (y, NameKind.free) ∈ l
  | [], q => by cases q
  | p :: l, q => by
    rw [List.lookup_cons] at q
    by_cases hq : (y == p.1) = true
    · simp only [hq, Option.some.injEq] at q; rw [eq_of_beq hq, ← q]; exact .head _
    · simp only [hq] at q; exact .tail _ (mem_free q)
theorem kp_refl (s : Shared) : Keeps s s := ⟨s.heap, s.toks, rfl, fun _ _ e => e⟩
theorem kp_toks {s s' : Shared} (h : Keeps s s') (tk : Nat) : Keeps s { s' with toks := tk } := by
  obtain ⟨h', tk', rfl, k⟩ := h; exact ⟨h', tk, rfl, k⟩
theorem kp_ext {s s' : Shared} (h : Keeps s s') : Kp s.heap s'.heap := by obtain ⟨h', tk', rfl, k⟩ := h; exact k
theorem kp_trans {s s' s'' : Shared} (h : Keeps s s') (h' : Keeps s' s'') : Keeps s s'' := by
  obtain ⟨h1, t1, rfl, k⟩ := h
  obtain ⟨h2, t2, rfl, k'⟩ := h'
  exact ⟨h2, t2, rfl, fun b o e => k' b o (k b o e)⟩

theorem look_free {env : Env} : ∀ {names : List (Str × NameKind)} {x : Str}, names.lookup x = some .free → env.scope.kind = .function → env.kindOf x = some .cell →
    (names.map fun (n, k) => if (k == NameKind.free && env.scope.kind == .function && env.kindOf n == some .cell) then (n, NameKind.cell) else (n, k)).lookup x = some .cell
  | [], _, h, _, _ => by simp at h
  | (n, k) :: r, x, h, hf, hc => by
    have ih := @look_free env r x
    show List.lookup x ((if (k == NameKind.free && env.scope.kind == .function && env.kindOf n == some .cell) = true then (n, NameKind.cell) else (n, k)) :: _) = _
    cases hx : x == n with
    | true =>
      simp only [List.lookup_cons, hx] at h
      cases h
      have e := eq_of_beq hx
      subst e
      rw [if_pos (by rw [hf, hc]; decide)]
      simp
    | false =>
      simp only [List.lookup_cons, hx] at h
      by_cases hq : (k == NameKind.free && env.scope.kind == .function && env.kindOf n == some .cell) = true
      · rw [if_pos hq]; simp only [List.lookup_cons, hx]; exact ih h hf hc
      · rw [if_neg hq]; simp only [List.lookup_cons, hx]; exact ih h hf hc

theorem closure_pure {env : Env} {scope : Scope} (h : ∀ p ∈ scope.names, p.2 = .free → ∃ c, env.cells.lookup p.1 = some c) : closureFor scope env = pure (clOf env scope.names []) := by
  have key : ∀ (names : List (Str × NameKind)) (acc : List (Str × Addr)), (∀ p ∈ names, p.2 = .free → ∃ c, env.cells.lookup p.1 = some c) →
      (forIn names acc (fun (x : Str × NameKind) (cs : List (Str × Addr)) => if (x.2 == .free) = true then (do let a ← cellOf env x.1; pure (ForInStep.yield ((x.1, a) :: cs)) : Sem _) else pure (ForInStep.yield cs))) = pure (clOf env names acc) := by
    intro names
    induction names with
    | nil => intro acc _; rfl
    | cons p r ih =>
      intro acc hp
      obtain ⟨n, k⟩ := p
      rw [List.forIn_cons]
      unfold clOf
      by_cases hk : (k == NameKind.free) = true
      · obtain ⟨c, hc⟩ := hp (n, k) (.head _) (eq_of_beq hk)
        simp only [hk, if_true, cellOf, hc, pure_bind, Option.getD_some]
        exact ih _ fun q hq => hp q (.tail _ hq)
      · simp only [hk, pure_bind]
        exact ih _ fun q hq => hp q (.tail _ hq)
  unfold closureFor
  have := key scope.names [] h
  simp only [bind_pure]
  exact this

theorem clOf_look {env : Env} {y : Str} {c : Addr} (hc : env.cells.lookup y = some c) : ∀ (names : List (Str × NameKind)) (acc : List (Str × Addr)), (∀ c', acc.lookup y = some c' → c' = c) → (acc.lookup y = some c ∨ (y, NameKind.free) ∈ names) → (clOf env names acc).lookup y = some c
  | [], acc, _, h => by
    rcases h with h | h
    · exact h
    · cases h
  | (n, k) :: r, acc, ha, h => by
    unfold clOf
    by_cases hk : (k == NameKind.free) = true
    · rw [if_pos hk]
      by_cases hn : (y == n) = true
      · have e := eq_of_beq hn
        subst e
        refine clOf_look hc r _ ?_ (.inl ?_)
        · intro c' q; rw [List.lookup_cons] at q; simp only [hn, hc, Option.getD_some, Option.some.injEq] at q; exact q.symm
        · rw [List.lookup_cons]; simp only [hn, hc, Option.getD_some]
      · refine clOf_look hc r _ ?_ ?_
        · intro c' q; rw [List.lookup_cons] at q; simp only [hn] at q; exact ha c' q
        · rcases h with h | h
          · left; rw [List.lookup_cons]; simp only [hn]; exact h
          · rcases List.mem_cons.mp h with q | q
            · cases q; exact absurd (by simp) hn
            · exact .inr q
    · rw [if_neg hk]
      refine clOf_look hc r acc ha ?_
      rcases h with h | h
      · exact .inl h
      · rcases List.mem_cons.mp h with q | q
        · cases q; exact absurd (by decide) hk
        · exact .inr q

theorem look_glob {env : Env} : ∀ {names : List (Str × NameKind)} {x : Str}, names.lookup x = some .globalImplicit →
    (names.map fun (n, k) => if (k == NameKind.free && env.scope.kind == .function && env.kindOf n == some .cell) then (n, NameKind.cell) else (n, k)).lookup x = some .globalImplicit
  | [], _, h => by simp at h
  | (n, k) :: r, x, h => by
    have ih := @look_glob env r x
    show List.lookup x ((if (k == NameKind.free && env.scope.kind == .function && env.kindOf n == some .cell) = true then (n, NameKind.cell) else (n, k)) :: _) = _
    cases hx : x == n with
    | true =>
      simp only [List.lookup_cons, hx] at h
      cases h
      simp [List.lookup_cons, hx]
    | false =>
      simp only [List.lookup_cons, hx] at h
      by_cases hc : (k == NameKind.free && env.scope.kind == .function && env.kindOf n == some .cell) = true
      · rw [if_pos hc]; simp only [List.lookup_cons, hx]; exact ih h
      · rw [if_neg hc]; simp only [List.lookup_cons, hx]; exact ih h

theorem cell_load {fname : Nat → Str} {g : Gx} {Φ : Calls} {n : Nat} {F : Fm} {sc scope : Scope} {A : Around} {s₀ s : Shared} {ρ : Vars} {fp : Nat → List Addr} {C : Addr} {y : Str} {pos : Pos} {i : Nat} {d : D} {Q E : Value → Shared → Prop}
    (T : At fname g Φ n F sc A s₀ ρ fp) (up : Kp s₀.heap s.heap) (hk : scope.kind = .function) (hi : (slots sc)[i]? = some y) (hy : scope.names.lookup y = some .free) (hc : sc.names.lookup y = some .cell) (hd : (y == ("__debug__" : Str)) = false)
    (hz : ρ[i]? = some (.val d)) (hQ : ∀ v, Rp s.heap v d (fp i) → Q v s) : wpAny (model g.p g.w) A (eval (.Name y pos) (compEnvC scope (clOf (F.env sc) scope.names []) C (F.env sc))) Q E s := by
  obtain ⟨c, hcl⟩ := T.rel.ccov y hc
  obtain ⟨y', v, hy', hv, r⟩ := T.rel.vars i _ (.inl hz)
  rw [hi] at hy'; cases hy'
  rcases hv with ⟨hl, _⟩ | ⟨hl, c', o, h1, h2, h3⟩
  · rw [show (F.env sc).kindOf y = sc.names.lookup y from rfl, hc] at hl; cases hl
  · rw [show (F.env sc).cells = F.cl from rfl, hcl] at h1; cases h1
    exact wpAny_Name (wpAny_loadName_cell hk (look_free hy T.kind hc) (clOf_look (env := F.env sc) hcl _ _ (fun _ q => by cases q) (.inr (mem_free hy))) ⟨o, up c o h2, h3⟩ (hQ v (r.ext (.of_keep up)))) hd
section
variable {fname : Nat → Str} {g : Gx} {Φ : Calls} {n : Nat} {F : Fm} {sc : Scope} {A : Around} {s s' : Shared} {ρ : Vars} {fp : Nat → List Addr} {h h' : Heap}

end
end Mine
set_option Elab.async false
set_option maxRecDepth 100000
set_option linter.unusedVariables false
namespace Mine
open PySem PySem.Calls PyProof.Rows

section
variable {fname : Nat → Str} {g : Gx} {Φ : Calls} {n : Nat} {F : Fm} {sc : Scope} {A : Around} {s s' : Shared} {ρ : Vars} {fp : Nat → List Addr} {h h' : Heap}

theorem swapped_none {x y : Str} {px py tp vp : Pos} {k k' : Nat} {a b : Expr} {env : Env} (hk : env.scope.kind = .function) (hx : env.kindOf x ≠ some .local) (ha : noStar a = true) (hb : noStar b = true) :
    swappedStores [.Tuple [.Name x px, .Name y py] k tp] (.Tuple [a, b] k' vp) env = pure none := by
  have hbk : env.blockKind = .function := by unfold Env.blockKind; rw [hk]; rfl
  have hbn : (env.blockKind != ScopeKind.function) = false := by rw [hbk]; rfl
  have e1 : (env.kindOf x == some .local && (px.line == px.line)) = false := by
    have : (env.kindOf x == some NameKind.local) = false := beq_eq_false_iff_ne.mpr hx
    rw [this]; rfl
  unfold swappedStores
  simp only [pure_bind]
  rw [if_neg (by rw [hbn]; simp)]
  rw [if_neg (fun h => by
    rw [List.any_eq_true] at h
    obtain ⟨e, he, hp⟩ := h
    have he' : noStar e = true := by
      rcases List.mem_cons.mp he with rfl | he
      · exact ha
      · rcases List.mem_cons.mp he with rfl | he
        · exact hb
        · cases he
    cases e <;> first | exact Bool.false_ne_true hp | exact Bool.false_ne_true he')]
  have hl0 : (Option.map (fun x : Expr => x.pos.line) ([.Name x px, .Name y py] : List Expr).head?).getD 0 = px.line := rfl
  simp only [hl0, List.filterMap_cons, List.filterMap_nil, e1]
  rw [if_pos (by simp only [Bool.false_eq_true, if_false]; cases (env.kindOf y == some NameKind.local && (py.line == px.line)) <;> rfl)]

theorem sem_pairF {x y : Str} {px py tp vp pos : Pos} {k k' : Nat} {ea eb : Expr} {a b : X} {i j : Nat} (hx : (slots sc)[i]? = some x) (hy : (slots sc)[j]? = some y) (hkx : sc.names.lookup x = some .cell) (hky : sc.names.lookup y = some .local ∨ sc.names.lookup y = some .cell)
    (hsa : noStar ea = true) (hsb : noStar eb = true) (ha : SemE fname sc ea a) (hb : SemE fname sc eb b) : SemS fname sc (.Assign [.Tuple [.Name x px, .Name y py] k tp] (.Tuple [ea, eb] k' vp) pos) (.pairF i j a b) := by
  intro g Φ n F A s ρ fp Q R E T h hR
  conv at h => whnf
  refine Assign_Tuple ?_ (show swapsWith (.Tuple [ea, eb] k' vp) (some (.Tuple [.Name x px, .Name y py] k tp)) pos.line (F.env sc) = pure false from swaps_no rfl _ _ _) (swapped_none (env := F.env sc) T.kind (by show sc.names.lookup x ≠ _; rw [hkx]; decide) hsa hsb)
  refine wpAny_Tuple ?_
  refine args_cons (ha g Φ n F A s ρ fp _ _ E T h fun v s₁ d f as hk st r fo => args_cons (hb g Φ n F A s₁ ρ fp _ _ E (T.step st) hk fun w s₂ d' f' bs hk' st' r' fo' => args_nil ⟨two_line v w, ?_⟩) (starEach_cons hsb)) (starEach_cons hsa)
  obtain ⟨i1, i2, hq⟩ := hk'
  have st₂ := (st.trans st').push { cls := .type "tuple", data := .seq #[v, w] }
  have ht : IsTup (s₂.heap.push { cls := .type "tuple", data := .seq #[v, w] }) s₂.heap.objs.size #[v, w] := ⟨_, Heap.get?_push_size _ rfl, rfl, 0, rfl⟩
  refine assign_Tuple_tuple (s := { s₂ with heap := s₂.heap.push { cls := .type "tuple", data := .seq #[v, w] } }) T.room.handled ht ?_ ?_ ?_
  all_goals first | rfl | skip
  intro h' hext
  have kp : ∀ b o, (s₂.heap.push { cls := .type "tuple", data := .seq #[v, w] }).get? b = some o → h'.get? b = some o := fun b o e => hext b o (fun q => by
    have := Heap.lt_size e; rw [q] at this; exact Nat.lt_irrefl _ this) e
  have st₃ := st₂.keep kp s₂.toks
  have kp' : Ext s₂.heap h' := (Ext.push _ _).trans (.of_keep kp)
  have T₃ := T.step st₃
  have e1 := r.imm i1
  have e2 := r'.imm i2
  subst e1 e2
  have rv : Rp h' v d [] := (r.ext st'.ext).ext kp'
  have rw' : Rp h' w d' [] := r'.ext kp'
  show wpAny _ A (do holding [w] (assign (.Name x px) (F.env sc) v); assignInOrder [assign (.Name y py) (F.env sc)] [w]) _ E _
  refine wpAny_bind (wpAny_holding (assign_Name (store_rule (i := i) T₃ (.inr hkx) fun h₁ tk₁ S₁ => ?_)))
  have R₁ := T₃.rel.put hx S₁ rv (.inl rfl) (fun _ _ _ _ _ ha => (nomatch ha)) fun q => (nomatch q)
  have T₄ : At fname g Φ n F sc A { s₂ with heap := h₁, toks := tk₁ } (ρ.set i (.val d)) (fun j' => if j' = i then [] else fp j') := T.rel' R₁
  show wpAny _ A (do holding [] (assign (.Name y py) (F.env sc) w); assignInOrder [] []) _ E _
  refine wpAny_bind (wpAny_holding (assign_Name (store_rule (i := j) T₄ hky fun h₂ tk₂ S₂ => wpAny_pure ?_)))
  have R₂ := R₁.put hy S₂ (T₃.rel.rpStay S₁.keep rw') (.inl rfl) (fun _ _ _ _ _ ha => (nomatch ha)) fun q => (nomatch q)
  exact hR .next .next _ _ _ hq trivial (st₃.later.trans (Later.trans ⟨h₁, tk₁, rfl⟩ ⟨h₂, tk₂, rfl⟩)) R₂
end
end Mine
set_option Elab.async false
set_option maxRecDepth 100000
set_option linter.unusedVariables false
namespace Mine
open PySem PySem.Calls PyProof.Rows

theorem upd_freed (h : Heap) (a : Addr) : (h.update a fun o => { o with data := .freed }).get? a = none := by
  cases hq : (h.update a fun o => { o with data := .freed }).get? a with
  | none => rfl
  | some o =>
    have q := Heap.get?_some_iff.mp hq
    obtain ⟨objs, l⟩ := h
    simp only [Heap.update, Array.getElem?_modify, if_true] at q
    cases hx : objs[a]? with
    | none => rw [hx] at q; simp at q
    | some o' => rw [hx] at q; simp at q; rw [← q.1] at q; simp [Obj.isFreed] at q
theorem strip_of {h : Heap} : ∀ {l : List Addr} {b : Addr} {o : Obj}, (strip h l).get? b = some o → h.get? b = some o ∧ b ∉ l
  | [], b, o, e => ⟨e, fun q => (nomatch q)⟩
  | a :: l, b, o, e => by
    by_cases hab : a = b
    · subst hab; rw [strip, upd_freed] at e; cases e
    · rw [strip, Heap.get?_update_other _ _ hab] at e
      obtain ⟨h1, h2⟩ := strip_of e
      exact ⟨h1, fun q => by rcases List.mem_cons.mp q with q | q; exact hab q.symm; exact h2 q⟩
theorem strip_to {h : Heap} : ∀ {l : List Addr} {b : Addr} {o : Obj}, h.get? b = some o → b ∉ l → (strip h l).get? b = some o
  | [], b, o, e, _ => e
  | a :: l, b, o, e, hn => by
    rw [strip, Heap.get?_update_other _ _ (fun q => hn (by rw [q]; exact .head _))]
    exact strip_to e fun q => hn (.tail _ q)

section
variable {fname : Nat → Str} {g : Gx} {Φ : Calls} {n : Nat} {F : Fm} {sc : Scope} {A : Around} {s s' : Shared} {ρ : Vars} {fp : Nat → List Addr} {h h' : Heap}

theorem raise_rule {x : Str} {C : Addr} {m : Str} {k : Nat} {np p cpos pos : Pos} {Q : Flow → Shared → Prop} {E : Value → Shared → Prop} (T : At fname g Φ n F sc A s ρ fp) (O : IsExc g x C) (hx : sc.names.lookup x = some .globalImplicit) (hd : (x == ("__debug__" : Str)) = false)
    (hz : m.cps.size ≤ sizeLine) (hE : ∀ s₂ h' e vs, Step g s s₂ → Heap.MadeExcOf s₂.heap h' e (.ref C) vs → E (.ref e) { s₂ with heap := h' }) :
    wpAny (model g.p g.w) A (exec (.Raise (some (.Call (.Name x np) [.Constant (.str m) k p] [] cpos)) none pos) (F.env sc)) Q E s := by
  have O' := O.own.own
  obtain ⟨tl, N, nm, q, bs, hdct, sn, sub, ab, col, dd, k0, k1, k2, k3, k5, mN, hC, hN, hni, Tl⟩ := O'.obj
  refine wpAny_Raise_call_subT (C := C) (nm := nm) (q := q) (N := N) (bs := bs) (bm := tl) (hdct := hdct) (sn := sn) (sub := sub) (ab := ab) (col := col) (dd := dd) (k0 := k0) (k1 := k1) (k2 := k2) (k3 := k3) (k5 := k5)
    PySem.F.excBase_ValueError (mN := mN) (Tl.hasType PySem.F.excBase_ValueError.hasBase) T.room.handled rfl hni (Name_function_global T.kind hx (loadGlobal_global (T.gd.glb.keeps T.rel.stays) O'.bound ⟨rfl, ?_⟩) hd)
  have st : ∀ b o, g.base.get? b = some o → s.heap.get? b = some o := T.rel.stays
  refine Calls.evalArgs_plain (args_cons (wpAny_Constant_str (args_nil ?_)) (starEach_cons rfl))
  exact ⟨rfl, by show 1 ≤ sizeLine; decide, st _ _ hC, hN.keeps st, Tl.keeps st, fun h' e hm => hE _ h' e _ (T.here.toks _) hm⟩

end

theorem gone_of {g : Gx} {l : List Env} {h : Heap} {b : Addr} {o : Obj} (e : (gone g l h).get? b = some o) : h.get? b = some o ∧ b ∉ l.filterMap (·.frame) ∧ ((∃ o', g.base.get? b = some o') ∨ ∃ vs, o.data = .fields vs) := by
  obtain ⟨h1, h2⟩ := strip_of e
  rw [List.mem_append, not_or] at h2
  refine ⟨h1, h2.1, ?_⟩
  by_cases hb : (g.base.get? b).isNone = true
  · right
    by_cases hf : ∃ vs, o.data = .fields vs
    · exact hf
    · refine absurd (List.mem_filter.mpr ⟨List.mem_range.mpr (Heap.lt_size h1), ?_⟩) h2.2
      rw [hb, h1]
      simp only [Bool.true_and]
      split
      · rename_i vs q; exact absurd ⟨vs, q⟩ hf
      · rfl
  · left
    cases hq : g.base.get? b with
    | none => rw [hq] at hb; simp at hb
    | some o' => exact ⟨o', rfl⟩
theorem gone_fields {g : Gx} {l : List Env} {h : Heap} {b : Addr} {o : Obj} {vs : Array Value} (e : h.get? b = some o) (hd : o.data = .fields vs) (hb : b ∉ l.filterMap (·.frame)) : (gone g l h).get? b = some o := by
  refine strip_to e ?_
  rw [List.mem_append, not_or]
  refine ⟨hb, fun q => ?_⟩
  have := (List.mem_filter.mp q).2
  rw [e] at this
  simp [hd] at this
theorem gone_base {g : Gx} {l : List Env} {h : Heap} {b : Addr} {o : Obj} (e : g.base.get? b = some o) (k : g.base.StaysIn h) (hb : b ∉ l.filterMap (·.frame)) : (gone g l h).get? b = some o := by
  refine strip_to (k b o e) ?_
  rw [List.mem_append, not_or]
  refine ⟨hb, fun q => ?_⟩
  have := (List.mem_filter.mp q).2
  rw [e] at this
  simp at this
theorem gone_ext {g : Gx} {l : List Env} {h h' : Heap} (k : (gone g l h).StaysIn h') (u : h.UpToSlots h') (fr : h.FunFrames g.base l) : Ext h h' := by
  intro b o e
  by_cases hf : ∃ vs, o.data = .fields vs
  · obtain ⟨vs, hd⟩ := hf
    refine .inl (k b o (gone_fields e hd fun q => ?_))
    obtain ⟨_, o', e', hn⟩ := fr.mem q
    rw [e] at e'; cases e'; exact hn vs hd
  · have hn : ∀ vs, o.data ≠ .fields vs := fun vs q => hf ⟨vs, q⟩
    exact .inr ⟨hn, u b o e hn⟩
theorem gone_stays {g : Gx} {l : List Env} {h h' : Heap} (k : (gone g l h).StaysIn h') (ks : g.base.StaysIn h) (fr : h.FunFrames g.base l) : g.base.StaysIn h' := fun b o e => k b o (gone_base e ks fun q => by
  have := (fr.mem q).1; rw [e] at this; cases this)
theorem fn_enter {fname : Nat → Str} {g : Gx} {n f k m : Nat} {body : Ss} {ds : List D} {fa : Addr} {name : Str} {params : Arguments} {stmts : List Stmt} {sc : Scope} {pm cd doc : Value} {o : Obj} (G : Gd g)
    (T : FnAt fname g f k m body fa name params stmts sc pm cd doc o) (hlen : ds.length = k) {A : Around} {s : Shared} {vs : List Value} {as : List Addr} {outer : List Env} {R : Result → Shared → Prop}
    (room : Room A (n + 1) outer) (stays : g.base.StaysIn s.heap) (frames : s.heap.FunFrames g.base outer) (r : Rps s.heap vs ds as)
    (hb : ∀ (F : Fm) (fp : Nat → List Addr) (h₁ : Heap) (tk : Nat), F.outer = outer → F.H = s.heap.get? → F.L = s.heap.objs.size → Room (A.deeper (F.env sc)) n (F.env sc :: outer) → Rel g F sc h₁ (startVars ds m) fp →
      wpAny (model g.p g.w) (A.deeper (F.env sc)) (execs stmts (F.env sc)) (fun f s' => R (.ok (.ret (match f with | .ret v => v | _ => .none))) s')
        (fun e s' => wpAny (model g.p g.w) (A.deeper (F.env sc)) (leaving (F.env sc) e) (fun _ s'' => R (.error e) s'') (fun e' s'' => R (.error e') s'') s') { s with heap := h₁, toks := tk }) :
    codeAny (model g.p g.w) A (.call (.ref fa) ⟨vs, []⟩) R s := by
  have hvl : vs.length = k := r.length.trans hlen
  obtain ⟨hnd, hsl, hkm, hpar⟩ := T.xs
  have cnames : (cellsFrom (s.heap.objs.size + 1) sc.names []).map (·.1) = (cellsFrom 0 sc.names []).map (·.1) := cellsFrom_names sc.names _ _ _ _ rfl
  have ccov : ∀ x, sc.names.lookup x = some .cell → ∃ c, (cellsFrom (s.heap.objs.size + 1) sc.names []).lookup x = some c := fun x hx => look_some (by rw [cnames]; exact T.cells.2 x hx)
  refine (call_cells (by have := room.depth; omega) (stays _ _ T.at') T.data (G.nolimit.keeps stays) (T.code.keeps stays) (T.bind vs hvl) ?_ ?_ T.plain.2.1 T.plain.1 T.plain.2.2)
  · intro x hx
    have : x.1 ∈ params.args.map (·.arg) := (List.of_mem_zip hx).1
    rw [← hpar] at this
    rcases T.loc _ this with q | q
    · exact .inl q
    · obtain ⟨c, hc⟩ := ccov _ q
      exact .inr ⟨q, by rw [hc]; rfl⟩
  intro h₁ tk₁ Fr₁ Cl₁
  obtain ⟨fp, hf1, hf2⟩ := r.fps
  have hLfresh := fresh_size s.heap
  have keep : ∀ b o, s.heap.get? b = some o → h₁.get? b = some o := Fr₁.keep
  let F : Fm := { name := name, L := s.heap.objs.size, fa := fa, cd := cd, cl := cellsFrom (s.heap.objs.size + 1) sc.names [], outer := outer, H := s.heap.get? }
  have hns := Fr₁.ns
  have hbL : g.base.get? s.heap.objs.size = none := by
    cases hq : g.base.get? s.heap.objs.size with
    | none => rfl
    | some o => have e := stays _ o hq; rw [hLfresh] at e; cases e
  have hstart : ∀ (i : Nat) (c : Cell), (startVars ds m)[i]? = some c → (i < k ∧ ∃ d, ds[i]? = some d ∧ c = .val d) ∨ (k ≤ i ∧ c = .unset) := by
    intro i c e
    unfold startVars at e
    by_cases hi : i < k
    · rw [List.getElem?_append_left (by simpa [hlen] using hi)] at e
      rw [List.getElem?_map] at e
      cases hd : ds[i]? with
      | none => rw [hd] at e; cases e
      | some d => rw [hd] at e; cases e; exact .inl ⟨hi, d, rfl, rfl⟩
    · rw [List.getElem?_append_right (by simp [hlen]; omega)] at e
      rw [List.getElem?_replicate] at e
      split at e
      · cases e; exact .inr ⟨by omega, rfl⟩
      · cases e
  have R : Rel g F sc h₁ (startVars ds m) fp := by
    refine ⟨fun b o e => keep b o (stays b o e), fun b o e => .inl (keep b o e), ⟨?_, ?_, ?_⟩, ⟨_, hns⟩, hLfresh, fun p hp => ?_, ?_, ?_, ?_, hnd, ?_, ?_, ?_⟩
    · show sc.kind ≠ .module; rw [T.plain.2.2]; decide
    · obtain ⟨oL, es, ep, e, hd, _⟩ := hns
      exact ⟨s.heap.objs.size, oL, rfl, hbL, e, fun vs q => by rw [hd] at q; cases q⟩
    · exact FunFrames.ext (.of_keep keep) frames
    · have hab := Cl₁.above p.1 p.2 hp
      have hno : s.heap.get? p.2 = none := Heap.get?_none_of_le (Nat.le_of_lt hab)
      refine ⟨hno, ?_, ?_⟩
      · cases hq : g.base.get? p.2 with
        | none => rfl
        | some o => have e := stays _ o hq; rw [hno] at e; cases e
      · obtain ⟨o, ho, hd⟩ := Cl₁.cell p.1 p.2 (lookup_of_mem_nodup (by rw [cnames]; exact T.cells.1) hp)
        exact ⟨o, _, ho, hd⟩
    · exact List.pairwise_map.mpr Cl₁.apart
    · exact ccov
    · rw [hsl]; unfold startVars; simp [hlen]; omega
    · intro i d hc
      rcases hc with hc | hc
      · rcases hstart i _ hc with ⟨hi, d', hd, e⟩ | ⟨_, e⟩
        · cases e
          obtain ⟨v, hv, rv⟩ := hf1 i d hd
          have hlt : i < (slots sc).length := by omega
          have hx : (slots sc)[i]? = some (slots sc)[i] := by simp [hlt]
          have hx' : ((slots sc).take k)[i]? = some (slots sc)[i] := by rw [List.getElem?_take, if_pos hi]; exact hx
          have hloc := T.loc _ (List.mem_of_getElem? hx')
          refine ⟨_, v, hx, ?_, rv.ext (.of_keep keep)⟩
          rw [hpar] at hx'
          have hnd' : (((params.args.map (·.arg)).zip vs).map (·.1)).Nodup := by
            rw [List.map_fst_zip (by rw [← hpar, hvl]; exact List.length_take_le _ _), ← hpar]; exact hnd.sublist (List.take_sublist _ _)
          have hmem : ((slots sc)[i], v) ∈ (params.args.map (·.arg)).zip vs := List.mem_iff_getElem?.mpr ⟨i, by rw [List.getElem?_zip_eq_some]; exact ⟨hx', hv⟩⟩
          rcases hloc with q | q
          · exact .inl ⟨q, _, hns, bindL_look (k := (F.env sc).kindOf) q _ _ hnd' hmem⟩
          · obtain ⟨c, hc⟩ := ccov _ q
            obtain ⟨o, ho, hd⟩ := Cl₁.cell _ c hc
            refine .inr ⟨q, c, o, hc, ho, ?_⟩
            rw [hd]; congr 1; exact bindC_look (k := (F.env sc).kindOf) q _ _ hnd' hmem
        · cases e
      · rcases hstart i _ hc with ⟨hi, d', hd, e⟩ | ⟨_, e⟩ <;> cases e
    · intro i hno
      by_cases hi : i < k
      · have hd : ds[i]? = some ds[i] := by simp [hlen, hi]
        have : (startVars ds m)[i]? = some (.val ds[i]) := by
          unfold startVars
          rw [List.getElem?_append_left (by simpa [hlen] using hi), List.getElem?_map, hd]; rfl
        exact absurd this (hno ds[i]).1
      · exact hf2 i (by omega)
    · intro i d hc
      rcases hstart i _ hc with ⟨hi, d', hd, e⟩ | ⟨_, e⟩ <;> cases e
  have room' : Room (A.deeper (F.env sc)) n (F.env sc :: outer) := by
    refine ⟨Around.frames_deeper room.frames, ?_, ?_, room.handled⟩
    · have := room.depth; show A.depth + 1 + n + 150 < _; omega
    · have := room.units; show A.units + 3 + 8 * n + 300 < _; omega
  exact hb F fp h₁ tk₁ rfl rfl rfl room' R

end Mine
set_option Elab.async false
set_option maxRecDepth 100000
set_option linter.unusedVariables false
namespace Mine
open PySem PySem.Calls PyProof.Rows

section
variable {fname : Nat → Str} {g : Gx} {Φ : Calls} {n : Nat} {F : Fm} {sc : Scope} {A : Around} {s s' : Shared} {ρ : Vars} {fp : Nat → List Addr} {h h' : Heap}

theorem call_raises {x : Str} {np pos : Pos} {e : Expr} {es : List Expr} {xs : Xs} {f c : Nat} {Q E : Value → Shared → Prop} {P : Prop} (T : At fname g Φ n F sc A s ρ fp) (hx : sc.names.lookup x = some .globalImplicit) (hn : fname f = x) (hf : f < 500) (hne : x ≠ Str.empty) (hd : (x == ("__debug__" : Str)) = false)
    (hs : noStar e = true) (ha : SemL fname sc (e :: es) xs) (h : wL Φ ρ xs fun ds _ => Φ (500 + f) ds fun d _ => d = .int (c : Int) ∧ P)
    (hE : ∀ C ex a0 s₁ s', P → IsExc g (fname c) C → Step g s s₁ → Later s₁ s' → Heap.FlyingW (gone g (F.env sc :: F.outer) s₁.heap) (F.env sc :: F.outer) ex (.ref C) a0 s'.heap → s₁.heap.UpToSlots s'.heap → E (.ref ex) s') :
    wpAny (model g.p g.w) A (eval (.Call (.Name x np) (e :: es) [] pos) (F.env sc)) Q E s := by
  obtain ⟨fa, o, fd, hmg, hb, hdat⟩ := T.named f (by omega) (by rw [hn]; exact hne)
  rw [hn] at hmg
  refine wpAny_Call_ofName (Name_function_global T.kind hx (loadGlobal_global (T.gd.glb.keeps T.rel.stays) hmg ?_) hd)
  refine callWith_def hdat (ha g Φ n F A s ρ fp pos _ _ E T h fun vs s₁ ds f' as hk st r fo => ⟨st.stays _ _ hb, ?_⟩) (starEach_cons hs)
  have q := T.fns _ _ _ hk
  unfold Spec at q
  rw [if_neg (by omega), if_pos (by omega)] at q
  obtain ⟨c', C, fa', ⟨hc, hP⟩, O, q⟩ := q
  have hcc : c' = c := by injection hc with hc; omega
  subst hcc
  have e := q.named
  rw [show 500 + f - 500 = f by omega, hn, hmg] at e
  cases e
  exact q.run A s₁ vs as _ C Q E T.room st.stays (T.step st).rel.frames r O fun ex a0 s' hl hfl hup => hE C ex a0 s₁ s' hP O st hl hfl hup

theorem caught_rel {s₁ : Shared} {h' : Heap} (T : At fname g Φ n F sc A s₁ ρ fp) (k : (gone g (F.env sc :: F.outer) s₁.heap).StaysIn h') (u : s₁.heap.UpToSlots h') : Rel g F sc h' ρ fp :=
  T.rel.ext (gone_ext k u T.rel.frames) (gone_stays k T.rel.stays T.rel.frames)

end
end Mine
set_option Elab.async false
set_option maxRecDepth 100000
set_option linter.unusedVariables false
namespace Mine
open PySem PySem.Calls PyProof.Rows

section
variable {prog : Program} {w : World} {A : Around} {E : Value → Shared → Prop} {h : Heap} {g : Array GenState} {d : Drawn} {t : Nat} {os : OsState}
variable {nm q : Str} {C N : Addr} {bs bm : List Value} {hdct : Bool} {sn : List Str} {sub : List Value} {ab : Bool} {col : Option Bool} {dd : Option Addr} {k0 k1 k2 k3 k5 : Option Value} {newId : String}
variable {nm' q' : Str} {C' N' : Addr} {bs' bm' : List Value} {hdct' : Bool} {sn' : List Str} {sub' : List Value} {ab' : Bool} {col' : Option Bool} {dd' : Option Addr} {k0' k1' k2' k3' k5' : Option Value} {newId' : String}

theorem isi_nested {e : Addr} {oe : Obj} {T : String} {dep : Int} {tk : Tok} {Q : Fin → Shared → Prop} (hC : h.get? C = some (excClassObj nm q C N bs bm hdct sn sub ab col dd k0 k1 k2 k3 k5 newId)) (he : h.get? e = some oe) (hcls : oe.cls = .ref C)
    (hty : typeOf (.type T) = pure (.type "type")) (hin : bm.contains (.type T) = true) (hq : Q (.done (.ret (.bool true))) ⟨h, g, d, t, os⟩) :
    wpAny (model prog w) A (Builtin.«isinstance.nested» ⟨[.ref e, .type T, .int dep tk], []⟩) Q E ⟨h, g, d, t, os⟩ := by
  have hc : (Value.ref C :: bm).contains (.type T) = true := by rw [List.contains_cons, hin, Bool.or_true]
  repeat (first | assumption | (with_reducible refine wpAny_loadPart_at he ?_; rw [hcls]) | (with_reducible refine wpAny_isSubtype_exc hC ?_; rw [hc]) | wp_step)

theorem exm_super {e : Addr} {oe : Obj} {Q : Bool → Shared → Prop} (hC : h.get? C = some (excClassObj nm q C N bs bm hdct sn sub ab col dd k0 k1 k2 k3 k5 newId))
    (hC' : h.get? C' = some (excClassObj nm' q' C' N' bs' bm' hdct' sn' sub' ab' col' dd' k0' k1' k2' k3' k5' newId')) (he : h.get? e = some oe) (hcls : oe.cls = .ref C)
    (hbase : bm'.contains (.type "BaseException") = true) (hin : (Value.ref C :: bm).contains (.ref C') = true) (hq : Q true ⟨h, g, d, t, os⟩) : wpAny (model prog w) A (excMatches (.ref e) (.ref C')) Q E ⟨h, g, d, t, os⟩ := by
  have hcB : (Value.ref C' :: bm').contains (.type "BaseException") = true := by rw [List.contains_cons, hbase, Bool.or_true]
  have f := tc_notTuple
  unfold excMatches
  repeat (first | (with_reducible refine wpAny_loadPart_at he ?_; rw [hcls]) | with_reducible refine wpAny_loadPart_at hC' ?_ | (with_reducible refine wpAny_isSubtype_exc hC' ?_; rw [hcB]) | (with_reducible refine wpAny_isSubtype_exc hC ?_; rw [hin]) | wp_step)
  exact hq

theorem isi_own {e : Addr} {oe : Obj} {T : String} {s : Shared} {Q : Value → Shared → Prop} (hC : s.heap.get? C = some (excClassObj nm q C N bs bm hdct sn sub ab col dd k0 k1 k2 k3 k5 newId)) (he : s.heap.get? e = some oe) (hcls : oe.cls = .ref C)
    (hty : typeOf (.type T) = pure (.type "type")) (hin : bm.contains (.type T) = true) (hq : Q (.bool true) s) : wpAny (model prog w) A (call (.builtin "isinstance") [.ref e, .type T]) Q E s := by
  refine call_isinstance (S := fun _ R s' => s' = s ∧ R (.ok (.ret (.bool true))) s') (fun _ _ _ _ s' hs => ?_) ⟨rfl, hq⟩
  obtain ⟨rfl, hs⟩ := hs
  obtain ⟨h, g, d, t, os⟩ := s'
  exact isinstance_outer (isi_nested hC he hcls hty hin hs) (by intro q; cases q)
end

structure Hid (F : Fm) (sc : Scope) (h h' : Heap) (x : Str) : Prop where
  oth : ∀ y w, y ≠ x → VarIs (F.env sc) h y w → VarIs (F.env sc) h' y w
  keep : ∀ b o, h.get? b = some o → ¬ Priv F b → h'.get? b = some o
  ns : ∃ m, h'.Ns F.L m
  cells : ∀ p ∈ F.cl, ∃ o v, h'.get? p.2 = some o ∧ o.data = .cell v
theorem Stored.hid {F : Fm} {sc : Scope} {h h' : Heap} {x : Str} {v : Value} (S : Stored F sc h h' x v) : Hid F sc h h' x := ⟨S.oth, S.keep, S.ns, S.cells⟩

section
variable {fname : Nat → Str} {g : Gx} {Φ : Calls} {n : Nat} {F : Fm} {sc : Scope} {A : Around} {s s' : Shared} {ρ : Vars} {fp : Nat → List Addr} {h h' : Heap}

theorem Rel.hide (R : Rel g F sc h ρ fp) {x : Str} {i : Nat} (hx : (slots sc)[i]? = some x) (hi : ρ[i]? = some .unset) (S : Hid F sc h h' x) : Rel g F sc h' ρ fp := by
  refine ⟨fun b o e => S.keep b o (R.stays b o e) ?_, fun b o e => ?_, FunFrames.data (fun b o e hd => ?_) R.frames, S.ns, R.hL, fun p hp => ?_, R.cnd, R.ccov, R.len, R.nd, fun j e he => ?_, R.nofp, R.own⟩
  · rintro (rfl | ⟨p, hp, rfl⟩)
    · rw [R.baseL] at e; cases e
    · rw [(R.cells p hp).2.1] at e; cases e
  · have hb : ¬ Priv F b := by
      rintro (rfl | ⟨p, hp, rfl⟩)
      · rw [R.hL] at e; cases e
      · rw [(R.cells p hp).1] at e; cases e
    rcases R.held b o e with q | ⟨hd, sl, q⟩
    · exact .inl (S.keep b o q hb)
    · exact .inr ⟨hd, sl, S.keep b _ q hb⟩
  · by_cases hb : Priv F b
    · rcases hb with rfl | ⟨p, hp, rfl⟩
      · obtain ⟨m, o', es, ep, ho, hd', _⟩ := S.ns
        exact ⟨o', ho, fun vs q => by rw [hd'] at q; cases q⟩
      · obtain ⟨o', w, ho, hd'⟩ := S.cells p hp
        exact ⟨o', ho, fun vs q => by rw [hd'] at q; cases q⟩
    · exact ⟨o, S.keep b o e hb, hd⟩
  · obtain ⟨a, b, _⟩ := R.cells p hp
    exact ⟨a, b, S.cells p hp⟩
  · have hne : j ≠ i := fun q => by subst q; rw [hi] at he; rcases he with he | he <;> cases he
    obtain ⟨y, w, hy, hv, hr⟩ := R.vars j e he
    exact ⟨y, w, hy, S.oth y w (slots_ne R.nd hx hy hne) hv, R.rpStay S.keep hr⟩

theorem unbind_hid (R : Rel g F sc s.heap ρ fp) (hkd : sc.kind = .function) {x : Str} {v : Value} {pos : Pos} {Q : Unit → Shared → Prop} {E : Value → Shared → Prop} (hk : sc.names.lookup x = some .local) (hv : VarIs (F.env sc) s.heap x v)
    (hQ : ∀ h', Hid F sc s.heap h' x → Q () { s with heap := h' }) : wpAny (model g.p g.w) A (unbindBehindTheSuite (F.env sc) x pos) Q E s := by
  unfold unbindBehindTheSuite
  rcases hv with ⟨hl, m, hn, hm⟩ | ⟨hl, _⟩
  · refine wpAny_onRaise (wpAny_unbindName_local hl hn hm (by show (sc.kind == .class || (sc.kind == .module && F.L != mainGlobals)) = false; rw [hkd]; rfl) fun h' u hn' hs => hQ h' ?_)
    have hcl : ∀ p ∈ F.cl, p.2 ≠ F.L := fun p hp q => by
      obtain ⟨_, _, o, w, ho, hd⟩ := R.cells p hp
      obtain ⟨o', es, ep, ho', hd', _⟩ := hn
      rw [q] at ho
      rw [show (F.env sc).locals = F.L from rfl, ho] at ho'; cases ho'; rw [hd'] at hd; cases hd
    refine ⟨fun y w hne hv => ?_, fun b o e hb => (hs.2 b fun q => hb (.inl q)).trans e, ⟨_, hn'⟩, fun p hp => ?_⟩
    · rcases hv with ⟨hl', m', hm', hv'⟩ | ⟨hl', c, o, h1, h2, h3⟩
      · refine .inl ⟨hl', _, hn', ?_⟩
        rw [if_neg hne]
        obtain ⟨o, es, ep, ho, hd, _, hf⟩ := hn
        obtain ⟨o', es', ep', ho', hd', _, hf'⟩ := hm'
        rw [ho] at ho'
        cases ho'
        rw [hd] at hd'; cases hd'
        rw [← hf, hf', hv']
      · exact .inr ⟨hl', c, o, h1, (hs.2 c (hcl _ (mem_of_look h1))).trans h2, h3⟩
    · obtain ⟨_, _, o, w, ho, hd⟩ := R.cells p hp
      exact ⟨o, w, (hs.2 p.2 (hcl p hp)).trans ho, hd⟩
  · rw [show (F.env sc).kindOf x = sc.names.lookup x from rfl, hk] at hl; cases hl
end
end Mine
set_option Elab.async false
set_option maxRecDepth 100000
set_option linter.unusedVariables false
namespace Mine
open PySem PySem.Calls PyProof.Rows

section
variable {fname : Nat → Str} {g : Gx} {Φ : Calls} {n : Nat} {F : Fm} {sc : Scope} {A : Around} {s s' : Shared} {ρ : Vars} {fp : Nat → List Addr} {h h' : Heap}

end
end Mine
set_option Elab.async false
set_option maxRecDepth 100000
set_option linter.unusedVariables false
namespace Mine
open PySem PySem.Calls PyProof.Rows

section
variable {fname : Nat → Str} {g : Gx} {Φ : Calls} {n : Nat} {F : Fm} {sc : Scope} {A : Around} {s s' : Shared} {ρ : Vars} {fp : Nat → List Addr} {h h' : Heap}

end
end Mine
set_option Elab.async false
set_option maxRecDepth 100000
set_option linter.unusedVariables false
namespace Mine
open PySem PySem.Calls PyProof.Rows

theorem swaps_yes {el : Expr} {gs : List Comprehension} {scope : Scope} {pos py : Pos} {y : Str} {line : Nat} {env : Env} (hk : env.scope.kind = .function) (hy : env.kindOf y = some .local) (hl : (py.line == pos.line) = true)
    (ha : (scope.names.any fun p => p.1 == y && (p.2 == .local || p.2 == .cell)) = false) : swapsWith (.ListComp el gs scope pos) (some (.Name y py)) line env = pure true := by
  have hbk : env.blockKind = .function := by unfold Env.blockKind; rw [hk]; rfl
  have ha' : (scope.names.any fun (n, k) => n == y && (k == .local || k == .cell)) = false := ha
  unfold swapsWith
  simp only [pure_bind, hbk, hy]
  rw [ha']
  simp [Expr.pos, hl]

section
variable {fname : Nat → Str} {g : Gx} {Φ : Calls} {n : Nat} {F : Fm} {sc : Scope} {A : Around} {s s' : Shared} {ρ : Vars} {fp : Nat → List Addr} {h h' : Heap}

end
end Mine
set_option Elab.async false
set_option maxRecDepth 100000
set_option linter.unusedVariables false
namespace Mine
open PySem PySem.Calls PyProof.Rows

section
variable {prog : Program} {w : World} {A : Around} {E : Value → Shared → Prop} {h : Heap} {g : Array GenState} {d : Drawn} {t : Nat} {os : OsState}
variable {nm q : Str} {C N : Addr} {bs bm : List Value} {hdct : Bool} {sn : List Str} {sub : List Value} {ab : Bool} {col : Option Bool} {dd : Option Addr} {k0 k1 k2 k3 k5 : Option Value} {newId : String}
variable {nm' q' : Str} {C' N' : Addr} {bs' bm' : List Value} {hdct' : Bool} {sn' : List Str} {sub' : List Value} {ab' : Bool} {col' : Option Bool} {dd' : Option Addr} {k0' k1' k2' k3' k5' : Option Value} {newId' : String}

theorem isi_nested2 {e : Addr} {oe : Obj} {dep : Int} {tk : Tok} {Q : Fin → Shared → Prop} (hC : h.get? C = some (excClassObj nm q C N bs bm hdct sn sub ab col dd k0 k1 k2 k3 k5 newId))
    (hC' : h.get? C' = some (excClassObj nm' q' C' N' bs' bm' hdct' sn' sub' ab' col' dd' k0' k1' k2' k3' k5' newId')) (he : h.get? e = some oe) (hcls : oe.cls = .ref C)
    (hin : (Value.ref C :: bm).contains (.ref C') = true) (hq : Q (.done (.ret (.bool true))) ⟨h, g, d, t, os⟩) :
    wpAny (model prog w) A (Builtin.«isinstance.nested» ⟨[.ref e, .ref C', .int dep tk], []⟩) Q E ⟨h, g, d, t, os⟩ := by
  by_cases hcc : (Value.ref C == Value.ref C') = true
  · repeat (first | assumption | (with_reducible refine wpAny_loadPart_at he ?_; rw [hcls]) | with_reducible refine wpAny_loadPart_at hC' ?_ | (with_reducible refine wpAny_isSubtype_exc hC ?_; rw [hin]) | wp_step)
  · have hcc' : (Value.ref C == Value.ref C') = false := by simpa using hcc
    repeat (first | assumption | (with_reducible refine wpAny_loadPart_at he ?_; rw [hcls]) | with_reducible refine wpAny_loadPart_at hC' ?_ | (with_reducible refine wpAny_isSubtype_exc hC ?_; rw [hin]) | wp_step)
theorem isi_own2 {e : Addr} {oe : Obj} {s : Shared} {Q : Value → Shared → Prop} (hC : s.heap.get? C = some (excClassObj nm q C N bs bm hdct sn sub ab col dd k0 k1 k2 k3 k5 newId))
    (hC' : s.heap.get? C' = some (excClassObj nm' q' C' N' bs' bm' hdct' sn' sub' ab' col' dd' k0' k1' k2' k3' k5' newId')) (he : s.heap.get? e = some oe) (hcls : oe.cls = .ref C)
    (hin : (Value.ref C :: bm).contains (.ref C') = true) (hq : Q (.bool true) s) : wpAny (model prog w) A (call (.builtin "isinstance") [.ref e, .ref C']) Q E s := by
  refine call_isinstance (S := fun _ R s' => s' = s ∧ R (.ok (.ret (.bool true))) s') (fun _ _ _ _ s' hs => ?_) ⟨rfl, hq⟩
  obtain ⟨rfl, hs⟩ := hs
  obtain ⟨h, g, d, t, os⟩ := s'
  exact isinstance_outer (isi_nested2 hC hC' he hcls hin hs) (by intro q; cases q)
end

noncomputable def SemHP (fname : Nat → Str) (sc : Scope) (en cn : Str) (P : Vars → Prop) (e : Expr) : Prop :=
  ∀ (g : Gx) (A : Around) (F : Fm) (ρ : Vars) (fp : Nat → List Addr) (s : Shared) (C ex : Addr) (oe : Obj) (Q E : Value → Shared → Prop),
    Gd g → sc.kind = .function → A.units + 64 < cLine → Rel g F sc s.heap ρ fp → VarIs (F.env sc) s.heap en (.ref ex) → IsExc g cn C → s.heap.get? ex = some oe → oe.cls = .ref C → P ρ →
    (∀ s', Keeps s s' → Q (.bool true) s') → wpAny (model g.p g.w) A (eval e (F.env sc)) Q E s
noncomputable def SemHs (fname : Nat → Str) (sc : Scope) (en cn : Str) (P : Vars → Prop) (es : List Expr) : Prop :=
  ∀ (g : Gx) (A : Around) (F : Fm) (ρ : Vars) (fp : Nat → List Addr) (s : Shared) (C ex : Addr) (oe : Obj) (pos : Pos) (Q E : Value → Shared → Prop),
    Gd g → sc.kind = .function → A.units + 64 < cLine → Rel g F sc s.heap ρ fp → VarIs (F.env sc) s.heap en (.ref ex) → IsExc g cn C → s.heap.get? ex = some oe → oe.cls = .ref C → P ρ →
    (∀ s', Keeps s s' → Q (.bool true) s') → wpAny (model g.p g.w) A (boolOp pos .And (evalEach es (F.env sc))) Q E s
section
variable {fname : Nat → Str} {g : Gx} {Φ : Calls} {n : Nat} {F : Fm} {sc : Scope} {A : Around} {s s' : Shared} {ρ : Vars} {fp : Nat → List Addr} {h h' : Heap}

theorem var_name {x : Str} {v : Value} {pos : Pos} {Q E : Value → Shared → Prop} (hk : sc.kind = .function) (hv : VarIs (F.env sc) s.heap x v) (hd : (x == ("__debug__" : Str)) = false) (h : Q v s) : wpAny (model g.p g.w) A (eval (.Name x pos) (F.env sc)) Q E s := by
  rcases hv with ⟨hl, m, hn, hm⟩ | ⟨hl, c, o, h1, h2, h3⟩
  · exact wpAny_Name (wpAny_loadName_local hk hl hn hm h) hd
  · exact wpAny_Name (wpAny_loadName_cell hk hl h1 ⟨o, h2, h3⟩ h) hd
theorem h_isi_val {en cn : Str} {P : Vars → Prop} {ip q1 q2 icp : Pos} (hisi : sc.names.lookup ("isinstance" : Str) = some .globalImplicit) (hve : sc.names.lookup ("ValueError" : Str) = some .globalImplicit) (hd : (en == ("__debug__" : Str)) = false) :
    SemHP fname sc en cn P (.Call (.Name "isinstance" ip) [.Name en q1, .Name "ValueError" q2] [] icp) := by
  intro g A F ρ fp s C ex oe Q E G hk hu R hv O he hc ho hQ
  have bI := G.blt ("isinstance" : Str) (.builtin "isinstance") (by simp [bltTab])
  have bV := G.blt ("ValueError" : Str) (.type "ValueError") (by simp [bltTab])
  obtain ⟨bm, N, nm, qq, bs, hdct, sn, sub, ab, col, dd, k0, k1, k2, k3, k5, mN, hC, hN, hq, Tl⟩ := O.own.obj
  refine wpAny_Call_ofName (Name_function_global hk hisi (loadGlobal_builtin (G.glb.keeps R.stays) bI.1 (G.bns.keeps R.stays) bI.2 ?_) (by decide))
  refine callWith_builtin1 (args_cons (var_name hk hv hd (args_cons (Name_function_global hk hve (loadGlobal_builtin (G.glb.keeps R.stays) bV.1 (G.bns.keeps R.stays) bV.2 (args_nil ?_)) (by decide)) (starEach_cons rfl))) (starEach_cons rfl)) (starEach_cons rfl) rfl
  exact isi_own (R.stays _ _ hC) he hc (by kernel_rfl) (Tl.tail.hasType (by decide)) (hQ _ (kp_refl s))
theorem h_isi_cls {en cn c2 : Str} {P : Vars → Prop} {ip q1 q2 icp : Pos} (hisi : sc.names.lookup ("isinstance" : Str) = some .globalImplicit) (hve : sc.names.lookup c2 = some .globalImplicit) (hd : (en == ("__debug__" : Str)) = false) (hd2 : (c2 == ("__debug__" : Str)) = false)
    (h2 : c2 = cn ∨ c2 = ("RowError" : Str)) : SemHP fname sc en cn P (.Call (.Name "isinstance" ip) [.Name en q1, .Name c2 q2] [] icp) := by
  intro g A F ρ fp s C ex oe Q E G hk hu R hv O he hc ho hQ
  have bI := G.blt ("isinstance" : Str) (.builtin "isinstance") (by simp [bltTab])
  obtain ⟨bm, N, nm, qq, bs, hdct, sn, sub, ab, col, dd, k0, k1, k2, k3, k5, mN, hC, hN, hq, Tl⟩ := O.own.obj
  obtain ⟨CR, oc, cd, OR, hoc, hcd, hmro⟩ := O.row
  obtain ⟨bm', N', nm', qq', bs', hdct', sn', sub', ab', col', dd', k0', k1', k2', k3', k5', mN', hC', hN', hq', Tl'⟩ := OR.obj
  have hin : (Value.ref C :: bm).contains (.ref CR) = true := by
    rw [hC] at hoc; cases hoc; cases hcd; exact hmro
  refine wpAny_Call_ofName (Name_function_global hk hisi (loadGlobal_builtin (G.glb.keeps R.stays) bI.1 (G.bns.keeps R.stays) bI.2 ?_) (by decide))
  rcases h2 with rfl | rfl
  · refine callWith_builtin1 (args_cons (var_name hk hv hd (args_cons (Name_function_global hk hve (loadGlobal_global (G.glb.keeps R.stays) O.own.bound (args_nil ?_)) hd2) (starEach_cons rfl))) (starEach_cons rfl)) (starEach_cons rfl) rfl
    exact isi_own2 (R.stays _ _ hC) (R.stays _ _ hC) he hc (by simp) (hQ _ (kp_refl s))
  · refine callWith_builtin1 (args_cons (var_name hk hv hd (args_cons (Name_function_global hk hve (loadGlobal_global (G.glb.keeps R.stays) OR.bound (args_nil ?_)) hd2) (starEach_cons rfl))) (starEach_cons rfl)) (starEach_cons rfl) rfl
    exact isi_own2 (R.stays _ _ hC) (R.stays _ _ hC') he hc hin (hQ _ (kp_refl s))
theorem h_one {en cn : Str} {P : Vars → Prop} {e : Expr} (h : SemHP fname sc en cn P e) : SemHs fname sc en cn P [e] := by
  intro g A F ρ fp s C ex oe pos Q E G hk hu R hv O he hc ho hQ
  exact h g A F ρ fp s C ex oe Q E G hk hu R hv O he hc ho hQ
theorem h_more {en cn : Str} {P : Vars → Prop} {e e' : Expr} {es : List Expr} (h : SemHP fname sc en cn P e) (hr : SemHs fname sc en cn P (e' :: es)) : SemHs fname sc en cn P (e :: e' :: es) := by
  intro g A F ρ fp s C ex oe pos Q E G hk hu R hv O he hc ho hQ
  show wpAny (model g.p g.w) A (do
    let v ← eval e (F.env sc)
    standAt pos
    let t ← holding [v] (truthy v)
    match BoolOp.And, t with
    | .And, false | .Or, true => pure v
    | _, _ => boolOp pos .And (evalEach (e' :: es) (F.env sc))) Q E s
  refine wpAny_bind (h g A F ρ fp s C ex oe _ E G hk hu R hv O he hc ho fun s₁ k1 => wpAny_bind (wpAny_standAt (wpAny_bind (wpAny_holding (truthy_rule (.bool true) fun tk => ?_)))))
  have k2 := kp_toks k1 tk
  show wpAny _ _ (boolOp pos .And (evalEach (e' :: es) (F.env sc))) _ _ _
  refine hr g A F ρ fp _ C ex oe pos Q E G hk hu (R.ext (.of_keep (kp_ext k2)) fun b o e => kp_ext k2 b o (R.stays b o e)) (hv.ext (.of_keep (kp_ext k2))) O (kp_ext k2 _ _ he) hc ho fun s' k3 => hQ s' (kp_trans k2 k3)
theorem h_and {en cn : Str} {P : Vars → Prop} {es : List Expr} {pos : Pos} (h : SemHs fname sc en cn P es) : SemHP fname sc en cn P (.BoolOp .And es pos) := by
  intro g A F ρ fp s C ex oe Q E G hk hu R hv O he hc ho hQ
  exact h g A F ρ fp s C ex oe pos Q E G hk hu R hv O he hc ho hQ
end
end Mine
set_option Elab.async false
set_option maxRecDepth 100000
set_option linter.unusedVariables false
namespace Mine
open PySem PySem.Calls PyProof.Rows

section
variable {fname : Nat → Str} {g : Gx} {Φ : Calls} {n : Nat} {F : Fm} {sc : Scope} {A : Around} {s s' : Shared} {ρ : Vars} {fp : Nat → List Addr} {h h' : Heap}

end
end Mine
set_option Elab.async false
set_option maxRecDepth 100000
set_option linter.unusedVariables false
namespace Mine
open PySem PySem.Calls PyProof.Rows

section
variable {fname : Nat → Str} {g : Gx} {Φ : Calls} {n : Nat} {F : Fm} {sc : Scope} {A : Around} {s s' : Shared} {ρ : Vars} {fp : Nat → List Addr} {h h' : Heap}

theorem VarIs.same (R : Rel g F sc h ρ fp) {a : Addr} {o : Obj} {vs : Array Value} {k : Nat} (e : h.get? a = some o) (hd : o.data = .seq vs k) (hs : Heap.SameBut a h h') {y : Str} {w : Value} (hv : VarIs (F.env sc) h y w) : VarIs (F.env sc) h' y w := by
  have hLa : F.L ≠ a := fun q => by
    obtain ⟨m, o2, es, ep, ho2, hd2, _⟩ := R.ns
    rw [q, e] at ho2; cases ho2; rw [hd] at hd2; cases hd2
  have hca : ∀ p ∈ F.cl, p.2 ≠ a := fun p hp q => by
    obtain ⟨_, _, o2, w, ho2, hd2⟩ := R.cells p hp
    rw [q, e] at ho2; cases ho2; rw [hd] at hd2; cases hd2
  rcases hv with ⟨hl, m, hm, hv⟩ | ⟨hl, c, o2, h1, h2, h3⟩
  · exact .inl ⟨hl, m, Heap.Ns.sameBut hm hs hLa, hv⟩
  · exact .inr ⟨hl, c, o2, h1, (hs.2 c (hca _ (mem_of_look h1))).trans h2, h3⟩

end
end Mine
set_option Elab.async false
set_option maxRecDepth 100000
set_option linter.unusedVariables false
namespace Mine
open PySem PySem.Calls PyProof.Rows

section
variable {fname : Nat → Str} {g : Gx} {Φ : Calls} {n : Nat} {F : Fm} {sc : Scope} {A : Around} {s s' : Shared} {ρ : Vars} {fp : Nat → List Addr} {h h' : Heap}

end
end Mine
set_option Elab.async false
set_option maxRecDepth 100000
set_option linter.unusedVariables false
namespace Mine
open PySem PySem.Calls PyProof.Rows

section
variable {fname : Nat → Str} {g : Gx} {Φ : Calls} {n : Nat} {F : Fm} {sc : Scope} {A : Around} {s s' : Shared} {ρ : Vars} {fp : Nat → List Addr} {h h' : Heap}

end
end Mine
set_option Elab.async false
set_option maxRecDepth 100000
set_option linter.unusedVariables false
namespace Mine
open PySem PySem.Calls PyProof.Rows

section
variable {fname : Nat → Str} {g : Gx} {Φ : Calls} {n : Nat} {F : Fm} {sc : Scope} {A : Around} {s s' : Shared} {ρ : Vars} {fp : Nat → List Addr} {h h' : Heap}

end
end Mine
set_option Elab.async false
set_option maxRecDepth 100000
set_option linter.unusedVariables false
namespace Mine
open PySem PySem.Calls PyProof.Rows

noncomputable def FlyAt (base : Heap) (l : List Env) (e : Addr) (cls : Value) (h : Heap) : Prop := base.StaysIn h ∧ base.get? e = none ∧ h.FunFrames base l ∧ ∃ a0 fl, h.TracedAtW base e cls a0 fl

section
variable {M : Model} {A : Around} {E : Value → Shared → Prop} {s : Shared} {base : Heap} {env : Env} {outer : List Env} {L e : Addr} {cls : Value}

theorem fly_of {a0 : Value} {l : List Env} {h : Heap} (x : Heap.FlyingW base l e cls a0 h) : FlyAt base l e cls h := ⟨x.1, x.2.1, x.2.2.1, a0, _, x.2.2.2.at⟩

theorem fly_flight {l : List Env} {fr : Option Addr} {Q : Unit → Shared → Prop} (x : FlyAt base l e cls s.heap) (h : ∀ h', FlyAt base l e cls h' → s.heap.UpToSlots h' → Q () { s with heap := h' }) : wpAny M A (setFlight (.ref e) fr) Q E s := by
  obtain ⟨hkb, hen, hl, a0, fl, oe, vs, T, oT, ts, he, hcls, hd, h1, hnT, hTe, hT, hdT, h3⟩ := x
  have hsz3 : 3 < ts.size := (Array.getElem?_eq_some_iff.mp h3).1
  have other : ∀ v : Value, ∀ b, b ≠ T → (s.heap.update T (Obj.mapFields (·.setIfInBounds 3 v))).get? b = s.heap.get? b := fun v b hb => Heap.get?_update_other _ _ (Ne.symm hb)
  have noRecord : ∀ b o, s.heap.get? b = some o → (∀ vs, o.data ≠ .fields vs) → b ≠ T := fun b o hb hnf q => by
    rw [q, hT] at hb; injection hb with hb; subst hb; exact hnf ts hdT
  unfold setFlight
  refine wpAny_bind (wpAny_field he hd h1 ?_)
  rw [if_pos (show (Value.ref T != Value.none) = true from by simp)]
  refine wpAny_setField hT hdT hsz3 (h _ ⟨fun b o hbo => (other _ b fun q => by rw [q, hnT] at hbo; cases hbo).trans (hkb b o hbo), hen, hl.of_keeps fun b o hb hnf => ⟨o, (other _ b (noRecord b o hb hnf)).trans hb, rfl⟩, a0, (fr.elim Value.none fun f => rawInt f), ?_⟩ fun b o hb hnf => ⟨o.slots, (other _ b (noRecord b o hb hnf)).trans hb⟩)
  exact ⟨oe, vs, T, _, _, (other _ e (Ne.symm hTe)).trans he, hcls, hd, h1, hnT, hTe, Heap.get?_update_self _ hT (Obj.isFreed_of_fields (Obj.data_mapFields hdT _)), Obj.data_mapFields hdT _, by simp [hsz3]⟩

theorem fly_note {Q : Unit → Shared → Prop} (hfr : A.frames = some (env :: outer)) (hf : env.frame = some L) (x : FlyAt base (env :: outer) e cls s.heap) (h : ∀ h', FlyAt base (env :: outer) e cls h' → s.heap.UpToSlots h' → Q () { s with heap := h' }) : wpAny M A (noteFrame (.ref e) env) Q E s := by
  have x' := x
  obtain ⟨hkb, hen, hl, a0, fl, oe, vs, T, oT, ts, he, ⟨hcls, h0⟩, hd, h1, hnT, hTe, hT, hdT, h3⟩ := x
  subst hcls
  unfold noteFrame
  simp only [hf]
  refine wpAny_bind (wpAny_field he hd h1 ?_)
  rw [if_pos (show (Value.ref T != Value.none) = true from by simp)]
  refine wpAny_bind (wpAny_field hT hdT h3 ?_)
  by_cases hc : (fl == rawInt L) = true
  · rw [if_pos hc]
    exact wpAny_pure (h s.heap x' (.refl _))
  · rw [if_neg hc]
    refine wpAny_bind (wpAny_setField hT hdT (Array.getElem?_eq_some_iff.mp h3).1 ?_)
    have other : ∀ b, b ≠ T → (s.heap.update T (Obj.mapFields (·.setIfInBounds 3 Value.none))).get? b = s.heap.get? b := fun b hb => Heap.get?_update_other _ _ (Ne.symm hb)
    have noRecord : ∀ b o, s.heap.get? b = some o → (∀ vs, o.data ≠ .fields vs) → b ≠ T := fun b o hb hnf q => by
      rw [q, hT] at hb; injection hb with hb; subst hb; exact hnf ts hdT
    refine wpAny_entryW hfr (hl.of_keeps fun b o hb hnf => ⟨o, (other b (noRecord b o hb hnf)).trans hb, rfl⟩) hf ((other e (Ne.symm hTe)).trans he)
      (fun b o hbo => (other b fun q => by rw [q, hnT] at hbo; cases hbo).trans (hkb b o hbo)) hen hd (Array.getElem?_eq_some_iff.mp h1).1 h0
      fun h' ⟨x1, x2, x3, x4⟩ => h h' ⟨x1, hen, x2, a0, _, x3⟩ fun b o hb hnf => x4 b o ((other b (noRecord b o hb hnf)).trans hb) hnf

theorem made_note {h₀ : Heap} {args : List Value} {Q : Unit → Shared → Prop} (hfr : A.frames = some (env :: outer)) (hf : env.frame = some L) (hkb : base.StaysIn h₀) (hl : h₀.FunFrames base (env :: outer)) (hx : Heap.MadeExcOf h₀ s.heap e cls args)
    (h : ∀ h', FlyAt base (env :: outer) e cls h' → s.heap.UpToSlots h' → Q () { s with heap := h' }) : wpAny M A (noteFrame (.ref e) env) Q E s := by
  obtain ⟨t, he, htn, ht⟩ := hx.there
  have fresh : ∀ b, h₀.get? b = none → base.get? b = none := fun b hb => by
    cases hq : base.get? b with
    | none => rfl
    | some o' => have := hkb b o' hq; rw [hb] at this; cases this
  unfold noteFrame
  simp only [hf]
  refine wpAny_bind (wpAny_field he rfl (x := .none) rfl ?_)
  rw [if_neg (by decide)]
  exact wpAny_entryW (a0 := .ref t) hfr (hl.of_keeps fun b o hb _ => ⟨o, hx.keeps b o hb, rfl⟩) hf he (fun b o hb => hx.keeps b o (hkb b o hb)) (fresh e hx.new) rfl (by show 1 < 6; decide) rfl
    fun h' ⟨x1, x2, x3, x4⟩ => h h' ⟨x1, fresh e hx.new, x2, _, _, x3⟩ x4

theorem fly_leave {Q : Unit → Shared → Prop} (hfr : A.frames = some (env :: outer)) (hf : env.frame = some L) (x : FlyAt base (env :: outer) e cls s.heap) (h : ∀ h' a0, Heap.FlyingW base outer e cls a0 h' → s.heap.UpToSlots h' → Q () { s with heap := h' }) : wpAny M A (leaving env (.ref e)) Q E s := by
  unfold leaving
  refine wpAny_bind (fly_note hfr hf x fun h₁ x₁ u₁ => ?_)
  obtain ⟨k1, k2, k3, a0, fl, k4⟩ := x₁
  refine wpAny_setFlight_noneW k1 k3 k4 fun h₂ j1 j2 j3 j4 => h h₂ a0 ⟨j1, k2, j2.2.2, j3⟩ (u₁.trans fun b o e hn => ⟨o.slots, j4 b o e hn⟩)

theorem fly_head {l : List Env} {Q : Value → Shared → Prop} (x : FlyAt base l e cls s.heap) (h : ∀ T, Q (.ref T) s) : wpAny M A (field (.ref e) 1) Q E s := by
  obtain ⟨hkb, hen, hl, a0, fl, oe, vs, T, oT, ts, he, hcls, hd, h1, hnT, hTe, hT, hdT, h3⟩ := x
  exact wpAny_field he hd h1 (h T)
theorem fly_back {l : List Env} (x : FlyAt base l e cls s.heap) (h : ∀ h', FlyAt base l e cls h' → s.heap.UpToSlots h' → E (.ref e) { s with heap := h' }) : cameBackBy M A env E (.ref e) s := by
  unfold cameBackBy
  refine wpAny_bind (fly_head x fun T => ?_)
  rw [if_neg (show ¬ ((Value.ref T == Value.none) = true) from by simp)]
  exact fly_flight (Q := fun _ s'' => E (.ref e) s'') x h
theorem fly_pass {l : List Env} {α : Type} {Q : α → Shared → Prop} {w : String} (x : FlyAt base l e cls s.heap) (h : ∀ h', FlyAt base l e cls h' → s.heap.UpToSlots h' → E (.ref e) { s with heap := h' }) : wpAny M A (PySem.passOn w (.ref e) env : Sem α) Q E s := by
  unfold PySem.passOn
  refine wpAny_bind (fly_head x fun T => ?_)
  rw [if_neg (show ¬ ((Value.ref T == Value.none) = true) from by simp)]
  exact wpAny_bind (fly_flight x fun h' x' u' => wpAny_throw (h h' x' u'))
end
end Mine
set_option Elab.async false
set_option maxRecDepth 100000
set_option linter.unusedVariables false
namespace Mine
open PySem PySem.Calls PyProof.Rows

noncomputable def Flew (g : Gx) (F : Fm) (sc : Scope) (s s' : Shared) (e C : Addr) : Prop :=
  ∃ s₂ ρ' fp', Later s s₂ ∧ Rel g F sc s₂.heap ρ' fp' ∧ Later s₂ s' ∧ ((∃ vs, Heap.MadeExcOf s₂.heap s'.heap e (.ref C) vs) ∨
    (FlyAt (gone g (F.env sc :: F.outer) s₂.heap) (F.env sc :: F.outer) e (.ref C) s'.heap ∧ s₂.heap.UpToSlots s'.heap))

noncomputable def FlewF (g : Gx) (F : Fm) (sc : Scope) (s s' : Shared) (e C : Addr) : Prop :=
  ∃ s₂ ρ' fp', Later s s₂ ∧ Rel g F sc s₂.heap ρ' fp' ∧ Later s₂ s' ∧ FlyAt (gone g (F.env sc :: F.outer) s₂.heap) (F.env sc :: F.outer) e (.ref C) s'.heap ∧ s₂.heap.UpToSlots s'.heap
theorem FlewF.fly {g : Gx} {F : Fm} {sc : Scope} {s s' : Shared} {e C : Addr} (x : FlewF g F sc s s' e C) : ∃ base l, FlyAt base l e (.ref C) s'.heap ∧ ∀ h', FlyAt base l e (.ref C) h' → s'.heap.UpToSlots h' → FlewF g F sc s { s' with heap := h' } e C := by
  obtain ⟨s₂, ρ', fp', l1, R, l2, hf, hu⟩ := x
  refine ⟨_, _, hf, fun h' x' u' => ⟨s₂, ρ', fp', l1, R, ?_, x', hu.trans u'⟩⟩
  obtain ⟨h₂, tk₂, e2⟩ := l2
  exact ⟨h', s'.toks, by rw [e2]⟩
theorem Flew.before {g : Gx} {F : Fm} {sc : Scope} {s s₁ s' : Shared} {e C : Addr} (l : Later s s₁) (x : Flew g F sc s₁ s' e C) : Flew g F sc s s' e C := by
  obtain ⟨s₂, ρ', fp', h1, r⟩ := x
  exact ⟨s₂, ρ', fp', l.trans h1, r⟩

noncomputable def SemX (fname : Nat → Str) (sc : Scope) (st : Stmt) (x : S) : Prop :=
  ∀ (g : Gx) (Φ : Calls) (n : Nat) (F : Fm) (A : Around) (s : Shared) (ρ : Vars) (fp : Nat → List Addr) (Q : Fl → Vars → Prop) (Z : Nat → Prop) (R : Flow → Shared → Prop) (E : Value → Shared → Prop),
    At fname g Φ n F sc A s ρ fp → xS Φ x Q Z ρ → (∀ c, Z c → ∃ C, IsExc g (fname c) C) →
    (∀ fl fl' s' ρ' fp', Q fl ρ' → FlowIs F s'.heap fl fl' → Later s s' → Rel g F sc s'.heap ρ' fp' → R fl' s') →
    (∀ c C e s', Z c → IsExc g (fname c) C → Flew g F sc s s' e C → E (.ref e) s') →
    wpAny (model g.p g.w) A (exec st (F.env sc)) R E s
noncomputable def SemYs (fname : Nat → Str) (sc : Scope) (st : List Stmt) (x : Ss) : Prop :=
  ∀ (g : Gx) (Φ : Calls) (n : Nat) (F : Fm) (A : Around) (s : Shared) (ρ : Vars) (fp : Nat → List Addr) (Q : Fl → Vars → Prop) (Z : Nat → Prop) (R : Flow → Shared → Prop) (E : Value → Shared → Prop),
    At fname g Φ n F sc A s ρ fp → xSs Φ x Q Z ρ → (∀ c, Z c → ∃ C, IsExc g (fname c) C) →
    (∀ fl fl' s' ρ' fp', Q fl ρ' → FlowIs F s'.heap fl fl' → Later s s' → Rel g F sc s'.heap ρ' fp' → R fl' s') →
    (∀ c C e s', Z c → IsExc g (fname c) C → Flew g F sc s s' e C → E (.ref e) s') →
    wpAny (model g.p g.w) A (execs st (F.env sc)) R E s
noncomputable def SemXE (fname : Nat → Str) (sc : Scope) (e : Expr) (x : X) : Prop :=
  ∀ (g : Gx) (Φ : Calls) (n : Nat) (F : Fm) (A : Around) (s : Shared) (ρ : Vars) (fp : Nat → List Addr) (Z : Nat → Prop) (Q : Value → Shared → Prop) (E : Value → Shared → Prop),
    At fname g Φ n F sc A s ρ fp → xE Φ ρ Z x → (∀ c C e s', Z c → IsExc g (fname c) C → Flew g F sc s s' e C → E (.ref e) s') →
    wpAny (model g.p g.w) A (eval e (F.env sc)) Q E s
noncomputable def SemXT (fname : Nat → Str) (sc : Scope) (e : Expr) (x : X) : Prop :=
  ∀ (g : Gx) (Φ : Calls) (n : Nat) (F : Fm) (A : Around) (s : Shared) (ρ : Vars) (fp : Nat → List Addr) (Z : Nat → Prop) (Q : Bool → Shared → Prop) (E : Value → Shared → Prop),
    At fname g Φ n F sc A s ρ fp → xE Φ ρ Z x → (∀ c C e s', Z c → IsExc g (fname c) C → Flew g F sc s s' e C → E (.ref e) s') →
    wpAny (model g.p g.w) A (isTrue e (F.env sc) (eval e (F.env sc))) Q E s

noncomputable def noX : X → Bool
  | .call .. | .not _ => false
  | _ => true

section
variable {fname : Nat → Str} {g : Gx} {Φ : Calls} {n : Nat} {F : Fm} {sc : Scope} {A : Around} {s s' : Shared} {ρ : Vars} {fp : Nat → List Addr} {h h' : Heap}

theorem noX_no {x : X} {Z : Nat → Prop} (hx : noX x = true) (h : xE Φ ρ Z x) : False := by cases x <;> first | exact h | cases hx
theorem xe_no {e : Expr} {x : X} (hx : noX x = true) : SemXE fname sc e x := fun g Φ n F A s ρ fp Z Q E T h hE => (noX_no hx h).elim
theorem xt_no {e : Expr} {x : X} (hx : noX x = true) : SemXT fname sc e x := fun g Φ n F A s ρ fp Z Q E T h hE => (noX_no hx h).elim

theorem gone_in {l : List Env} (b : Addr) (o : Obj) (e : (gone g l h).get? b = some o) : h.get? b = some o := (gone_of e).1
theorem frames_to {b₁ b₂ : Heap} : ∀ {l : List Env}, h.FunFrames b₁ l → (∀ b ∈ l.filterMap (·.frame), b₂.get? b = none) → h.FunFrames b₂ l
  | [], _, _ => trivial
  | env :: l, fr, hs => by
    obtain ⟨hk, ⟨L, o, hf, hn, ho, hd⟩, hr⟩ := fr
    refine ⟨hk, ⟨L, o, hf, hs L (by rw [List.filterMap_cons, hf]; exact .head _), ho, hd⟩, frames_to hr fun b hb => hs b ?_⟩
    rw [List.filterMap_cons, hf]; exact .tail _ hb
theorem gone_at {l : List Env} {b : Addr} (hb : b ∈ l.filterMap (·.frame)) : (gone g l h).get? b = none := by
  cases hq : (gone g l h).get? b with
  | none => rfl
  | some o => exact absurd hb (gone_of hq).2.1

theorem flew_note {e C : Addr} {Q : Unit → Shared → Prop} {E : Value → Shared → Prop} (hfr : A.frames = some (F.env sc :: F.outer)) (x : Flew g F sc s s' e C)
    (hQ : ∀ h', FlewF g F sc s { s' with heap := h' } e C → Q () { s' with heap := h' }) : wpAny (model g.p g.w) A (noteFrame (.ref e) (F.env sc)) Q E s' := by
  obtain ⟨s₂, ρ', fp', l1, R, l2, hm | ⟨hf, hu⟩⟩ := x
  · obtain ⟨vs, hm⟩ := hm
    refine made_note (base := gone g (F.env sc :: F.outer) s₂.heap) hfr rfl gone_in (frames_to R.frames fun b hb => gone_at hb) hm fun h' x' u' => ?_
    have hu : s₂.heap.UpToSlots h' := (Heap.UpToSlots.of_keeps hm.keeps).trans u'
    obtain ⟨h₂, tk₂, e2⟩ := l2
    exact hQ h' ⟨s₂, ρ', fp', l1, R, ⟨h', s'.toks, by rw [e2]⟩, x', hu⟩
  · refine fly_note hfr rfl hf fun h' x' u' => ?_
    obtain ⟨h₂, tk₂, e2⟩ := l2
    exact hQ h' ⟨s₂, ρ', fp', l1, R, ⟨h', s'.toks, by rw [e2]⟩, x', hu.trans u'⟩

theorem call_flies {x : Str} {np pos : Pos} {e : Expr} {es : List Expr} {xs : Xs} {f : Nat} (hx : sc.names.lookup x = some .globalImplicit) (hn : fname f = x) (hf : f < 500) (hne : x ≠ Str.empty) (hd : (x == ("__debug__" : Str)) = false)
    (hs : noStar e = true) (ha : SemL fname sc (e :: es) xs) : SemXE fname sc (.Call (.Name x np) (e :: es) [] pos) (.call f xs) := by
  intro g Φ n F A s ρ fp Z Q E T h hE
  have h' : wL Φ ρ xs fun ds _ => Φ (500 + f) ds fun d _ => ∃ c : Nat, d = .int (c : Int) ∧ Z c := h
  obtain ⟨fa, o, fd, hmg, hb, hdat⟩ := T.named f (by omega) (by rw [hn]; exact hne)
  rw [hn] at hmg
  refine wpAny_Call_ofName (Name_function_global T.kind hx (loadGlobal_global (T.gd.glb.keeps T.rel.stays) hmg ?_) hd)
  refine callWith_def hdat (ha g Φ n F A s ρ fp pos _ _ E T h' fun vs s₁ ds f' as hk st r fo => ⟨st.stays _ _ hb, ?_⟩) (starEach_cons hs)
  have q := T.fns _ _ _ hk
  unfold Spec at q
  rw [if_neg (by omega), if_pos (by omega)] at q
  obtain ⟨c', C, fa', ⟨c, hc, hZ⟩, O, q⟩ := q
  have hcc : c' = c := by injection hc with hc; omega
  subst hcc
  have e := q.named
  rw [show 500 + f - 500 = f by omega, hn, hmg] at e
  cases e
  exact q.run A s₁ vs as _ C Q E T.room st.stays (T.step st).rel.frames r O fun ex a0 s' hl hfl hup => hE _ C ex s' hZ O ⟨s₁, ρ, fp, st.later, (T.step st).rel, hl, .inr ⟨fly_of hfl, hup⟩⟩

theorem xt_of {e : Expr} {x : X} (hx : SemXE fname sc e x) (hp : ∀ env whole, isTrue e env whole = (do let v ← whole; standAt e.pos; holding [v] (truthy v))) : SemXT fname sc e x := by
  intro g Φ n F A s ρ fp Z Q E T h hE
  exact wpAny_isTrue_value (hx g Φ n F A s ρ fp Z _ E T h hE) (hp _ _)
theorem xe_not {e : Expr} {x : X} {pos : Pos} (hx : SemXE fname sc e x) : SemXE fname sc (.UnaryOp .Not e pos) (.not x) := by
  intro g Φ n F A s ρ fp Z Q E T h hE
  exact wpAny_UnaryOp (hx g Φ n F A s ρ fp Z _ E T h hE)
theorem xt_not {e : Expr} {x : X} {pos : Pos} (hx : SemXT fname sc e x) : SemXT fname sc (.UnaryOp .Not e pos) (.not x) := by
  intro g Φ n F A s ρ fp Z Q E T h hE
  exact wpAny_isTrue_Not (hx g Φ n F A s ρ fp Z _ E T h hE)

noncomputable def plainX : S → Bool
  | .raise _ | .ite .. | .expr _ | .ret _ | .loop .. | .compCall .. => false
  | _ => true
theorem sx_plain {st : Stmt} {x : S} (hp : plainX x = true) (hs : SemS fname sc st x) : SemX fname sc st x := by
  intro g Φ n F A s ρ fp Q Z R E T h hZ hR hE
  have h' : wS Φ x Q ρ := by cases x <;> first | exact h | cases hp
  exact hs g Φ n F A s ρ fp Q R E T h' hR
theorem sx_raise {x : Str} {m : Str} {k : Nat} {np p cpos pos : Pos} {c : Nat} (hx : sc.names.lookup x = some .globalImplicit) (hn : fname c = x) (hd : (x == ("__debug__" : Str)) = false) (hz : m.cps.size ≤ sizeLine) :
    SemX fname sc (.Raise (some (.Call (.Name x np) [.Constant (.str m) k p] [] cpos)) none pos) (.raise c) := by
  intro g Φ n F A s ρ fp Q Z R E T h hZ hR hE
  have h' : Z c := h
  obtain ⟨C, O⟩ := hZ c h'
  have O' := O
  rw [hn] at O'
  exact raise_rule T O' hx hd hz fun s₂ h₁ e vs st hm => hE c C e _ h' O ⟨s₂, ρ, fp, st.later, (T.step st).rel, ⟨h₁, s₂.toks, rfl⟩, .inl ⟨vs, hm⟩⟩
theorem sx_expr {e : Expr} {x : X} {pos : Pos} (hc : noComp e = true) (he : SemE fname sc e x) (hx : SemXE fname sc e x) : SemX fname sc (.Expr e pos) (.expr x) := by
  intro g Φ n F A s ρ fp Q Z R E T h hZ hR hE
  have h' : xE Φ ρ Z x ∨ wE Φ ρ x fun _ _ => Q .next ρ := h
  rcases h' with h' | h'
  · exact wpAny_Expr_any (hx g Φ n F A s ρ fp Z _ E T h' hE) (not_interactive T) (swaps_no hc _ _ _)
  · exact sem_expr hc he g Φ n F A s ρ fp Q R E T h' hR
theorem sx_ret {e : Expr} {x : X} {pos : Pos} (he : SemE fname sc e x) (hx : SemXE fname sc e x) : SemX fname sc (.Return (some e) pos) (.ret x) := by
  intro g Φ n F A s ρ fp Q Z R E T h hZ hR hE
  have h' : xE Φ ρ Z x ∨ wS Φ (.ret x) Q ρ := h
  rcases h' with h' | h'
  · exact wpAny_Return_some (hx g Φ n F A s ρ fp Z _ E T h' hE)
  · exact sem_ret he g Φ n F A s ρ fp Q R E T h' hR
theorem sy_nil : SemYs fname sc [] .nil := by
  intro g Φ n F A s ρ fp Q Z R E T h hZ hR hE
  exact sem_snil g Φ n F A s ρ fp Q R E T h hR
theorem sy_cons {st : Stmt} {r : List Stmt} {x : S} {y : Ss} (hs : SemX fname sc st x) (hr : SemYs fname sc r y) : SemYs fname sc (st :: r) (.cons x y) := by
  intro g Φ n F A s ρ fp Q Z R E T h hZ hR hE
  have h' : xS Φ x (fun fl σ => match fl with | .next => xSs Φ y Q Z σ | fl => Q fl σ) Z ρ := h
  refine wpAny_execs_cons (hs g Φ n F A s ρ fp _ Z _ E T h' hZ (fun fl fl' s' ρ' fp' hq hf hl hrel => ?_) hE)
  cases fl with
  | next =>
    cases fl' with
    | next => exact hr g Φ n F A s' ρ' fp' Q Z R E (T.rel' hrel) hq hZ (fun fl fl' s'' ρ'' fp'' hq' hf' hl' hr' => hR fl fl' s'' ρ'' fp'' hq' hf' (hl.trans hl') hr') fun c C e s'' hz O x => hE c C e s'' hz O (x.before hl)
    | _ => exact hf.elim
  | brk => cases fl' with
    | brk => exact hR .brk .brk _ _ _ hq trivial hl hrel
    | _ => exact hf.elim
  | cont => cases fl' with
    | cont => exact hR .cont .cont _ _ _ hq trivial hl hrel
    | _ => exact hf.elim
  | ret d fr => cases fl' with
    | ret v => exact hR _ _ _ _ _ hq hf hl hrel
    | _ => exact hf.elim
theorem sx_if {t : Expr} {b o : List Stmt} {x : X} {y z : Ss} {pos : Pos} (ht : SemT fname sc t x) (hx : SemXT fname sc t x) (hb : SemYs fname sc b y) (ho : SemYs fname sc o z) : SemX fname sc (.If t b o pos) (.ite x y z) := by
  intro g Φ n F A s ρ fp Q Z R E T h hZ hR hE
  have h' : xE Φ ρ Z x ∨ wT Φ ρ x fun r => br r (xSs Φ y Q Z ρ) (xSs Φ z Q Z ρ) := h
  rcases h' with h' | h'
  · exact wpAny_If (hx g Φ n F A s ρ fp Z _ E T h' hE)
  · refine wpAny_If (ht g Φ n F A s ρ fp (fun q => br q (xSs Φ y Q Z ρ) (xSs Φ z Q Z ρ)) _ E T h' fun q s₁ hk st => ?_)
    cases q
    · exact ho g Φ n F A s₁ ρ fp Q Z R E (T.step st) hk hZ (fun fl fl' s'' ρ'' fp'' hq' hf' hl' hr' => hR fl fl' s'' ρ'' fp'' hq' hf' (st.later.trans hl') hr') fun c C e s'' hz O x => hE c C e s'' hz O (x.before st.later)
    · exact hb g Φ n F A s₁ ρ fp Q Z R E (T.step st) hk hZ (fun fl fl' s'' ρ'' fp'' hq' hf' hl' hr' => hR fl fl' s'' ρ'' fp'' hq' hf' (st.later.trans hl') hr') fun c C e s'' hz O x => hE c C e s'' hz O (x.before st.later)
theorem sx_for {x : Str} {p pos : Pos} {i : Nat} {it : Expr} {a : X} {body : List Stmt} {y : Ss} (hx : (slots sc)[i]? = some x) (hk : sc.names.lookup x = some .local ∨ sc.names.lookup x = some .cell) (hset : noSet it = true)
    (he : SemE fname sc it a) (hb : SemYs fname sc body y) : SemX fname sc (.For (.Name x p) it body [] pos) (.loop i (.items a) y) := by
  intro g Φ n F A s ρ fp Q Z R E T h hZ hR hE
  refine for_items (W := fun I k σ d => xSs Φ y (fun fl τ => match fl with | .next | .cont => I (k + 1) τ | .brk => Q .next τ | .ret d fr => Q (.ret d fr) τ) Z (asg σ i d ⟨true, []⟩)) hx hk hset he T h
    (fun Inv k σ d H' s' fp' R' hw hl T' th hR' => hb g Φ n { F with H := H' } A s' _ fp' _ Z _ _ T' hw hZ hR' fun c C e s'' hz O x => ?_) hR
  show wpAny _ _ (noteFrame (.ref e) (F.env sc)) _ _ _
  refine flew_note (F := { F with H := H' }) T'.room.frames x fun h₁ x₁ => ?_
  obtain ⟨base, l, xf, hx₂⟩ := x₁.fly
  refine fly_back xf fun h₂ x₂ u₂ => ?_
  obtain ⟨s₂, ρ', fp'', l1, R₂, l2, hf, hu⟩ := hx₂ h₂ x₂ u₂
  exact hE c C e _ hz O ⟨s₂, ρ', fp'', hl.trans l1, th _ _ _ R₂, l2, .inr ⟨hf, hu⟩⟩

theorem fny_sound {f k m c : Nat} {body xb : Ss} {ds : List D} {fa : Addr} {name : Str} {params : Arguments} {stmts : List Stmt} {pm cd doc : Value} {o : Obj} (G : Gd g)
    (T : FnAt fname g f k m body fa name params stmts sc pm cd doc o) (X : SemYs fname sc stmts xb) (hΦ : ∀ f ds K, Φ f ds K → Spec fname g n f ds K)
    (hnm : ∀ f, f < 1000 → fname f ≠ Str.empty → ∃ fa o fd, g.mg (fname f) = some (.ref fa) ∧ g.base.get? fa = some o ∧ o.data = .func fd)
    (hlen : ds.length = k) (hw : xSs Φ xb (fun _ _ => False) (· = c) (startVars ds m)) : SpecX g (n + 1) (fname f) ds (fname c) fa := by
  refine ⟨T.named, ?_⟩
  intro A s vs as outer C Q E room stays frames r O hE
  refine wpAny_call (fn_enter G T hlen room stays frames r fun F fp h₁ tk ho hH hL room' R => ?_)
  refine X g Φ n F _ _ _ fp _ (· = c) _ _ ⟨G, hΦ, hnm, T.plain.2.2, ⟨T.plain.1, T.plain.2.1⟩, ho ▸ room', R⟩ hw (fun c' hc => ⟨C, by rw [hc]; exact O⟩) (fun _ _ _ _ _ hf => hf.elim) fun c' C' e s' hc O' x => ?_
  subst hc
  have hCC : C' = C := by
    have e1 := O'.own.own.bound
    have e2 := O.own.own.bound
    rw [e1] at e2; cases e2; rfl
  subst hCC
  have hfresh : s.heap.get? s.heap.objs.size = none := fresh_size _
  obtain ⟨s₂, ρ', fp', l1, hr, l2, hx⟩ := x
  -- what stood at the start stands where it left
  have kb : (gone g outer s.heap).StaysIn s₂.heap := fun b o e => by
    obtain ⟨h1, h2, h3⟩ := gone_of e
    rcases hr.held b o (by rw [hH]; exact h1) with q | ⟨hn, sl, q⟩
    · exact q
    · rcases h3 with ⟨o', h3⟩ | ⟨vs, h3⟩
      · have e1 := stays b o' h3
        rw [h1] at e1; cases e1
        exact hr.stays b o h3
      · exact absurd h3 (hn vs)
  have hnL : ∀ b ∈ (F.env sc :: outer).filterMap (·.frame), (gone g outer s.heap).get? b = none := fun b hb => by
    cases hq : (gone g outer s.heap).get? b with
    | none => rfl
    | some o' =>
      obtain ⟨h1, h2, _⟩ := gone_of hq
      have hb' : b = F.L ∨ b ∈ outer.filterMap (·.frame) := by
        rw [List.filterMap_cons] at hb
        rcases List.mem_cons.mp hb with q | q
        · exact .inl q
        · exact .inr q
      rcases hb' with q | q
      · rw [q, hL, hfresh] at h1; cases h1
      · exact absurd q h2
  have ff := hr.frames
  rw [ho] at ff
  have upS : ∀ h'', s₂.heap.UpToSlots h'' → s.heap.UpToSlots h'' := fun h'' hu b o e hn => by
    rcases hr.held b o (by rw [hH]; exact e) with q | ⟨_, sl, q⟩
    · exact hu b o q hn
    · obtain ⟨sl', q'⟩ := hu b _ q hn
      exact ⟨sl', q'⟩
  have fin : ∀ h'' a0, Heap.FlyingW (gone g outer s.heap) outer e (.ref C') a0 h'' → s₂.heap.UpToSlots h'' → E (.ref e) { s' with heap := h'' } := fun h'' a0 hf hu => by
    refine hE e a0 _ ?_ hf (upS _ hu)
    obtain ⟨hh, tk', e1⟩ := l1.trans l2
    exact ⟨h'', tk', by rw [e1]⟩
  rcases hx with ⟨ws, hm⟩ | ⟨hf, hu⟩
  · exact wpAny_leaves_madeW (base := gone g outer s.heap) (h := s₂.heap) (Around.frames_deeper room.frames) rfl kb (frames_to ff hnL) hm fun h'' t hfl _ _ hup => fin h'' _ hfl ((Heap.UpToSlots.of_keeps hm.keeps).trans hup)
  · rw [ho] at hf
    have up : ∀ b o, (gone g outer s.heap).get? b = some o → (gone g (F.env sc :: outer) s₂.heap).get? b = some o := fun b o e => by
      have hb : b ∉ (F.env sc :: outer).filterMap (·.frame) := fun q => by rw [hnL b q] at e; cases e
      obtain ⟨_, _, h3⟩ := gone_of e
      have e2 := kb b o e
      rcases h3 with ⟨o', h3⟩ | ⟨vs, h3⟩
      · have e3 := hr.stays b o' h3
        rw [e2] at e3; cases e3
        exact gone_base h3 hr.stays hb
      · exact gone_fields e2 h3 hb
    have non : ∀ b, (gone g (F.env sc :: outer) s₂.heap).get? b = none → (gone g outer s.heap).get? b = none := fun b hb => by
      cases hq : (gone g outer s.heap).get? b with
      | none => rfl
      | some o => rw [up b o hq] at hb; cases hb
    refine fly_leave (Around.frames_deeper room.frames) rfl hf fun h'' a0 hfl hup => fin h'' a0 ?_ (hu.trans hup)
    obtain ⟨k1, k2, k3, oe, vs', T', oT, ts, he, hc, hd, h1, hnT, hTe, hT, hdT, h3⟩ := hfl
    exact ⟨fun b o e => k1 b o (up b o e), non _ k2, frames_to k3 fun b hb => gone_at hb, oe, vs', T', oT, ts, he, hc, hd, h1, non _ hnT, hTe, hT, hdT, h3⟩
end
end Mine
set_option Elab.async false
set_option maxRecDepth 100000
set_option linter.unusedVariables false
namespace Mine
open PySem PySem.Calls PyProof.Rows

theorem Ext.but {h₀ h h' : Heap} {a : Addr} (x : Ext h₀ h) (ha : h₀.get? a = none) (k : ∀ b o, b ≠ a → h.get? b = some o → h'.get? b = some o) : Ext h₀ h' := by
  intro b o e
  have hb : b ≠ a := fun q => by rw [q, ha] at e; cases e
  rcases x b o e with q | ⟨hd, sl, q⟩
  · exact .inl (k b o hb q)
  · exact .inr ⟨hd, sl, k b _ hb q⟩
theorem stays_but {base h h' : Heap} {a : Addr} (x : base.StaysIn h) (ha : base.get? a = none) (k : ∀ b o, b ≠ a → h.get? b = some o → h'.get? b = some o) : base.StaysIn h' := fun b o e =>
  k b o (fun q => by rw [q, ha] at e; cases e) (x b o e)
theorem frames_but {base h h' : Heap} {C : Addr} (k : ∀ b o, b ≠ C → h.get? b = some o → h'.get? b = some o) : ∀ {l : List Env}, h.FunFrames base l → C ∉ l.filterMap (·.frame) → h'.FunFrames base l
  | [], _, _ => trivial
  | env :: l, fr, hc => by
    obtain ⟨hk, ⟨L, o, hf, hn, ho, hd⟩, hr⟩ := fr
    rw [List.filterMap_cons, hf] at hc
    exact ⟨hk, ⟨L, o, hf, hn, k L o (fun q => hc (by rw [q]; exact .head _)) ho, hd⟩, frames_but k hr fun q => hc (.tail _ q)⟩
theorem FlyAt.down {b₁ b₂ h : Heap} {l : List Env} {e : Addr} {cls : Value} (up : ∀ b o, b₁.get? b = some o → b₂.get? b = some o) (hl : ∀ b ∈ l.filterMap (·.frame), b₁.get? b = none) (x : FlyAt b₂ l e cls h) : FlyAt b₁ l e cls h := by
  have non : ∀ b, b₂.get? b = none → b₁.get? b = none := fun b hb => by
    cases hq : b₁.get? b with
    | none => rfl
    | some o => rw [up b o hq] at hb; cases hb
  obtain ⟨k1, k2, k3, a0, fl, oe, vs, T, oT, ts, he, hc, hd, h1, hnT, r⟩ := x
  exact ⟨fun b o e => k1 b o (up b o e), non _ k2, frames_to k3 hl, a0, fl, oe, vs, T, oT, ts, he, hc, hd, h1, non _ hnT, r⟩
theorem FlyAt.but {base h h' : Heap} {l : List Env} {e C : Addr} {cls : Value} {m : Str → Option Value} (x : FlyAt base l e cls h) (hC : h.Ns C m) (hb : base.get? C = none) (hl : C ∉ l.filterMap (·.frame)) (k : ∀ b o, b ≠ C → h.get? b = some o → h'.get? b = some o) : FlyAt base l e cls h' := by
  obtain ⟨k1, k2, k3, a0, fl, oe, vs, T, oT, ts, he, hc, hd, h1, hnT, hTe, hT, hdT, h3⟩ := x
  obtain ⟨oC, es, ep, eC, dC, _⟩ := hC
  have ne : ∀ {b : Addr} {o : Obj} {vs : Array Value}, h.get? b = some o → o.data = .fields vs → b ≠ C := fun e1 e2 q => by
    rw [q, eC] at e1; cases e1; rw [dC] at e2; cases e2
  exact ⟨stays_but k1 hb k, k2, frames_but k k3 hl, a0, fl, oe, vs, T, oT, ts, k _ _ (ne he hd) he, hc, hd, h1, hnT, hTe, k _ _ (ne hT hdT) hT, hdT, h3⟩

theorem Rps.anywhere {h h' : Heap} : ∀ {vs : List Value} {zs : List Int}, Rps h vs (zs.map .int) [] → Rps h' vs (zs.map .int) []
  | _, [], r => by
    generalize ([] : List Addr) = as at r
    cases r; exact .nil
  | _, z :: zs, r => by
    rw [List.map_cons] at r ⊢
    generalize has : ([] : List Addr) = as at r
    cases r with
    | cons x y =>
      rename_i as' bs'
      have h1 : as' = [] := by cases as'; rfl; cases has
      subst h1
      have h2 : bs' = [] := by simpa using has.symm
      subst h2
      exact Rps.cons (as := []) (bs := []) (x.anywhere rfl) (Rps.anywhere y)

section
variable {fname : Nat → Str} {g : Gx} {Φ : Calls} {n : Nat} {F : Fm} {sc : Scope} {A : Around} {s s' : Shared} {ρ : Vars} {fp : Nat → List Addr} {h h' : Heap}

theorem Rel.dictBut (R : Rel g F sc h ρ fp) {C : Addr} {m : Str → Option Value} (hC : h.Ns C m) (h1 : F.H C = none) (h2 : g.base.get? C = none) (h4 : C ∉ (F.env sc :: F.outer).filterMap (·.frame)) (k : ∀ b o, b ≠ C → h.get? b = some o → h'.get? b = some o) : Rel g F sc h' ρ fp := by
  obtain ⟨oC, es, ep, eC, dC, _⟩ := hC
  have hL : F.L ≠ C := fun q => h4 (by rw [List.filterMap_cons]; show C ∈ F.L :: _; rw [q]; exact .head _)
  have ne : ∀ {b : Addr} {o : Obj}, h.get? b = some o → (∀ es ep, o.data ≠ .dict es ep) → b ≠ C := fun e hd q => by
    subst q; rw [eC] at e; cases e; exact hd _ _ dC
  have sb : StayBut (· = C) h h' := ⟨fun b o e hb => .inl (k b o hb e), fun b o hb e => .inr fun vs m q => by
    rw [show b = C from hb, eC] at e; cases e; rw [dC] at q; cases q⟩
  have rp : ∀ {v d as}, Rp h v d as → Rp h' v d as := fun r => r.stay sb fun a ha q => by
    obtain ⟨o, vs, m, e, _, _, hd, _⟩ := r.mem a ha
    exact ne e (fun es ep q' => by rw [hd] at q'; cases q') q
  have nsk : ∀ {m}, h.Ns F.L m → h'.Ns F.L m := fun hn => by
    obtain ⟨o, es, ep, ho, hd, r⟩ := hn
    exact ⟨o, es, ep, k _ _ hL ho, hd, r⟩
  refine ⟨stays_but R.stays h2 k, fun b o e => ?_, frames_but k R.frames h4, ?_, R.hL, fun p hp => ?_, R.cnd, R.ccov, R.len, R.nd, fun i d e => ?_, R.nofp, R.own⟩
  · have hb : b ≠ C := fun q => by rw [q, h1] at e; cases e
    rcases R.held b o e with q | ⟨hd, sl, q⟩
    · exact .inl (k b o hb q)
    · exact .inr ⟨hd, sl, k b _ hb q⟩
  · obtain ⟨m, hm⟩ := R.ns; exact ⟨m, nsk hm⟩
  · obtain ⟨c1, c2, o, w, c3, c4⟩ := R.cells p hp
    exact ⟨c1, c2, o, w, k _ _ (ne c3 (fun es ep q => by rw [c4] at q; cases q)) c3, c4⟩
  · obtain ⟨y, v, hy, hv, r⟩ := R.vars i d e
    refine ⟨y, v, hy, ?_, rp r⟩
    rcases hv with ⟨hl, m, hm, hv⟩ | ⟨hl, c, o, h1, h2, h3⟩
    · exact .inl ⟨hl, m, nsk hm, hv⟩
    · exact .inr ⟨hl, c, o, h1, k _ _ (ne h2 (fun es ep q => by rw [h3] at q; cases q)) h2, h3⟩

theorem gone_up {s₁ : Shared} {l : List Env} (x : Ext s₁.heap h') (hs : g.base.StaysIn h') (b : Addr) (o : Obj) (e : (gone g l s₁.heap).get? b = some o) (hs₁ : g.base.StaysIn s₁.heap) : (gone g l h').get? b = some o := by
  obtain ⟨h1, h2, h3⟩ := gone_of e
  rcases h3 with ⟨o', h3⟩ | ⟨vs, h3⟩
  · have e1 := hs₁ b o' h3
    rw [h1] at e1; cases e1
    exact gone_base h3 hs h2
  · rcases x b o h1 with q | ⟨hn, _⟩
    · exact gone_fields q h3 h2
    · exact absurd h3 (hn vs)

theorem sx_comp {fn x y yb : Str} {px np cp pos p1 xp py spos : Pos} {it : Expr} {scope : Scope} {a : X} {f i j : Nat} (he : SemE fname sc it a)
    (hset : ∀ env v, foldedSetIterable it env v = pure v)
    (hsk : scope.kind = .function) (hcell : ∀ y ∈ scope.names, y.2 ≠ .cell) (hfree : ∀ y ∈ scope.names, y.2 = .free → sc.names.lookup y.1 = some .cell)
    (hnames : ∀ y ∈ scope.names, y.2 = .local → scope.names.lookup y.1 = some .local) (hx : scope.names.lookup x = some .local) (hxd : (x == ("__debug__" : Str)) = false)
    (hfn : scope.names.lookup fn = some .globalImplicit) (hnm : fname f = fn) (hf : f < 500) (hne : fn ≠ Str.empty) (hdf : (fn == ("__debug__" : Str)) = false)
    (hj : (slots sc)[j]? = some yb) (hyb : scope.names.lookup yb = some .free) (hcb : sc.names.lookup yb = some .cell) (hdb : (yb == ("__debug__" : Str)) = false)
    (hi : (slots sc)[i]? = some y) (hky : sc.names.lookup y = some .local) (hln : (py.line == pos.line) = true) (hany : (scope.names.any fun p => p.1 == y && (p.2 == .local || p.2 == .cell)) = false) :
    SemX fname sc (.Assign [.Name y py] (.ListComp (.Call (.Name fn np) [.Name yb p1, .Name x xp] [] cp) [⟨.Name x px, it, [], 0⟩] scope pos) spos) (.compCall i f j a) := by
  intro g Φ n F A s ρ fp Q Z R E T h hZ hR hE
  have h' : compK Φ ρ i f j a Z Q := h
  unfold compK at h'
  have hclos : closureFor scope (F.env sc) = pure (clOf (F.env sc) scope.names []) := closure_pure fun p hp hk => T.rel.ccov _ (hfree p hp hk)
  rw [exec_Assign_Name_used _ _ _ _ (swaps_yes (env := F.env sc) T.kind hky hln hany)]
  refine wpAny_bind (wpAny_standAt (wpAny_bind ?_))
  show wpAny _ A (do let _ ← comprehension (.ListComp (.Call (.Name fn np) [.Name yb p1, .Name x xp] [] cp) [⟨.Name x px, it, [], 0⟩] scope pos) scope (F.env sc) _ (newList []) false (eval it (F.env sc)) (some (assign (.Name y py) (F.env sc)))) _ _ s
  refine wpAny_bind (wpAny_mono (wpAny_comprehension_free (use := some (assign (.Name y py) (F.env sc))) (Q := fun _ s' => R .next s') rfl (hset _) hclos hsk hnames
    (he g Φ n F A s ρ fp _ _ E T h' fun v s₁ d fg as hk' st r fo => ?_)) (fun _ s' hq => wpAny_pure (wpAny_pure hq)) fun _ _ e => e)
  cases r with
  | @list l o vs en ws as' e1 c di dt sz itm =>
    obtain ⟨bD, hb, hbi, hflat, hwl, hW, hK⟩ := hk'
    have as0 := itm.flat hflat
    subst as0
    have T₁ := T.step st
    have hvl : vs.size = ws.length := by simpa using itm.length
    refine wpAny_pyIter_list ⟨o, e1, c, en, dt⟩ ?_
    refine wpAny_newObj_type (wpAny_newFunctionEnv hcell (by intro y hy; simp at hy) (fun h₁ hns₁ hsb₁ => ?_) hsk)
    dsimp only at hns₁ hsb₁ ⊢
    generalize hH1 : s₁.heap.push { cls := .type "list_iterator", data := .fields #[.ref l, .int 0 0] } = H1 at *
    generalize hH2 : H1.push { cls := .type "list", dict := none, data := .seq ([] : List Value).toArray } = H2 at *
    have z1 : H1.objs.size = s₁.heap.objs.size + 1 := by rw [← hH1, Heap.size_push]
    have z2 : H2.objs.size = s₁.heap.objs.size + 1 + 1 := by rw [← hH2, Heap.size_push, z1]
    have fr : ∀ b, s₁.heap.objs.size ≤ b → s₁.heap.get? b = none := fun b hb => Heap.get?_none_of_le hb
    have fI : s₁.heap.get? s₁.heap.objs.size = none := fr _ (Nat.le_refl _)
    have fD : s₁.heap.get? H1.objs.size = none := fr _ (by rw [z1]; exact Nat.le_succ _)
    have fC : s₁.heap.get? H2.objs.size = none := fr _ (by rw [z2]; exact Nat.le_succ_of_le (Nat.le_succ _))
    obtain ⟨I, hI⟩ : ∃ I : Nat, I = s₁.heap.objs.size := ⟨_, rfl⟩
    obtain ⟨D, hD⟩ : ∃ D : Nat, D = H1.objs.size := ⟨_, rfl⟩
    obtain ⟨C, hC⟩ : ∃ C : Nat, C = H2.objs.size := ⟨_, rfl⟩
    have nID : I ≠ D := by rw [hI, hD, z1]; exact Nat.ne_of_lt (Nat.lt_succ_self _)
    have nIC : I ≠ C := by rw [hI, hC, z2]; exact Nat.ne_of_lt (Nat.lt_succ_of_lt (Nat.lt_succ_self _))
    have nDC : D ≠ C := by rw [hD, hC, z2, z1]; exact Nat.ne_of_lt (Nat.lt_succ_self _)
    have gI : H1.get? I = some { cls := .type "list_iterator", data := .fields #[.ref l, .int 0 0] } := by rw [← hH1, hI]; exact Heap.get?_push_size _ rfl
    have gD : H2.get? D = some { cls := .type "list", dict := none, data := .seq ([] : List Value).toArray } := by rw [← hH2, hD]; exact Heap.get?_push_size _ rfl
    have gI2 : H2.get? I = some { cls := .type "list_iterator", data := .fields #[.ref l, .int 0 0] } := by rw [← hH2]; exact Heap.get?_push_of_some _ gI
    rw [← hC] at hns₁ hsb₁
    rw [← hI] at fI
    rw [← hD] at fD
    rw [← hC] at fC
    have kp₁ : ∀ b o, b ≠ C → H2.get? b = some o → h₁.get? b = some o := fun b o hb e => (hsb₁.2 b hb).trans (Heap.get?_push_of_some _ e)
    have k0 : ∀ b o, s₁.heap.get? b = some o → h₁.get? b = some o := fun b o e => kp₁ b o (fun q => by rw [q, fC] at e; cases e) (by rw [← hH2, ← hH1]; exact Heap.get?_push_of_some _ (Heap.get?_push_of_some _ e))
    have bn : ∀ b, s₁.heap.get? b = none → g.base.get? b = none := fun b hb => by
      cases hq : g.base.get? b with
      | none => rfl
      | some o => have := st.stays b o hq; rw [hb] at this; cases this
    have nF : ∀ b, s₁.heap.get? b = none → b ∉ (F.env sc :: F.outer).filterMap (·.frame) := fun b hb q => by
      obtain ⟨_, o', e', _⟩ := T₁.rel.frames.mem q
      rw [hb] at e'; cases e'
    obtain ⟨cenv, hcenv⟩ : ∃ cenv, cenv = compEnvC scope (clOf (F.env sc) scope.names []) C (F.env sc) := ⟨_, rfl⟩
    have loop : ∀ s₄ : Shared, s₄ = { s₁ with heap := h₁, toks := s₁.toks + ([] : List (Str × Value)).length } →
        codeAny (model g.p g.w) A (.compLoop (.ListComp (.Call (.Name fn np) [.Name yb p1, .Name x xp] [] cp) [⟨.Name x px, it, [], 0⟩] scope pos) 0 (.ref I) (.ref D) cenv)
          (compPost (model g.p g.w) A E (some (assign (.Name y py) (F.env sc))) (fun _ s' => R .next s') (.ref D) C) s₄ := by
      rintro s₄ rfl
      refine codeAny_compLoop_tests (fun q s' => ∃ k h' tk m' o' ys en' zs, q = ws.length - k ∧ k ≤ ws.length ∧ s' = { s₁ with heap := h', toks := tk } ∧ Ext s₁.heap h' ∧ g.base.StaysIn h' ∧ h'.IsListIter I l k ∧ h'.Ns C m' ∧
          h'.get? D = some o' ∧ o'.cls = .type "list" ∧ o'.dict = none ∧ o'.data = .seq ys en' ∧ List.length zs = k ∧ Rps h' ys.toList (List.map PyData.int zs) [] ∧ (∀ (t : Nat) (w : Mine.D) (z : Int), ws[t]? = some w → zs[t]? = some z → Φ f [bD, w] fun r _ => r = .int z)) ?_ ws.length
        ⟨0, h₁, _, _, _, _, _, [], rfl, Nat.zero_le _, rfl, .of_keep k0, fun b o e => k0 b o (st.stays b o e), ⟨_, kp₁ _ _ nIC gI2, rfl, rfl⟩, hns₁, kp₁ _ _ nDC gD, rfl, rfl, rfl, rfl, .nil, fun t w z _ hz => by simp at hz⟩
      rintro q s' ⟨k, h', tk, m', o', ys, en', zs, rfl, hkl, rfl, hx', hs', hit, hns, hgD, hcD, hdD, hdat, hzl, hzr, hzΦ⟩
      have rl : Rp h' (.ref l) (.list ws) [l] := (Rp.list e1 c di dt sz itm).ext hx'
      have hlI : ∃ o, h'.get? I = some o ∧ ∃ vs, o.data = .fields vs := let ⟨o, e, _, d⟩ := hit; ⟨o, e, _, d⟩
      obtain ⟨oI, eI, vI, dI⟩ := hlI
      generalize hll : ([l] : List Addr) = ll at rl
      cases rl with
      | @list _ ol vl enl _ asl el cl dil dtl szl itl =>
        by_cases hlt : k < ws.length
        · have hwk : ws[k]? = some ws[k] := List.getElem?_eq_getElem hlt
          obtain ⟨u, cs, hu, ru, hsub⟩ := itl.get hwk
          have hwi : imm ws[k] = true := List.all_eq_true.mp hflat _ (List.getElem_mem hlt)
          refine wpAny_pyNext_list_item hit ⟨ol, el, cl, enl, dtl⟩ (x := u) (by simpa using hu) fun h₂ hit₂ hs₂ => ?_
          have k₂ : ∀ b o, b ≠ I → h'.get? b = some o → h₂.get? b = some o := fun b o hb e => (hs₂.2 b hb).trans e
          have hxC : cenv.kindOf x = some .local := by rw [hcenv]; exact lookup_relabel_local hx
          have hns₂ : h₂.Ns C m' := by
            obtain ⟨oC, es, ep, eC, r⟩ := hns
            exact ⟨oC, es, ep, k₂ _ _ (Ne.symm nIC) eC, r⟩
          have hlc : cenv.locals = C := by rw [hcenv]; rfl
          refine wpAny_assign_Name (wpAny_storeName_local hxC (by rw [hlc]; exact hns₂) (fun h₃ hns₃ hs₃ => ?_) (by rw [hcenv]; show (scope.kind == .class || (scope.kind == .module && _)) = false; rw [hsk]; rfl))
          rw [hlc] at hns₃ hs₃
          have k₃ : ∀ b o, b ≠ C → h₂.get? b = some o → h₃.get? b = some o := fun b o hb e => (hs₃.2 b hb).trans e
          have x₃ : Ext s₁.heap h₃ := (hx'.but fI k₂).but fC k₃
          have st₃ : g.base.StaysIn h₃ := stays_but (stays_but hs' (bn _ fI) k₂) (bn _ fC) k₃
          have hit₃ : h₃.IsListIter I l (k + 1) := by
            obtain ⟨o2, e2, c2, d2⟩ := hit₂
            exact ⟨o2, k₃ _ _ nIC e2, c2, d2⟩
          have gD₃ : h₃.get? D = some o' := k₃ _ _ nDC (k₂ _ _ (Ne.symm nID) hgD)
          have R₃ : Rel g F sc h₃ ρ fp := T₁.rel.ext x₃ st₃
          refine wpAny_pure ?_
          show (if true = true then _ else _)
          rw [if_pos rfl]
          have T₃ : ∀ tk', At fname g Φ n F sc A { s₁ with heap := h₃, toks := tk' } ρ fp := fun tk' => T₁.rel' R₃
          obtain ⟨fa, of, fd, hmg, hbf, hdatf⟩ := T.named f (by omega) (by rw [hnm]; exact hne)
          rw [hnm] at hmg
          rw [hcenv]
          refine wpAny_Call_ofName (Name_function_global hsk (look_glob hfn) (loadGlobal_global (T.gd.glb.keeps st₃) hmg ?_) hdf)
          refine callWith_def hdatf ?_ (starEach_cons rfl)
          refine args_cons (cell_load (T₃ _) (fun _ _ e => e) hsk hj hyb hcb hdb hb fun v rv => ?_) (starEach_cons rfl)
          refine args_cons (wpAny_Name (wpAny_loadName_local (v := u) hsk (lookup_relabel_local hx) hns₃ (by simp) ?_) hxd) (starEach_cons rfl)
          refine args_nil ⟨st₃ _ _ hbf, ?_⟩
          have ru₃ : Rp h₃ u ws[k] [] := ru.anywhere hwi
          rcases hW ws[k] (List.getElem_mem hlt) with ⟨z, hΦ⟩ | hΦ
          · have q := T.fns _ _ _ hΦ
            unfold Spec at q
            rw [if_neg (by omega), if_neg (by omega)] at q
            obtain ⟨fa', q⟩ := q
            have e := q.named
            rw [hnm, hmg] at e
            cases e
            refine q.run A _ _ _ _ _ _ T.room st₃ R₃.frames (.cons rv (.cons ru₃ .nil)) fun v' s₅ d fr bs hkd st₅ r₅ hfr => ?_
            subst hkd
            obtain ⟨h₅, tk₅, rfl, x₅, b₅⟩ := st₅
            obtain ⟨sl, gD₅⟩ := x₅.soft gD₃
            have hysz : ys.size = k := by have := hzr.length; simp at this; omega
            refine append_heap gD₅ hcD hdat (by rw [hysz]; exact Nat.le_trans (Nat.le_of_lt hlt) (Nat.le_trans hwl (by decide))) ?_
            obtain ⟨en₆, hd₆⟩ := Obj.data_mapSeq (o := { o' with slots := sl }) hdat (·.push v')
            have gD₆ := Heap.get?_update_self (Obj.mapSeq (·.push v')) gD₅ (by
              obtain ⟨oc, od, odt, osl⟩ := o'; simp only at hdat; subst hdat; rfl)
            have k₆ : ∀ b o, b ≠ D → h₅.get? b = some o → (h₅.update D (Obj.mapSeq (·.push v'))).get? b = some o := fun b o hb e => ((Heap.SameBut.update _ _ _).2 b hb).trans e
            obtain ⟨m₅, hns₅⟩ : ∃ m₅, h₅.Ns C m₅ := ⟨_, x₅.ns hns₃⟩
            have hit₅ : h₅.IsListIter I l (k + 1) := by
              obtain ⟨o2, e2, c2, d2⟩ := hit₃
              rcases x₅ _ _ e2 with q | ⟨q, _⟩
              · exact ⟨o2, q, c2, d2⟩
              · exact absurd d2 (q _)
            have sb₆ : StayBut (· = D) h₅ (h₅.update D (Obj.mapSeq (·.push v'))) := ⟨fun b o e hb => .inl (k₆ b o hb e), fun b o hb e => .inl (by
              rw [show b = D from hb, gD₅] at e; cases e; rw [show ({ o' with slots := sl } : Obj).cls = o'.cls from rfl, hcD]; decide)⟩
            refine ⟨ws.length - (k + 1), by omega, k + 1, _, _, m₅, _, ys.push v', en₆, zs ++ [z], rfl, hlt, rfl, (x₃.trans x₅).but fD k₆, stays_but b₅ (bn _ fD) k₆, ?_, ?_, gD₆, ?_, ?_, hd₆, by simp [hzl], ?_, fun t w z' hw hz => ?_⟩
            · obtain ⟨o2, e2, c2, d2⟩ := hit₅
              exact ⟨o2, k₆ _ _ nID e2, c2, d2⟩
            · obtain ⟨oC, es, ep, eC, r⟩ := hns₅
              exact ⟨oC, es, ep, k₆ _ _ (Ne.symm nDC) eC, r⟩
            · cases o'; cases hcD; simp only at hdat; subst hdat; rfl
            · cases o'; cases hdD; simp only at hdat; subst hdat; rfl
            · have z1 : Rps h₅ ys.toList (zs.map .int) [] := hzr.anywhere
              have z2 := (Rps.append z1 (.cons r₅ .nil)).stay sb₆ fun a ha => by
                have : bs = [] := r₅.imm rfl
                subst this
                simp at ha
              have : bs = [] := r₅.imm rfl
              subst this
              simpa using z2
            · by_cases ht : t < k
              · rw [List.getElem?_append_left (by omega)] at hz
                exact hzΦ t w z' hw hz
              · have htl : t < (zs ++ [z]).length := (List.getElem?_eq_some_iff.mp hz).1
                have htk : t = k := by simp [hzl] at htl; omega
                subst htk
                rw [← hzl, List.getElem?_append_right (Nat.le_refl _)] at hz
                simp at hz
                rw [hwk] at hw
                cases hw
                rw [← hz]; exact hΦ
          · have q := T.fns _ _ _ hΦ
            unfold Spec at q
            rw [if_neg (by omega), if_pos (by omega)] at q
            obtain ⟨c', Cx, fa', ⟨c'', hc, hZc⟩, O, q⟩ := q
            have hcc : c' = c'' := by injection hc with hc; omega
            subst hcc
            have e := q.named
            rw [show 500 + f - 500 = f by omega, hnm, hmg] at e
            cases e
            refine q.run A _ _ _ _ Cx _ _ T.room st₃ R₃.frames (.cons rv (.cons ru₃ .nil)) O fun ex a0 s₅ hl hfl hup => ?_
            show wpAny _ _ (noteFrame (.ref ex) (F.env sc)) _ _ _
            obtain ⟨h₅, tk₅, rfl⟩ := hl
            refine fly_note T.room.frames rfl (fly_of hfl) fun h₆ x₆ u₆ => ?_
            have hns₆ : h₆.Ns C _ := (hup.trans u₆).ns hns₃
            have hbC : (gone g (F.env sc :: F.outer) h₃).get? C = none := by
              cases hq : (gone g (F.env sc :: F.outer) h₃).get? C with
              | none => rfl
              | some o2 =>
                obtain ⟨g1, g2, g3⟩ := gone_of hq
                obtain ⟨oC, es, ep, eC, dC, _⟩ := hns₃
                rcases g3 with ⟨o3, g3⟩ | ⟨vs3, g3⟩
                · rw [bn _ fC] at g3; cases g3
                · rw [eC] at g1; cases g1; rw [dC] at g3; cases g3
            refine ⟨_, hns₆, fun h₇ hs₇ cenv' hce => ?_⟩
            have k₇ : ∀ b o, b ≠ C → h₆.get? b = some o → h₇.get? b = some o := fun b o hb e => (hs₇.2 b hb).trans e
            refine fly_pass (x₆.but hns₆ hbC (nF _ fC) k₇) fun h₈ x₈ u₈ => ?_
            have up : s₁.heap.UpToSlots h₈ := fun b o e hn => by
              have hbC' : b ≠ C := fun q => by rw [q, fC] at e; cases e
              have e3 : ∃ sl, h₃.get? b = some { o with slots := sl } := x₃.soft e
              obtain ⟨sl, e3⟩ := e3
              obtain ⟨sl', e6⟩ := (hup.trans u₆) b _ e3 hn
              have e7 := k₇ b _ hbC' e6
              obtain ⟨sl₈, e8⟩ := u₈ b _ e7 hn
              exact ⟨sl₈, e8⟩
            refine hE c' Cx ex _ hZc O ⟨s₁, ρ, fp, st.later, T₁.rel, ⟨h₈, tk₅, rfl⟩, .inr ⟨x₈.down (fun b o e => gone_up x₃ st₃ b o e st.stays) fun b hb => gone_at hb, up⟩⟩
        · have hk' : k = ws.length := by omega
          refine wpAny_pyNext_list_end T.room.handled hit ⟨ol, el, cl, enl, dtl⟩ (by have := itl.length; simp at this ⊢; omega) fun h₂ hs₂ => ?_
          have k₂ : ∀ b o, b ≠ I → h'.get? b = some o → h₂.get? b = some o := fun b o hb e => hs₂ b o hb e
          have x₂ := hx'.but fI k₂
          have st₂ := stays_but hs' (bn _ fI) k₂
          have gD₂ := k₂ _ _ (Ne.symm nID) hgD
          have hns₂ : h₂.Ns C m' := by
            obtain ⟨oC, es, ep, eC, r⟩ := hns
            exact ⟨oC, es, ep, k₂ _ _ (Ne.symm nIC) eC, r⟩
          have R₂ : Rel g F sc h₂ ρ fp := T₁.rel.ext x₂ st₂
          have hysz : ys.size = k := by have := hzr.length; simp at this; omega
          have rD : Rp h₂ (.ref D) (.list (zs.map .int)) [D] := .list gD₂ hcD hdD hdat (by rw [hysz, hk']; exact Nat.le_trans hwl (by decide)) hzr.anywhere
          have hq := hK zs (by omega) hzΦ
          refine wpAny_assign_Name (store_rule (i := i) (s := { s₁ with heap := h₂, toks := tk }) (T₁.rel' R₂) (.inl hky) fun h₃ tk₃ S₃ => ?_)
          have fr' := fresh_none T₁.rel fD
          have R₃ := R₂.put (c := .own (.list (zs.map .int))) hi S₃ rD (.inr rfl) (fun j' _ _ _ a ha => by rw [List.mem_singleton.mp ha]; exact fr'.2 j') fun _ => ⟨by simp, fun a ha => by rw [List.mem_singleton.mp ha]; exact fr'.1, fun j' _ a ha => by rw [List.mem_singleton.mp ha]; exact fr'.2 j'⟩
          have hCp : ¬ Priv F C := by
            rintro (q | ⟨p, hp, q⟩)
            · exact nF _ fC (by rw [List.filterMap_cons]; show C ∈ F.L :: _; rw [q]; exact .head _)
            · obtain ⟨_, _, o2, w, ho2, _⟩ := T₁.rel.cells p hp
              rw [← q, fC] at ho2; cases ho2
          have hns₃ : h₃.Ns C m' := by
            obtain ⟨oC, es, ep, eC, r⟩ := hns₂
            exact ⟨oC, es, ep, S₃.keep _ _ eC hCp, r⟩
          refine ⟨m', hns₃, fun h₄ hs₄ => ?_⟩
          have R₄ := R₃.dictBut hns₃ (fresh_none T₁.rel fC).1.1 (bn _ fC) (nF _ fC) fun b o hb e => (hs₄.2 b hb).trans e
          obtain ⟨hh, tk', e0, _⟩ := st
          exact hR .next .next _ _ _ hq trivial ⟨h₄, tk₃, by rw [e0]⟩ R₄
    rw [← hI, ← hD, ← hC]
    rw [hcenv] at loop
    exact codeAny_compStart_list (loop _ rfl) (wpAny_pyIter_listiter ⟨_, kp₁ _ _ nIC gI2, rfl, rfl⟩ (loop _ rfl))
  | _ => exact hk'.elim
end
end Mine
set_option Elab.async false
set_option maxRecDepth 100000
set_option linter.unusedVariables false
namespace Mine
open PySem PySem.Calls PyProof.Rows

theorem join_list (ps : List Str) : (Str.join ⟨#[46]⟩ ps).cps.toList = jn (ps.map (·.cps.toList)) := by
  induction ps with
  | nil => rfl
  | cons p r ih =>
    cases r with
    | nil => rfl
    | cons q r =>
      show (p ++ (⟨#[46]⟩ : Str) ++ Str.join ⟨#[46]⟩ (q :: r)).cps.toList = _
      rw [Str.cps_append, Str.cps_append, Array.toList_append, Array.toList_append, ih]
      simp [jn]
theorem txt_split (x : Str) : Txt.split x ⟨#[46]⟩ = (spl x.cps.toList).map Mine.st := by
  have h1 := StrLaws.join_split x ⟨#[46]⟩
  have h2 := StrLaws.split_free x 46
  have h3 := split_pos x ⟨#[46]⟩
  have h4 : jn ((Txt.split x ⟨#[46]⟩).map (·.cps.toList)) = x.cps.toList := by rw [← join_list, h1]
  have h5 := spl_of (ws := (Txt.split x ⟨#[46]⟩).map (·.cps.toList)) (fun q => by
    have : Txt.split x ⟨#[46]⟩ = [] := by simpa using q
    rw [this] at h3; simp at h3) (fun w hw => by obtain ⟨p, hp, rfl⟩ := List.mem_map.mp hw; exact h2 p hp) h4
  rw [h5, List.map_map]
  have : (Txt.split x ⟨#[46]⟩).map (Mine.st ∘ fun p => p.cps.toList) = (Txt.split x ⟨#[46]⟩).map id := List.map_congr_left fun p _ => st_list p
  rw [this]; simp
theorem rps_strs {h : Heap} : ∀ {l : List (Str × Tok)} {ws : List (List Nat)}, l.map (·.1) = ws.map Mine.st → (∀ w ∈ ws, w.length ≤ sizeLine) → Rps h (strValues l) (ws.map fun w => PyData.str (Mine.st w)) []
  | [], [], _, _ => .nil
  | [], _ :: _, e, _ => by cases e
  | _ :: _, [], e, _ => by cases e
  | (p, t) :: l, w :: ws, e, hz => by
    have e1 : p = Mine.st w := by injection e
    have e2 : l.map (·.1) = ws.map Mine.st := by injection e
    subst e1
    exact Rps.cons (as := []) (bs := []) (.str _ _ (by show w.toArray.size ≤ sizeLine; simpa using hz w (.head _))) (rps_strs e2 fun v hv => hz v (.tail _ hv))

section
variable {fname : Nat → Str} {g : Gx} {Φ : Calls} {n : Nat} {F : Fm} {sc : Scope} {A : Around} {s s' : Shared} {ρ : Vars} {fp : Nat → List Addr} {h h' : Heap}

theorem split_call {x : Str} {t u : Tok} {Q E : Value → Shared → Prop} (hx : x.length ≤ 5000)
    (hq : ∀ l tk, l.map (·.1) = Txt.split x ⟨#[46]⟩ → Q (.ref s.heap.objs.size) { s with heap := s.heap.push { cls := .type "list", data := .seq (strValues l).toArray }, toks := tk }) :
    wpAny (model g.p g.w) A (call (.builtin "str.split") [.str x t, .str ⟨#[46]⟩ u]) Q E s := by
  have hz : x.length ≤ sizeLine := Nat.le_trans hx (by decide)
  have hlen : (Txt.split x ⟨#[46]⟩).length ≤ sizeLine := by
    rw [txt_split, List.length_map]
    have := (spl_len x.cps.toList).1
    have e : x.cps.toList.length = x.length := by simp [Str.length]
    rw [e] at this
    exact Nat.le_trans this (Nat.le_trans (Nat.succ_le_succ hx) (by decide))
  cases h1 : (decide (x.length < (⟨#[46]⟩ : Str).length) || decide (Builtin.Str.strKind x < Builtin.Str.strKind ⟨#[46]⟩))
  · cases hf : (Builtin.Str.occurrences x ⟨#[46]⟩ 0 x.length (x.length + 1)).isEmpty
    · have es : Txt.split x ⟨#[46]⟩ = Builtin.Str.partsBetween x (Builtin.Str.occurrences x ⟨#[46]⟩ 0 x.length (x.length + 1)) (⟨#[46]⟩ : Str).length := (if_neg (ne_true_of_eq_false h1)).trans (if_neg (ne_true_of_eq_false hf))
      refine call_meets PySem.F.slot_str_split (typeIs_str _ _ _) PySem.F.entry_str_split (PySem.F.args_str_split_2 _ _) (meets_str_split_sep x ⟨#[46]⟩ t u h1 rfl hf hz (by rw [← es]; exact hlen)) ?_
      show wants Q E _ { s with toks := _, heap := s.heap.push { cls := .type "list", data := .seq (strsFrom s.toks (Builtin.Str.partsBetween x (Builtin.Str.occurrences x ⟨#[46]⟩ 0 x.length (x.length + 1)) (⟨#[46]⟩ : Str).length)).toArray } }
      rw [strsFrom_eq]
      exact hq (numbered s.toks _) _ ((numbered_texts _ _).trans es.symm)
    · exact call_meets PySem.F.slot_str_split (typeIs_str _ _ _) PySem.F.entry_str_split (PySem.F.args_str_split_2 _ _) (meets_str_split_not_found x ⟨#[46]⟩ t u h1 rfl hf)
        (hq [(x, t)] s.toks ((if_neg (ne_true_of_eq_false h1)).trans (if_pos hf)).symm)
  · exact call_meets PySem.F.slot_str_split (typeIs_str _ _ _) PySem.F.entry_str_split (PySem.F.args_str_split_2 _ _) (meets_str_split_cannot_occur x ⟨#[46]⟩ t u h1)
      (hq [(x, t)] s.toks (if_pos h1).symm)

theorem text_method {o e : Expr} {name : Str} {id : String} {apos pos : Pos} {Q E : Value → Shared → Prop} {env : Env} (hbase : attributeBase o name env (eval o env) = eval o env) (hs : starEach [e] env = [(false, eval e env)]) (hline : (apos.endLine == pos.line) = true)
    (slot : Slot "str" name id) (ty : typeOf (.builtin id) = pure (.type "method_descriptor"))
    (h : wpAny (model g.p g.w) A (eval o env) (fun ov s₁ => ∃ x t, ov = .str x t ∧ wpAny (model g.p g.w) A (eval e env) (fun v s₂ => wpAny (model g.p g.w) A (call (.builtin id) [.str x t, v]) Q E s₂) E s₁) E s) :
    wpAny (model g.p g.w) A (eval (.Call (.Attribute o name apos) [e] [] pos) env) Q E s := by
  refine Call_method1 hbase hs hline (wpAny_mono h (fun ov s₁ h₁ => ?_) fun _ _ e => e)
  obtain ⟨x, t, rfl, h₁⟩ := h₁
  exact ⟨"str", id, PySem.F.plainAttrs_str, slot, ty, typeIs_str _ _ _, (fun _ e => nomatch e), Calls.callWith_builtin rfl (Calls.evalArgs_plain (Calls.spliced_cons (wpAny_mono h₁ (fun _ _ h₂ => Calls.spliced_nil h₂) fun _ _ e => e)))⟩

noncomputable def plainO : Expr → Bool
  | .Name .. | .Constant .. => true
  | _ => false
theorem base_plain {o : Expr} (h : plainO o = true) (nm : Str) (env : Env) (w : Sem Value) : attributeBase o nm env w = w := by
  cases o <;> first | rfl | cases h

theorem sem_split {o : Expr} {apos pos q : Pos} {kk : Nat} {a : X} (ho : plainO o = true) (hline : (apos.endLine == pos.line) = true) (he : SemE fname sc o a) :
    SemE fname sc (.Call (.Attribute o "split" apos) [.Constant (.str ⟨#[46]⟩) kk q] [] pos) (.split a) := by
  intro g Φ n F A s ρ fp K Q E T h hQ
  conv at h => whnf
  refine text_method (base_plain ho _ _ _) rfl hline PySem.F.slot_str_split PySem.F.type_str_split (he g Φ n F A s ρ fp _ _ E T h fun v s₁ d f as hk st r fo => ?_)
  cases r with
  | str x t hz =>
    obtain ⟨hl, hk⟩ := hk
    have hxl : x.length ≤ 5000 := by simpa [Str.length] using hl
    refine ⟨x, t, rfl, wpAny_Constant_str (split_call hxl fun l tk hlm => ?_)⟩
    rw [txt_split] at hlm
    have hws : ∀ w ∈ spl x.cps.toList, w.length ≤ sizeLine := fun w hw => Nat.le_trans ((spl_len x.cps.toList).2 w hw) (Nat.le_trans hl (by decide))
    have r0 := rps_strs (h := s₁.heap) hlm hws
    have hlen : (strValues l).length ≤ sizeLine := by
      have := r0.length
      rw [this, List.length_map]
      exact Nat.le_trans (spl_len x.cps.toList).1 (Nat.le_trans (Nat.succ_le_succ hl) (by decide))
    refine hQ _ _ _ _ [s₁.heap.objs.size] hk ((st.push _).toks tk) (new_list r0 hlen 0) ?_
    refine FgOk.new T.rel (fun _ => rfl) (fun b hb => ?_) (by simp)
    rw [List.mem_singleton.mp hb]
    exact st.ext.fresh (fresh_size _)
  | _ => exact hk.elim

theorem paired_strs {vs ys : List Value} (hF : Paired (fun (v y : Value) => ∃ (m : Int) (t t' : Tok), v = Value.int m t ∧ y = Value.str (Mine.st (txt m)) t') vs ys) : ∀ {ns : List Int}, IntsAre vs ns → ∃ l : List (Str × Tok), ys = strValues l ∧ l.map (·.1) = ns.map fun m => Mine.st (txt m) := by
  induction hF with
  | nil => intro ns h; cases h; exact ⟨[], rfl, rfl⟩
  | cons x y ih =>
    intro ns h
    cases h with
    | cons n t r =>
      obtain ⟨m, t, t', e1, e2⟩ := x
      obtain ⟨l, e3, e4⟩ := ih r
      cases e1
      exact ⟨(_, t') :: l, by rw [e2, e3]; rfl, by rw [List.map_cons, e4]; rfl⟩
theorem ints_of_rps {h : Heap} : ∀ {vs : List Value} {ns : List Int} {as : List Addr}, Rps h vs (ns.map .int) as → IntsAre vs ns
  | _, [], _, r => by cases r; exact .nil
  | _, n :: ns, _, r => by
    rw [List.map_cons] at r
    cases r with
    | cons x y => cases x; exact .cons _ _ (ints_of_rps y)
theorem intsAre_snoc {n : Int} {t : Tok} : ∀ {vs : List Value} {ns : List Int}, IntsAre vs ns → IntsAre (vs ++ [.int n t]) (ns ++ [n])
  | _, _, .nil => .cons _ _ .nil
  | _, _, .cons _ _ r => .cons _ _ (intsAre_snoc r)
theorem intsAre_rev : ∀ {vs : List Value} {ns : List Int}, IntsAre vs ns → IntsAre vs.reverse ns.reverse
  | _, _, .nil => .nil
  | _, _, .cons _ _ r => by
    rw [List.reverse_cons, List.reverse_cons]
    exact intsAre_snoc (intsAre_rev r)
theorem intsAre_mem : ∀ {vs : List Value} {ns : List Int}, IntsAre vs ns → ∀ v ∈ vs, ∃ n t, v = .int n t ∧ n ∈ ns
  | _, _, .nil, v, hv => by cases hv
  | _, _, .cons n t r, v, hv => by
    rcases List.mem_cons.mp hv with rfl | hv
    · exact ⟨n, t, rfl, .head _⟩
    · obtain ⟨n', t', e, hm⟩ := intsAre_mem r v hv
      exact ⟨n', t', e, .tail _ hm⟩

theorem sem_join {x : Str} {np xp ecp px rp cp pos' cq apos pos : Pos} {kc : Nat} {it : Expr} {scope : Scope} {a : X} (hline : (apos.endLine == pos.line) = true) (hr : sc.names.lookup ("reversed" : Str) = some .globalImplicit) (hs : noStar it = true) (he : SemE fname sc it a)
    (hsk : scope.kind = .function) (hcell : ∀ y ∈ scope.names, y.2 ≠ .cell) (hfree : ∀ y ∈ scope.names, y.2 = .free → sc.names.lookup y.1 = some .cell)
    (hnames : ∀ y ∈ scope.names, y.2 = .local → scope.names.lookup y.1 = some .local) (hx : scope.names.lookup x = some .local) (hxd : (x == ("__debug__" : Str)) = false) (hg : scope.names.lookup ("str" : Str) = some .globalImplicit) :
    SemE fname sc (.Call (.Attribute (.Constant (.str ⟨#[46]⟩) kc cq) "join" apos) [.ListComp (.Call (.Name "str" np) [.Name x xp] [] ecp) [⟨.Name x px, .Call (.Name "reversed" rp) [it] [] cp, [], 0⟩] scope pos'] [] pos) (.joinS a) := by
  intro g Φ n F A s ρ fp K Q E T h hQ
  conv at h => whnf
  have hclos : closureFor scope (F.env sc) = pure (clOf (F.env sc) scope.names []) := closure_pure fun p hp hk => T.rel.ccov _ (hfree p hp hk)
  refine text_method rfl rfl hline PySem.F.slot_str_join PySem.F.type_str_join (wpAny_Constant_str ⟨_, _, rfl, ?_⟩)
  have T₀ : At fname g Φ n F sc A { s with toks := s.toks + 1 } ρ fp := T.step (T.here.toks _)
  refine wpAny_ListComp_free (fun _ => true) (fun (v y : Value) => ∃ (m : Int) (t t' : Tok), v = Value.int m t ∧ y = Value.str (Mine.st (txt m)) t') hclos hcell hsk hnames hx ?_
  refine typ1 (id := "reversed") T₀ hr (by simp [bltTab]) (by decide) hs he h fun v s₁ d f as hk' st r fo => ?_
  cases r with
  | @list l o vs en ds as' e1 c di dt sz itm =>
    obtain ⟨ns, rfl, hne, hnl, hnb, hk⟩ := hk'
    have hvl : vs.size = ns.length := by have := itm.length; simpa using this
    have hints := ints_of_rps itm
    refine call_reversed_list ⟨o, e1, c, en, dt⟩ ?_
    have st₂ := st.push (revObj l ((vs.size : Int) - 1))
    have hit : (s₁.heap.push (revObj l ((vs.size : Int) - 1))).IsRevIter s₁.heap.objs.size l ((vs.size : Int) - 1) := ⟨_, Heap.get?_push_size _ rfl, rfl, rfl⟩
    refine wpAny_pyIter_revIter (s := { s₁ with heap := s₁.heap.push (revObj l ((vs.size : Int) - 1)) }) hit ?_
    generalize hH : s₁.heap.push (revObj l ((vs.size : Int) - 1)) = H at *
    have hI : s₁.heap.get? s₁.heap.objs.size = none := fresh_size _
    have hlI : l ≠ s₁.heap.objs.size := fun q => by rw [q, hI] at e1; cases e1
    have eH : ∀ b o, s₁.heap.get? b = some o → H.get? b = some o := fun b o e => by rw [← hH]; exact Heap.get?_push_of_some _ e
    have T₁ := T₀.step st
    refine ⟨s₁.heap.objs.size, _, _, vs.size, _, _, rfl, Walks.listRev T.room.handled _ l hlI vs, by rw [hvl]; exact Nat.le_trans hnl (by decide), ⟨Nat.zero_le _, by simpa using hit, ⟨o, eH _ _ e1, c, en, dt⟩⟩, fun b hb => ?_, ⟨?_, ?_⟩, ?_⟩
    · rcases List.mem_cons.mp hb with rfl | hb
      · show _ < H.objs.size; rw [← hH, Heap.size_push]; exact Nat.lt_succ_self _
      · rw [List.mem_singleton.mp hb]; exact Heap.lt_size (eH _ _ e1)
    · intro C i v s₃ m₃ E' hC hP hn hm hk htk
      exact wpAny_pure ⟨rfl, kp_refl s₃⟩
    · intro C i v s₃ m₃ E' hC hP hpv hn hm hk₃ htk
      have hv : v ∈ vs.toList := by
        have : vs.toList[vs.size - 1 - i]? = some v := by simpa using hP
        exact List.mem_of_getElem? this
      obtain ⟨m, t, rfl, hmem⟩ := intsAre_mem hints v hv
      obtain ⟨b0, b1⟩ := hnb m hmem
      have up : Kp s₁.heap s₃.heap := fun b o e => hk₃ b o (fun q => by
        rcases List.mem_cons.mp q with rfl | q
        · rw [hI] at e; cases e
        · cases q) (eH b o e)
      have hst : g.base.StaysIn s₃.heap := fun b o e => up b o (st.stays b o e)
      have bS := T.gd.blt ("str" : Str) (.type "str") (by simp [bltTab])
      refine wpAny_Call_ofName (Name_function_global hsk (look_glob hg) (loadGlobal_builtin (T.gd.glb.keeps hst) bS.1 (T.gd.bns.keeps hst) bS.2 ?_) (by decide))
      refine callWith_type1 (args_cons (wpAny_Name (wpAny_loadName_local hsk (lookup_relabel_local hx) hn hm (args_nil ?_)) hxd) (starEach_cons rfl)) (starEach_cons rfl) rfl
      refine P.str_of_int ?_ ?_
      · by_cases h0 : m.natAbs = 0
        · rw [h0]; decide
        · refine (Nat.log2_lt h0).mpr (Nat.lt_trans (show m.natAbs < 2 ^ 64 by omega) ?_)
          exact Nat.pow_lt_pow_right (by decide) (by decide)
      · rw [txt_str b0]
        exact ⟨⟨m, t, _, rfl, rfl⟩, kp_toks (kp_refl s₃) _⟩
    · intro D h' tk ys vs' hD hl hpl hlen hP hF hk₃
      have hfil : vs'.filter (fun _ => true) = vs' := List.filter_eq_self.mpr fun _ _ => rfl
      rw [hfil] at hF
      have hvs' : vs' = vs.toList.reverse := by
        refine List.ext_getElem? fun k => ?_
        by_cases hkl : k < vs'.length
        · have := hP k _ (List.getElem?_eq_getElem hkl)
          rw [List.getElem?_eq_getElem hkl, List.getElem?_reverse (by simp; omega)]
          simpa using this.symm
        · rw [List.getElem?_eq_none (by omega), List.getElem?_eq_none (by simp; omega)]
      rw [hvs'] at hF
      obtain ⟨lst, e3, e4⟩ := paired_strs hF (intsAre_rev hints)
      have up : Kp s₁.heap h' := fun b o e => hk₃ b o (fun q => by
        rcases List.mem_cons.mp q with rfl | q
        · rw [hI] at e; cases e
        · cases q) (eH b o e)
      have hlen' : ∀ y ∈ ns.reverse.map (fun m => Mine.st (txt m)), y.length ≤ 10 := fun y hy => by
        obtain ⟨m, hm, rfl⟩ := List.mem_map.mp hy
        have := hnb m (by simpa using hm)
        have h10 := digits10_le (k := 10) (n := m.toNat) (by decide) (by omega)
        show (txt m).toArray.size ≤ 10
        unfold txt
        simpa using h10
      refine SC.join (l := lst) (by rw [← e3]; simpa using hl) e4 ?_ fun t' k => ?_
      · unfold JoinOk
        rw [Bool.not_eq_true']
        refine StrLaws.joinFits (B := 10) hlen' ?_
        show _ * 10 + _ * 1 ≤ _
        rw [List.length_map, List.length_reverse]; omega
      · have e5 : Txt.join ⟨#[46]⟩ (ns.reverse.map fun m => Mine.st (txt m)) = Mine.st (jn (ns.reverse.map txt)) := by
          show Builtin.Str.glued _ _ = _
          rw [StrLaws.glued_eq_join, ← st_list (Str.join _ _), join_list, List.map_map]
          rfl
        rw [e5]
        have hjl : (jn (ns.reverse.map txt)).length ≤ sizeLine := by
          have h1 := jn_len (ns.reverse.map txt) 10 fun w hw => by
            obtain ⟨m, hm, rfl⟩ := List.mem_map.mp hw
            exact (by simpa [Mine.st, Str.length] using hlen' _ (List.mem_map.mpr ⟨m, hm, rfl⟩))
          rw [List.length_map, List.length_reverse] at h1
          exact Nat.le_trans h1 (Nat.le_trans (Nat.mul_le_mul_right _ hnl) (by decide))
        have st₃ : Step g s { s₁ with heap := h', toks := k } := by
          have q : Step g s s₁ := (T.here.toks (s.toks + 1)).trans st
          exact q.keep up k
        exact hQ _ _ _ _ [] hk st₃ (.str _ _ (by show (jn _).toArray.size ≤ sizeLine; simpa using hjl)) .ff
  | _ => exact hk'.elim
end
end Mine
set_option Elab.async false
set_option maxRecDepth 100000
set_option linter.unusedVariables false
namespace Mine
open PySem PySem.Calls PyProof.Rows

section
variable {fname : Nat → Str} {g : Gx} {Φ : Calls} {n : Nat} {F : Fm} {sc : Scope} {A : Around} {s s' : Shared} {ρ : Vars} {fp : Nat → List Addr} {h h' : Heap}

theorem sem_tryN {fn en rn cn : Str} {np cp ep rp rpos hp pos : Pos} {e he : Expr} {es : List Expr} {xs : Xs} {f c j : Nat}
    (hj : (slots sc)[j]? = some en) (hje : sc.names.lookup en = some .local)
    (hfn : sc.names.lookup fn = some .globalImplicit) (hn : fname f = fn) (hf : f < 500) (hne : fn ≠ Str.empty) (hd : (fn == ("__debug__" : Str)) = false)
    (hs : noStar e = true) (ha : SemL fname sc (e :: es) xs) (hc : fname c = cn) (hrn : sc.names.lookup rn = some .globalImplicit) (hrd : (rn == ("__debug__" : Str)) = false) (hm : rn = ("RowError" : Str))
    (hH : SemHP fname sc en cn (fun _ => True) he) :
    SemS fname sc (.Try [.Expr (.Call (.Name fn np) (e :: es) [] cp) ep] [.ExceptHandler (some (.Name rn rp)) (some en) [.Return (some he) rpos] hp] [] [] pos) (.tryN f xs c j) := by
  intro g Φ n F A s ρ fp Q R E T h hR
  obtain ⟨hun, h⟩ : ρ[j]? = some .unset ∧ wL Φ ρ xs fun ds _ => Φ (500 + f) ds fun d _ => d = .int (c : Int) ∧ Q (.ret (.bool true) true) ρ := h
  refine wpAny_Try_except ?_
  refine wpAny_execs_cons (wpAny_Expr_any (call_raises (P := Q (.ret (.bool true) true) ρ) T hfn hn hf hne hd hs ha h fun C ex a0 s₁ s' hP O st hl hfl hup => ?_) (not_interactive T) (swaps_no rfl _ _ _))
  rw [hc] at O
  have T₁ := T.step st
  obtain ⟨h₁, tk₁, rfl⟩ := hl
  refine wpAny_looks_onW T.room.frames rfl hfl fun h₂ hh up₂ => ?_
  refine wpAny_landsW hh fun h₃ fl₃ up₃ => ?_
  have up : s₁.heap.UpToSlots h₃ := (hup.trans up₂).trans up₃
  obtain ⟨f1, f2, f3, f4⟩ := fl₃
  have R₃ := caught_rel T₁ f1 up
  have st₃ : ∀ b o, g.base.get? b = some o → h₃.get? b = some o := R₃.stays
  obtain ⟨oe, he', hcls⟩ := f4.at.there
  obtain ⟨bm, N, nm, qq, bs, hdct, sn, sub, ab, col, dd, k0, k1, k2, k3, k5, mN, hC, hN, hq, Tl⟩ := O.own.obj
  obtain ⟨CR, oc, cd, OR, hoc, hcd, hmro⟩ := O.row
  obtain ⟨bm', N', nm', qq', bs', hdct', sn', sub', ab', col', dd', k0', k1', k2', k3', k5', mN', hC', hN', hq', Tl'⟩ := OR.obj
  have hin : (Value.ref C :: bm).contains (.ref CR) = true := by
    rw [hC] at hoc; cases hoc; cases hcd; exact hmro
  subst hm
  refine wpAny_handleBy_cons (codeAny_handlers_test (Name_function_global T.kind hrn (loadGlobal_global (T.gd.glb.keeps st₃) OR.bound ?_) hrd)) (by intro q; cases q)
  refine exm_super (st₃ _ _ hC) (st₃ _ _ hC') he' hcls (Tl'.tail.hasType (by decide)) hin ?_
  refine codeAny_handlers_suite_as (wpAny_setFlight_noneW f1 f3 f4.at fun h₄ g1 g2 g3 g4 => ?_)
  have R₄ := caught_rel T₁ g1 (up.trans fun b o e hn => ⟨o.slots, g4 b o e hn⟩)
  obtain ⟨oe', he'', hcls'⟩ := g3.at.there
  refine store0 (i := j) (s := { s₁ with heap := h₄, toks := tk₁ }) T.kind R₄ (.inl hje) fun h₅ tk₅ S₅ => ?_
  have R₅ := R₄.hide hj hun S₅.hid
  have hex : h₅.get? ex = some oe' := S₅.keep ex oe' he'' fun q => by
    rcases q with q | ⟨p, hp, q⟩
    · obtain ⟨m, o', es, ep, ho, hd', _⟩ := R₄.ns
      obtain ⟨oe2, vs2, T2, oT2, ts2, he2, _, hd2, _⟩ := g3
      rw [q, ho] at he2; cases he2; rw [hd'] at hd2; cases hd2
    · obtain ⟨_, _, o', w, ho, hd'⟩ := R₄.cells p hp
      obtain ⟨oe2, vs2, T2, oT2, ts2, he2, _, hd2, _⟩ := g3
      rw [q, ho] at he2; cases he2; rw [hd'] at hd2; cases hd2
  refine wpAny_execs_cons (wpAny_Return_some (hH g _ F ρ fp { s₁ with heap := h₅, toks := tk₅ } C ex oe' _ _ T.gd T.kind T.units R₅ S₅.is O hex hcls' trivial fun s₆ k₆ => ?_))
  obtain ⟨h₆, tk₆, rfl, kk⟩ := k₆
  have R₆ : Rel g F sc h₆ ρ fp := R₅.ext (.of_keep kk) fun b o e => kk b o (R₅.stays b o e)
  show wpAny _ _ (do bindName (F.env sc) en .none; unbindBehindTheSuite (F.env sc) en hp) _ _ _
  refine wpAny_bind (bindName_ (store0 (i := j) (s := { s₁ with heap := h₆, toks := tk₆ }) T.kind R₆ (.inl hje) fun h₇ tk₇ S₇ => ?_))
  have R₇ := R₆.hide hj hun S₇.hid
  refine unbind_hid (s := { s₁ with heap := h₇, toks := tk₇ }) R₇ T.kind hje S₇.is fun h₈ S₈ => ?_
  have R₈ := R₇.hide hj hun S₈
  exact hR (.ret (.bool true) true) (.ret (.bool true)) _ _ _ hP ⟨[], .bool true, fun _ => ⟨List.nodup_nil, fun _ ha => (nomatch ha)⟩⟩ (st.later.trans ⟨h₈, tk₇, rfl⟩) R₈

theorem sem_compCall {st : Stmt} {i f j : Nat} {a : X} (h : SemX fname sc st (.compCall i f j a)) : SemS fname sc st (.compCall i f j a) := by
  intro g Φ n F A s ρ fp Q R E T hw hR
  exact h g Φ n F A s ρ fp Q (fun _ => False) R E T hw (fun _ q => q.elim) hR fun _ _ _ _ q => q.elim
theorem sy_never {st : List Stmt} : SemYs fname sc st (.cons .never .nil) := by
  intro g Φ n F A s ρ fp Q Z R E T h hZ hR hE
  exact (show False from h).elim
end
end Mine
set_option Elab.async false
set_option maxRecDepth 100000
set_option linter.unusedVariables false
namespace Mine
open PySem PySem.Calls PyProof.Rows

section
variable (fname : Nat → Str) (fid : Str → Option Nat) (sc : Scope)

noncomputable abbrev Both (e : Expr) (x : X) : Prop := SemE fname sc e x ∧ SemT fname sc e x
theorem both {fname sc} {e : Expr} {x : X} (h : SemE fname sc e x) (hp : ∀ env whole, isTrue e env whole = (do let v ← whole; standAt e.pos; holding [v] (truthy v))) : Both fname sc e x := ⟨h, sem_test h hp⟩

noncomputable def slotOf (x : Str) : Option { i : Nat // (slots sc)[i]? = some x } :=
  match (slots sc).idxOf? x with
  | some i => if h : (slots sc)[i]? = some x then some ⟨i, h⟩ else none
  | none => none
noncomputable def heldOf (x : Str) : Option (PLift (sc.names.lookup x = some .local ∨ sc.names.lookup x = some .cell)) :=
  if h : sc.names.lookup x = some .local ∨ sc.names.lookup x = some .cell then some ⟨h⟩ else none

noncomputable def cOp : (op : Operator) → Option { o : Op // opOf o = op }
  | .Add => some ⟨.add, rfl⟩
  | .Sub => some ⟨.sub, rfl⟩
  | .Mult => some ⟨.mul, rfl⟩
  | .FloorDiv => some ⟨.fdiv, rfl⟩
  | .Mod => some ⟨.mod, rfl⟩
  | .Pow => some ⟨.pow, rfl⟩
  | _ => none
noncomputable def cCm : (op : CmpOp) → Option { o : Cm // cmOf o = op ∧ o ≠ .isin ∧ o ≠ .notin }
  | .Eq => some ⟨.eq, rfl, nofun, nofun⟩
  | .NotEq => some ⟨.ne, rfl, nofun, nofun⟩
  | .Lt => some ⟨.lt, rfl, nofun, nofun⟩
  | .LtE => some ⟨.le, rfl, nofun, nofun⟩
  | .Gt => some ⟨.gt, rfl, nofun, nofun⟩
  | .GtE => some ⟨.ge, rfl, nofun, nofun⟩
  | .Is => some ⟨.is, rfl, nofun, nofun⟩
  | .IsNot => some ⟨.isnt, rfl, nofun, nofun⟩
  | _ => none
noncomputable def cBop : (op : BoolOp) → { i : Bool // bopOf i = op }
  | .And => ⟨true, rfl⟩
  | .Or => ⟨false, rfl⟩

noncomputable def cName (x : Str) (pos : Pos) : Option { y : X // Both fname sc (.Name x pos) y } :=
  if hd : (x == ("__debug__" : Str)) = false then
    match slotOf sc x with
    | some ⟨i, hi⟩ => some ⟨.var i, both (sem_var hi hd) fun _ _ => rfl⟩
    | none => match fid x with
      | some k => if h : sc.names.lookup x = some .globalImplicit ∧ 1000 ≤ k ∧ fname k = x then
          some ⟨.glob (k - 1000), both (sem_glob h.1 (by rw [show 1000 + (k - 1000) = k by omega]; exact h.2.2) hd) fun _ _ => rfl⟩ else none
      | none => none
  else none

noncomputable def consL {e : Expr} {es : List Expr} (a : Option { x : X // Both fname sc e x }) (l : Option { xs : Xs // SemL fname sc es xs }) : Option { xs : Xs // SemL fname sc (e :: es) xs } :=
  if hs : noStar e = true then
    match a, l with
    | some ⟨x, hx⟩, some ⟨xs, hxs⟩ => some ⟨.cons x xs, sem_cons hs hx.1 hxs⟩
    | _, _ => none
  else none
noncomputable def nilL : Option { xs : Xs // SemL fname sc [] xs } := some ⟨.nil, sem_nil⟩

noncomputable def userCall (f : Str) (np pos : Pos) (e : Expr) (es : List Expr) (l : Option { xs : Xs // SemL fname sc (e :: es) xs }) : Option { x : X // Both fname sc (.Call (.Name f np) (e :: es) [] pos) x } :=
  match fid f, l with
  | some k, some ⟨xs, hxs⟩ =>
    if h : sc.names.lookup f = some .globalImplicit ∧ fname k = f ∧ k < 500 ∧ f ≠ Str.empty ∧ (f == ("__debug__" : Str)) = false ∧ noStar e = true then
      some ⟨.call k xs, both (sem_call h.1 h.2.1 h.2.2.1 h.2.2.2.1 h.2.2.2.2.1 h.2.2.2.2.2 hxs) fun _ _ => rfl⟩ else none
  | _, _ => none

noncomputable def isGl (x : Str) : Option (PLift (sc.names.lookup x = some .globalImplicit)) := if h : sc.names.lookup x = some .globalImplicit then some ⟨h⟩ else none

noncomputable def call1 (f : Str) (np pos : Pos) (e : Expr) (a : Option { x : X // Both fname sc e x }) : Option { x : X // Both fname sc (.Call (.Name f np) [e] [] pos) x } :=
  match fid f with
  | some _ => userCall fname fid sc f np pos e [] (consL fname sc a (nilL fname sc))
  | none => match a, isGl sc f with
    | some ⟨x, hx⟩, some ⟨hg⟩ => if hs : noStar e = true then
        if h : f = ("len" : Str) then some ⟨.len x, by subst h; exact both (sem_len hg hs hx.1) fun _ _ => rfl⟩
        else if h : f = ("list" : Str) then some ⟨.listOf x, by subst h; exact both (sem_listOf hg hs hx.1) fun _ _ => rfl⟩
        else if h : f = ("str" : Str) then some ⟨.strOf x, by subst h; exact both (sem_strOf hg hs hx.1) fun _ _ => rfl⟩
        else if h : f = ("int" : Str) then some ⟨.intOf x, by subst h; exact both (sem_intOf hg hs hx.1) fun _ _ => rfl⟩
        else none
      else none
    | _, _ => none

noncomputable def cTy (x : Str) : Option { t : Ty // x = Str.ofString (tyName t) } :=
  if h : x = ("int" : Str) then some ⟨.int, h⟩ else if h : x = ("bool" : Str) then some ⟨.bool, h⟩ else if h : x = ("list" : Str) then some ⟨.list, h⟩
  else if h : x = ("tuple" : Str) then some ⟨.tuple, h⟩ else if h : x = ("str" : Str) then some ⟨.str, h⟩ else none

noncomputable def isiCall (f : Str) (np pos : Pos) (e e' : Expr) (a : Option { x : X // Both fname sc e x }) : Option { x : X // Both fname sc (.Call (.Name f np) [e, e'] [] pos) x } :=
  match a, isGl sc f with
  | some ⟨x, hx⟩, some ⟨hg⟩ => if hs : noStar e = true then
      if h : f = ("isinstance" : Str) then
        match e' with
        | .Name t tp => match cTy t, isGl sc t with
          | some ⟨ty, ht⟩, some ⟨hgt⟩ => some ⟨.isinst x ty, by subst h; subst ht; exact both (sem_isinst hg hgt hs hx.1) fun _ _ => rfl⟩
          | _, _ => none
        | _ => none
      else none
    else none
  | _, _ => none

noncomputable def call2 (f : Str) (np pos : Pos) (e e' : Expr) (a : Option { x : X // Both fname sc e x }) (b : Option { x : X // Both fname sc e' x }) : Option { x : X // Both fname sc (.Call (.Name f np) [e, e'] [] pos) x } :=
  match fid f with
  | some _ => userCall fname fid sc f np pos e [e'] (consL fname sc a (consL fname sc b (nilL fname sc)))
  | none => match isiCall fname sc f np pos e e' a with
    | some r => some r
    | none => match a, b, isGl sc f with
      | some ⟨x, hx⟩, some ⟨y, hy⟩, some ⟨hg⟩ => if hs : noStar e = true ∧ noStar e' = true then
          if h : f = Str.empty then none
          else none
        else none
      | _, _, _ => none

noncomputable def cIt : (e : Expr) → Option { x : X // Both fname sc e x }
  | .Name x pos => cName fname fid sc x pos
  | .Constant c k pos => match c with
    | .int i => some ⟨.int i, both sem_int fun _ _ => rfl⟩
    | _ => none
  | _ => none

noncomputable def cSplit (o : Expr) (nm : Str) (apos q pos : Pos) (kk : Nat) (c : Const) (a : Option { x : X // Both fname sc o x }) : Option { x : X // Both fname sc (.Call (.Attribute o nm apos) [.Constant c kk q] [] pos) x } :=
  match c, a with
  | .str m, some ⟨x, hx⟩ => if h : nm = ("split" : Str) ∧ m = ⟨#[46]⟩ ∧ plainO o = true ∧ (apos.endLine == pos.line) = true then some ⟨.split x, by
      obtain ⟨h1, h2, h3, h4⟩ := h; subst h1 h2; exact both (sem_split h3 h4 hx.1) fun _ _ => rfl⟩ else none
  | _, _ => none
noncomputable def cJoin (c : Const) (nm f f2 x x' : Str) (kc : Nat) (np xp ecp px rp cp pos' cq apos pos : Pos) (it : Expr) (scope : Scope) (a : Option { x : X // Both fname sc it x }) :
    Option { z : X // Both fname sc (.Call (.Attribute (.Constant c kc cq) nm apos) [.ListComp (.Call (.Name f np) [.Name x' xp] [] ecp) [⟨.Name x px, .Call (.Name f2 rp) [it] [] cp, [], 0⟩] scope pos'] [] pos) z } :=
  match c, a with
  | .str m, some ⟨y, hy⟩ => if h : nm = ("join" : Str) ∧ m = ⟨#[46]⟩ ∧ f = ("str" : Str) ∧ f2 = ("reversed" : Str) ∧ x' = x ∧ (apos.endLine == pos.line) = true ∧ sc.names.lookup ("reversed" : Str) = some .globalImplicit ∧ noStar it = true then
      if h2 : scope.kind = .function ∧ (∀ y ∈ scope.names, y.2 ≠ .cell) ∧ (∀ y ∈ scope.names, y.2 = .free → sc.names.lookup y.1 = some .cell) ∧ (∀ y ∈ scope.names, y.2 = .local → scope.names.lookup y.1 = some .local) ∧ scope.names.lookup x = some .local ∧ (x == ("__debug__" : Str)) = false ∧ scope.names.lookup ("str" : Str) = some .globalImplicit then
        some ⟨.joinS y, by
          obtain ⟨a1, a2, a3, a4, a5, a6, a7, a8⟩ := h
          obtain ⟨b1, b2, b3, b4, b5, b6, b7⟩ := h2
          subst a1 a2 a3 a4 a5
          exact both (sem_join a6 a7 a8 hy.1 b1 b2 b3 b4 b5 b6 b7) fun _ _ => rfl⟩
      else none
    else none
  | _, _ => none
mutual
noncomputable def cE : (e : Expr) → Option { x : X // Both fname sc e x }
  | .Constant c k pos => match c with
    | .int i => some ⟨.int i, both sem_int fun _ _ => rfl⟩
    | .bool b => some ⟨.bool b, both sem_bool fun _ _ => rfl⟩
    | .none => some ⟨.none, both sem_none fun _ _ => rfl⟩
    | .str s => if hz : s.cps.size ≤ sizeLine then some ⟨.str s, both (sem_str hz) fun _ _ => rfl⟩ else none
    | _ => none
  | .Name x pos => cName fname fid sc x pos
  | .BinOp l op r pos => match cE l, cE r, cOp op with
    | some ⟨a, ha⟩, some ⟨b, hb⟩, some ⟨o, ho⟩ => some ⟨.bin o a b, both (by subst ho; exact sem_bin ha.1 hb.1) fun _ _ => rfl⟩
    | _, _, _ => none
  | .UnaryOp .Not e pos => match cE e with
    | some ⟨a, ha⟩ => some ⟨.not a, sem_not ha.1, sem_not_t ha.2⟩
    | none => none
  | .UnaryOp .USub e pos => match cE e with
    | some ⟨a, ha⟩ => some ⟨.neg a, both (sem_neg ha.1) fun _ _ => rfl⟩
    | none => none
  | .BoolOp op es pos => match cBop op with
    | ⟨i, hi⟩ => match cB i es with
      | some ⟨xs, hxs⟩ => some ⟨bX i xs, by subst hi; exact ⟨sem_bool_op hxs.1, sem_bool_op_t hxs.2⟩⟩
      | none => none
  | .Compare l [.NotIn] [.Constant c k p] pos => match cE l, c with
    | some ⟨a, ha⟩, .str m => if hz : m.cps.size ≤ sizeLine then some ⟨.cmp .notin a (.str m), sem_cmp (op := .notin) ha.1 (sem_str hz) rfl, sem_cmp_t (op := .notin) ha.1 (sem_str hz) rfl⟩ else none
    | _, _ => none
  | .Compare l [op] [r] pos => match cE l, cE r, cCm op with
    | some ⟨a, ha⟩, some ⟨b, hb⟩, some ⟨o, ho⟩ => some ⟨.cmp o a b, by
        obtain ⟨h1, h2⟩ := ho; subst h1; exact ⟨sem_cmp ha.1 hb.1 (marks_false h2), sem_cmp_t ha.1 hb.1 (marks_false h2)⟩⟩
    | _, _, _ => none
  | .Compare l [op, op'] [r, r'] pos => match cE l, cE r, cE r', cCm op, cCm op' with
    | some ⟨a, ha⟩, some ⟨b, hb⟩, some ⟨c, hc⟩, some ⟨o, ho⟩, some ⟨o', ho'⟩ => some ⟨.cmp2 o o' a b c, by
        obtain ⟨h1, h2⟩ := ho; obtain ⟨h3, h4⟩ := ho'; subst h1; subst h3; exact ⟨sem_cmp2 ha.1 hb.1 hc.1 (marks_false h4), sem_cmp2_t ha.1 hb.1 hc.1 (marks_false h4)⟩⟩
    | _, _, _, _, _ => none
  | .IfExp t b o pos => match cE t, cE b, cE o with
    | some ⟨x, hx⟩, some ⟨y, hy⟩, some ⟨z, hz⟩ => some ⟨.ite x y z, sem_ite hx.2 hy.1 hz.1, sem_ite_t hx.2 hy.2 hz.2⟩
    | _, _, _ => none
  | .Call (.Name f np) [e] [] pos => call1 fname fid sc f np pos e (cE e)
  | .Call (.Name f np) [e, e'] [] pos => call2 fname fid sc f np pos e e' (cE e) (cE e')
  | .Call (.Name f np) [e, e', e''] [] pos => userCall fname fid sc f np pos e [e', e''] (consL fname sc (cE e) (consL fname sc (cE e') (consL fname sc (cE e'') (nilL fname sc))))
  | .Call (.Name f np) [e, e', e'', e₄] [] pos => userCall fname fid sc f np pos e [e', e'', e₄] (consL fname sc (cE e) (consL fname sc (cE e') (consL fname sc (cE e'') (consL fname sc (cE e₄) (nilL fname sc)))))
  | .Call (.Name f np) [e, e', e'', e₄, e₅] [] pos => userCall fname fid sc f np pos e [e', e'', e₄, e₅] (consL fname sc (cE e) (consL fname sc (cE e') (consL fname sc (cE e'') (consL fname sc (cE e₄) (consL fname sc (cE e₅) (nilL fname sc))))))
  | .Call (.Attribute (.Constant c kc cq) nm apos) [.ListComp (.Call (.Name f np) [.Name x' xp] [] ecp) [⟨.Name x px, .Call (.Name f2 rp) [it] [] cp, [], 0⟩] scope pos'] [] pos => cJoin fname sc c nm f f2 x x' kc np xp ecp px rp cp pos' cq apos pos it scope (cIt fname fid sc it)
  | .Call (.Attribute o nm apos) [.Constant c kk q] [] pos => cSplit fname sc o nm apos q pos kk c (cIt fname fid sc o)
  | .Subscript e (.Slice none (some i) none p) pos => match cE e, cE i with
    | some ⟨a, ha⟩, some ⟨k, hk⟩ => some ⟨.upto a k, both (sem_upto ha.1 hk.1) fun _ _ => rfl⟩
    | _, _ => none
  | .Subscript e (.Slice (some i) none none p) pos => match cE e, cE i with
    | some ⟨a, ha⟩, some ⟨k, hk⟩ => some ⟨.from a k, both (sem_from ha.1 hk.1) fun _ _ => rfl⟩
    | _, _ => none
  | .Subscript e i pos => if hi : noSlice i = true then match cE e, cE i with
      | some ⟨a, ha⟩, some ⟨k, hk⟩ => some ⟨.idx a k, both (sem_idx hi ha.1 hk.1) fun _ _ => rfl⟩
      | _, _ => none
    else none
  | .List es pos => match cL es with
    | some ⟨xs, hxs⟩ => some ⟨.list xs, both (sem_list hxs) fun _ _ => rfl⟩
    | none => none
  | .Tuple es k pos => match cL es with
    | some ⟨xs, hxs⟩ => some ⟨.tup xs, both (sem_tup hxs) fun _ _ => rfl⟩
    | none => none
  | _ => none
noncomputable def cL : (es : List Expr) → Option { xs : Xs // SemL fname sc es xs }
  | [] => nilL fname sc
  | e :: es => consL fname sc (cE e) (cL es)
noncomputable def cB : (i : Bool) → (es : List Expr) → Option { xs : Xs // SemB fname i sc es xs ∧ SemBT fname i sc es xs }
  | _, [] => none
  | i, e :: es => match cE e with
    | none => none
    | some ⟨x, hx⟩ => match es with
      | [] => some ⟨.cons x .nil, sem_b1 hx.1, sem_bt1 hx.2⟩
      | e' :: es' => match cB i (e' :: es') with
        | some ⟨.cons y ys, hys⟩ => some ⟨.cons x (.cons y ys), sem_b2 hx.1 hys.1, sem_bt2 hx.2 hys.2⟩
        | _ => none
end
end
end Mine
set_option Elab.async false
set_option maxRecDepth 100000
set_option linter.unusedVariables false
namespace Mine
open PySem PySem.Calls PyProof.Rows

section
variable (fname : Nat → Str) (fid : Str → Option Nat) (sc : Scope)

noncomputable def forCall (f x : Str) (p np cp pos : Pos) (it : Expr) (a : Option { x : X // Both fname sc it x }) (body : List Stmt) (b : Option { y : Ss // SemSs fname sc body y }) :
    Option { z : S // SemS fname sc (.For (.Name x p) (.Call (.Name f np) [it] [] cp) body [] pos) z } :=
  match slotOf sc x, heldOf sc x, isGl sc f, a, b with
  | some ⟨i, hi⟩, some ⟨hk⟩, some ⟨hg⟩, some ⟨e, he⟩, some ⟨y, hy⟩ => if hs : noStar it = true then
      if h : f = Str.empty then none
      else if h : f = ("range" : Str) then some ⟨.loop i (.range e) y, by subst h; exact sem_for_range hi hk hg hs he.1 hy⟩
      else none
    else none
  | _, _, _, _, _ => none

noncomputable def forItems (x : Str) (p pos : Pos) (it : Expr) (a : Option { x : X // Both fname sc it x }) (body : List Stmt) (b : Option { y : Ss // SemSs fname sc body y }) :
    Option { z : S // SemS fname sc (.For (.Name x p) it body [] pos) z } :=
  match slotOf sc x, heldOf sc x, a, b with
  | some ⟨i, hi⟩, some ⟨hk⟩, some ⟨e, he⟩, some ⟨y, hy⟩ => if hs : noSet it = true then some ⟨.loop i (.items e) y, sem_for_items hi hk hs he.1 hy⟩ else none
  | _, _, _, _ => none

noncomputable def cAssign (x : Str) (p pos : Pos) (e : Expr) (a : Option { x : X // Both fname sc e x }) : Option { z : S // SemS fname sc (.Assign [.Name x p] e pos) z } :=
  match slotOf sc x, heldOf sc x, a with
  | some ⟨i, hi⟩, some ⟨hk⟩, some ⟨y, hy⟩ => if hn : noComp e = true then some ⟨.assign i y, sem_assign hi hk hn hy.1⟩ else none
  | _, _, _ => none

noncomputable def cPair (x y : Str) (px py tp vp pos : Pos) (k k' : Nat) (ea eb : Expr) (a : Option { x : X // Both fname sc ea x }) (b : Option { x : X // Both fname sc eb x }) :
    Option { z : S // SemS fname sc (.Assign [.Tuple [.Name x px, .Name y py] k tp] (.Tuple [ea, eb] k' vp) pos) z } :=
  match slotOf sc x, slotOf sc y, a, b with
  | some ⟨i, hi⟩, some ⟨j, hj⟩, some ⟨u, hu⟩, some ⟨w, hw⟩ =>
    if h : i ≠ j ∧ sc.names.lookup x = some .local ∧ sc.names.lookup y = some .local ∧ (py.line == px.line) = true ∧ x ≠ y ∧ noStar ea = true ∧ noStar eb = true ∧ ([ea, eb].all (foldedForSure 8)) = false ∧ ([ea, eb].all (constantsAlone 8)) = false then
      some ⟨.pair i j u w, sem_pair h.1 hi hj h.2.1 h.2.2.1 h.2.2.2.1 h.2.2.2.2.1 h.2.2.2.2.2.1 h.2.2.2.2.2.2.1 h.2.2.2.2.2.2.2.1 h.2.2.2.2.2.2.2.2 hu.1 hw.1⟩
    else if h : sc.names.lookup x = some .cell ∧ (sc.names.lookup y = some .local ∨ sc.names.lookup y = some .cell) ∧ noStar ea = true ∧ noStar eb = true then some ⟨.pairF i j u w, sem_pairF hi hj h.1 h.2.1 h.2.2.1 h.2.2.2 hu.1 hw.1⟩
    else none
  | _, _, _, _ => none

noncomputable def cAppend (x nm : Str) (p apos pos epos : Pos) (e : Expr) (a : Option { x : X // Both fname sc e x }) : Option { z : S // SemS fname sc (.Expr (.Call (.Attribute (.Name x p) nm apos) [e] [] pos) epos) z } :=
  match slotOf sc x, a with
  | some ⟨i, hi⟩, some ⟨y, hy⟩ =>
    if h : nm = ("append" : Str) ∧ (x == ("__debug__" : Str)) = false ∧ (apos.endLine == pos.line) = true ∧ noStar e = true then some ⟨.append i y, by rw [h.1]; exact sem_append hi h.2.1 h.2.2.1 h.2.2.2 hy.1⟩ else none
  | _, _ => none

noncomputable def cReverse (x nm : Str) (p apos pos epos : Pos) : Option { z : S // SemS fname sc (.Expr (.Call (.Attribute (.Name x p) nm apos) [] [] pos) epos) z } :=
  match slotOf sc x with
  | some ⟨i, hi⟩ =>
    if h : nm = ("reverse" : Str) ∧ (x == ("__debug__" : Str)) = false ∧ (apos.endLine == pos.line) = true then some ⟨.reverse i, by rw [h.1]; exact sem_reverse hi h.2.1 h.2.2⟩ else none
  | none => none

noncomputable def cCompCall (fn x x' y yb : Str) (px np cp pos p1 xp py spos : Pos) (it : Expr) (scope : Scope) (a : Option { x : X // Both fname sc it x }) :
    Option { z : S // SemX fname sc (.Assign [.Name y py] (.ListComp (.Call (.Name fn np) [.Name yb p1, .Name x' xp] [] cp) [⟨.Name x px, it, [], 0⟩] scope pos) spos) z ∧ SemS fname sc (.Assign [.Name y py] (.ListComp (.Call (.Name fn np) [.Name yb p1, .Name x' xp] [] cp) [⟨.Name x px, it, [], 0⟩] scope pos) spos) z } :=
  match slotOf sc yb, slotOf sc y, fid fn, a with
  | some ⟨j, hj⟩, some ⟨i, hi⟩, some f, some ⟨e, he⟩ =>
    if h : x' = x ∧ noSet it = true ∧ fname f = fn ∧ f < 500 ∧ fn ≠ Str.empty ∧ (fn == ("__debug__" : Str)) = false ∧ scope.names.lookup fn = some .globalImplicit ∧ scope.names.lookup yb = some .free ∧ sc.names.lookup yb = some .cell ∧ (yb == ("__debug__" : Str)) = false ∧ (x == ("__debug__" : Str)) = false then
      if h2 : scope.kind = .function ∧ (∀ y ∈ scope.names, y.2 ≠ .cell) ∧ (∀ y ∈ scope.names, y.2 = .free → sc.names.lookup y.1 = some .cell) ∧ (∀ y ∈ scope.names, y.2 = .local → scope.names.lookup y.1 = some .local) ∧ scope.names.lookup x = some .local then
        if h3 : sc.names.lookup y = some .local ∧ (py.line == pos.line) = true ∧ (scope.names.any fun p => p.1 == y && (p.2 == .local || p.2 == .cell)) = false then
          some ⟨.compCall i f j e, by
            obtain ⟨a1, a2, a3, a4, a5, a6, a7, a8, a9, a10, a11⟩ := h
            obtain ⟨b1, b2, b3, b4, b5⟩ := h2
            obtain ⟨c1, c2, c3⟩ := h3
            subst a1
            have q := sx_comp (px := px) (np := np) (cp := cp) (p1 := p1) (xp := xp) (spos := spos) he.1 (fun env v => folded_no a2 env v) b1 b2 b3 b4 b5 a11 a7 a3 a4 a5 a6 hj a8 a9 a10 hi c1 c2 c3
            exact ⟨q, sem_compCall q⟩⟩
        else none
      else none
    else none
  | _, _, _, _ => none
noncomputable def cHn (en cn : Str) : (e : Expr) → Option (PLift (SemHP fname sc en cn (fun _ => True) e))
  | .Call (.Name f ip) [.Name en' q1, .Name c2 q2] [] icp => if h : f = ("isinstance" : Str) ∧ en' = en ∧ sc.names.lookup ("isinstance" : Str) = some .globalImplicit ∧ sc.names.lookup c2 = some .globalImplicit ∧ (en == ("__debug__" : Str)) = false ∧ (c2 == ("__debug__" : Str)) = false then
      if hv : c2 = ("ValueError" : Str) then some ⟨by obtain ⟨a1, a2, a3, a4, a5, a6⟩ := h; subst a1 a2 hv; exact h_isi_val a3 a4 a5⟩
      else if hc : c2 = cn ∨ c2 = ("RowError" : Str) then some ⟨by obtain ⟨a1, a2, a3, a4, a5, a6⟩ := h; subst a1 a2; exact h_isi_cls a3 a4 a5 a6 hc⟩
      else none
    else none
  | _ => none
noncomputable def cHands (en cn : Str) : (e : Expr) → Option (PLift (SemHP fname sc en cn (fun _ => True) e))
  | .BoolOp op [e1, e2] pos => match op with
    | .And => match cHn fname sc en cn e1, cHn fname sc en cn e2 with
      | some ⟨h1⟩, some ⟨h2⟩ => some ⟨h_and (h_more h1 (h_one h2))⟩
      | _, _ => none
    | .Or => none
  | _ => none
noncomputable def cTryN (fn en rn : Str) (np cp ep rp rpos hp pos : Pos) (c : Nat) (e e' he : Expr) (l : Option { xs : Xs // SemL fname sc [e, e'] xs }) :
    Option { z : S // SemS fname sc (.Try [.Expr (.Call (.Name fn np) [e, e'] [] cp) ep] [.ExceptHandler (some (.Name rn rp)) (some en) [.Return (some he) rpos] hp] [] [] pos) z } :=
  match slotOf sc en, fid fn, l, cHands fname sc en (fname c) he with
  | some ⟨j, hj⟩, some f, some ⟨xs, hxs⟩, some ⟨hH⟩ =>
    if h : sc.names.lookup en = some .local ∧ sc.names.lookup fn = some .globalImplicit ∧ fname f = fn ∧ f < 500 ∧ fn ≠ Str.empty ∧ (fn == ("__debug__" : Str)) = false ∧ noStar e = true ∧ sc.names.lookup rn = some .globalImplicit ∧ (rn == ("__debug__" : Str)) = false ∧ rn = ("RowError" : Str) then
      some ⟨.tryN f xs c j, by
        obtain ⟨a1, a2, a3, a4, a5, a6, a7, a8, a9, a10⟩ := h
        exact sem_tryN hj a1 a2 a3 a4 a5 a6 a7 hxs rfl a8 a9 a10 hH⟩
    else none
  | _, _, _, _ => none
mutual
noncomputable def cS : (st : Stmt) → Option { z : S // SemS fname sc st z }
  | .Assign [.Name y py] (.ListComp (.Call (.Name fn np) [.Name yb p1, .Name x' xp] [] cp) [⟨.Name x px, it, [], 0⟩] scope pos) spos => match cCompCall fname fid sc fn x x' y yb px np cp pos p1 xp py spos it scope (cE fname fid sc it) with
    | some ⟨z, hz⟩ => some ⟨z, hz.2⟩
    | none => none
  | .Assign [.Name x p] e pos => cAssign fname sc x p pos e (cE fname fid sc e)
  | .Assign [.Tuple [.Name x px, .Name y py] k tp] (.Tuple [ea, eb] k' vp) pos => cPair fname sc x y px py tp vp pos k k' ea eb (cE fname fid sc ea) (cE fname fid sc eb)
  | .Expr (.Call (.Attribute (.Name x p) nm apos) [e] [] pos) epos => cAppend fname sc x nm p apos pos epos e (cE fname fid sc e)
  | .Expr (.Call (.Attribute (.Name x p) nm apos) [] [] pos) epos => cReverse fname sc x nm p apos pos epos
  | .Expr e pos => if hn : noComp e = true then match cE fname fid sc e with
      | some ⟨y, hy⟩ => some ⟨.expr y, sem_expr hn hy.1⟩
      | none => none
    else none
  | .If t b o pos => match cE fname fid sc t, cSs b, cSs o with
    | some ⟨x, hx⟩, some ⟨y, hy⟩, some ⟨z, hz⟩ => some ⟨.ite x y z, sem_if hx.2 hy hz⟩
    | _, _, _ => none
  | .Return (some e) pos => match cE fname fid sc e with
    | some ⟨x, hx⟩ => some ⟨.ret x, sem_ret hx.1⟩
    | none => none
  | .While t b [] pos => match cE fname fid sc t, cSs b with
    | some ⟨x, hx⟩, some ⟨y, hy⟩ => some ⟨.whil x y, sem_while hx.2 hy⟩
    | _, _ => none
  | .For (.Name x p) (.Call (.Name f np) [it] [] cp) b [] pos => forCall fname sc f x p np cp pos it (cE fname fid sc it) b (cSs b)
  | .For (.Name x p) it b [] pos => forItems fname sc x p pos it (cE fname fid sc it) b (cSs b)
  | .Try [.Expr (.Call (.Name fn np) [e, e'] [] cp) ep] [.ExceptHandler (some (.Name rn rp)) (some en) [.Return (some he) rpos] hp] [] [] pos =>
    cTryN fname fid sc fn en rn np cp ep rp rpos hp pos 2003 e e' he (consL fname sc (cE fname fid sc e) (consL fname sc (cE fname fid sc e') (nilL fname sc)))
  | .Raise .. => some ⟨.never, sem_never⟩
  | _ => none
noncomputable def cSs : (st : List Stmt) → Option { z : Ss // SemSs fname sc st z }
  | [] => some ⟨.nil, sem_snil⟩
  | st :: r => match cS st, cSs r with
    | some ⟨x, hx⟩, some ⟨y, hy⟩ => some ⟨.cons x y, sem_scons hx hy⟩
    | _, _ => none
end

noncomputable def plainE (e : Expr) (a : Option { x : X // Both fname sc e x }) : Option { x : X // Both fname sc e x ∧ SemXE fname sc e x ∧ SemXT fname sc e x } :=
  match a with
  | some ⟨x, hx⟩ => if h : noX x = true then some ⟨x, hx, xe_no h, xt_no h⟩ else none
  | none => none
noncomputable def userCallX (f : Str) (np pos : Pos) (e : Expr) (es : List Expr) (l : Option { xs : Xs // SemL fname sc (e :: es) xs }) : Option { x : X // Both fname sc (.Call (.Name f np) (e :: es) [] pos) x ∧ SemXE fname sc (.Call (.Name f np) (e :: es) [] pos) x ∧ SemXT fname sc (.Call (.Name f np) (e :: es) [] pos) x } :=
  match fid f, l with
  | some k, some ⟨xs, hxs⟩ =>
    if h : sc.names.lookup f = some .globalImplicit ∧ fname k = f ∧ k < 500 ∧ f ≠ Str.empty ∧ (f == ("__debug__" : Str)) = false ∧ noStar e = true then
      some ⟨.call k xs, both (sem_call h.1 h.2.1 h.2.2.1 h.2.2.2.1 h.2.2.2.2.1 h.2.2.2.2.2 hxs) (fun _ _ => rfl), call_flies h.1 h.2.1 h.2.2.1 h.2.2.2.1 h.2.2.2.2.1 h.2.2.2.2.2 hxs, xt_of (call_flies h.1 h.2.1 h.2.2.1 h.2.2.2.1 h.2.2.2.2.1 h.2.2.2.2.2 hxs) fun _ _ => rfl⟩ else none
  | _, _ => none
noncomputable def cXe : (e : Expr) → Option { x : X // Both fname sc e x ∧ SemXE fname sc e x ∧ SemXT fname sc e x }
  | .UnaryOp .Not e pos => match cXe e with
    | some ⟨x, hx⟩ => some ⟨.not x, ⟨sem_not hx.1.1, sem_not_t hx.1.2⟩, xe_not hx.2.1, xt_not hx.2.2⟩
    | none => none
  | .Call (.Name f np) (e :: es) [] pos => match fid f with
    | some _ => userCallX fname fid sc f np pos e es (cL fname fid sc (e :: es))
    | none => plainE fname sc _ (cE fname fid sc (.Call (.Name f np) (e :: es) [] pos))
  | e => plainE fname sc e (cE fname fid sc e)
noncomputable def plainSt (st : Stmt) (a : Option { z : S // SemS fname sc st z }) : Option { z : S // SemX fname sc st z } :=
  match a with
  | some ⟨x, hx⟩ => if h : plainX x = true then some ⟨x, sx_plain h hx⟩ else none
  | none => none
noncomputable def cRaiseY (x : Str) (np p cpos pos : Pos) (c : Const) (k : Nat) : Option { z : S // SemX fname sc (.Raise (some (.Call (.Name x np) [.Constant c k p] [] cpos)) none pos) z } :=
  match c, fid x with
  | .str m, some c => if h : sc.names.lookup x = some .globalImplicit ∧ fname c = x ∧ (x == ("__debug__" : Str)) = false ∧ m.cps.size ≤ sizeLine then some ⟨.raise c, sx_raise h.1 h.2.1 h.2.2.1 h.2.2.2⟩ else none
  | _, _ => none
noncomputable def cForY (x : Str) (p pos : Pos) (it : Expr) (a : Option { x : X // Both fname sc it x }) (body : List Stmt) (b : Option { y : Ss // SemYs fname sc body y }) :
    Option { z : S // SemX fname sc (.For (.Name x p) it body [] pos) z } :=
  match slotOf sc x, heldOf sc x, a, b with
  | some ⟨i, hi⟩, some ⟨hk⟩, some ⟨e, he⟩, some ⟨y, hy⟩ => if hs : noSet it = true then some ⟨.loop i (.items e) y, sx_for hi hk hs he.1 hy⟩ else none
  | _, _, _, _ => none
mutual
noncomputable def cY : (st : Stmt) → Option { z : S // SemX fname sc st z }
  | .Raise (some (.Call (.Name x np) [.Constant c k p] [] cpos)) none pos => cRaiseY fname fid sc x np p cpos pos c k
  | .If t b o pos => match cXe fname fid sc t, cYs b, cYs o with
    | some ⟨x, hx⟩, some ⟨y, hy⟩, some ⟨z, hz⟩ => some ⟨.ite x y z, sx_if hx.1.2 hx.2.2 hy hz⟩
    | _, _, _ => none
  | .Expr (.Call (.Name f np) (e :: es) [] cp) pos => match cXe fname fid sc (.Call (.Name f np) (e :: es) [] cp) with
    | some ⟨x, hx⟩ => some ⟨.expr x, sx_expr rfl hx.1.1 hx.2.1⟩
    | none => none
  | .Return (some e) pos => match cXe fname fid sc e with
    | some ⟨x, hx⟩ => some ⟨.ret x, sx_ret hx.1.1 hx.2.1⟩
    | none => none
  | .For (.Name x p) it b [] pos => cForY fname sc x p pos it (cE fname fid sc it) b (cYs b)
  | .Assign [.Name y py] (.ListComp (.Call (.Name fn np) [.Name yb p1, .Name x' xp] [] cp) [⟨.Name x px, it, [], 0⟩] scope pos) spos => match cCompCall fname fid sc fn x x' y yb px np cp pos p1 xp py spos it scope (cE fname fid sc it) with
    | some ⟨z, hz⟩ => some ⟨z, hz.1⟩
    | none => none
  | .Assign t e pos => plainSt fname sc _ (cS fname fid sc (.Assign t e pos))
  | .Expr e pos => plainSt fname sc _ (cS fname fid sc (.Expr e pos))
  | _ => none
noncomputable def cYs : (st : List Stmt) → Option { z : Ss // SemYs fname sc st z }
  | [] => some ⟨.nil, sy_nil⟩
  | st :: r => match cY st, cYs r with
    | some ⟨x, hx⟩, some ⟨y, hy⟩ => some ⟨.cons x y, sy_cons hx hy⟩
    | _, _ => some ⟨.cons .never .nil, sy_never⟩
end

end
end Mine
set_option Elab.async false
set_option maxRecDepth 100000
set_option linter.unusedVariables false
namespace Mine
open PySem PySem.Calls PyProof.Rows

theorem filterMap_zip (tab : List (Str × Value)) : ∀ (ns : List Str) (vs : List Value), ns.length = vs.length → (∀ p ∈ ns.zip vs, tab.lookup p.1 = some p.2) → ns.filterMap (fun n => (tab.lookup n).map (n, ·)) = ns.zip vs
  | [], [], _, _ => rfl
  | [], _ :: _, h, _ => nomatch h
  | _ :: _, [], h, _ => nomatch h
  | n :: ns, v :: vs, h, hp => by
    rw [List.filterMap_cons, hp (n, v) (.head _), List.zip_cons_cons]
    simp only [Option.map_some]
    rw [filterMap_zip tab ns vs (by simpa using h) fun p hq => hp p (.tail _ hq)]
theorem filter_zip (tab : List (Str × Value)) : ∀ (ns : List Str) (vs : List Value), ns.length = vs.length → (∀ p ∈ ns.zip vs, tab.lookup p.1 = some p.2) → ns.filter (fun n => (tab.lookup n).isNone) = []
  | [], [], _, _ => rfl
  | [], _ :: _, h, _ => nomatch h
  | _ :: _, [], h, _ => nomatch h
  | n :: ns, v :: vs, h, hp => by
    rw [List.filter_cons, hp (n, v) (.head _)]
    exact filter_zip tab ns vs (by simpa using h) fun p hq => hp p (.tail _ hq)
theorem lookup_mem : ∀ (l : List (Str × Value)) (x : Str) (v : Value), (l.map (·.1)).Nodup → (x, v) ∈ l → l.lookup x = some v
  | [], _, _, _, h => nomatch h
  | p :: r, x, v, nd, hm => by
    simp only [List.map_cons, List.nodup_cons] at nd
    rw [List.lookup_cons]
    rcases List.mem_cons.mp hm with rfl | hm
    · simp
    · have hne : (x == p.1) = false := by
        rw [beq_eq_false_iff_ne]; rintro rfl
        exact nd.1 (List.mem_map.mpr ⟨_, hm, rfl⟩)
      simp only [hne]
      exact lookup_mem r x v nd.2 hm

theorem bind_plain {name : Str} {args : List Arg} {stmts : List Stmt} {sc : Scope} {pm cd doc : Value} (nd : (args.map (·.arg)).Nodup) {vs : List Value} (h : vs.length = args.length) :
    bindArgs (docDef name { posonlyargs := [], args := args, vararg := none, kwonlyargs := [], kw_defaults := [], kwarg := none, defaults := [] } stmts sc pm cd doc) ⟨vs, []⟩ = pure ((args.map (·.arg)).zip vs) := by
  have hl : (args.map (·.arg)).length = vs.length := by simp [h]
  have hz : ∀ p ∈ (args.map (·.arg)).zip vs, ((args.map (·.arg)).zip vs).lookup p.1 = some p.2 := fun p hp =>
    lookup_mem _ _ _ (by rw [List.map_fst_zip (by omega)]; exact nd) hp
  have e1 := filterMap_zip _ _ _ hl hz
  have e2 := filter_zip _ _ _ hl hz
  have hs : seqItems? Value.none = pure none := rfl
  have hg : (vs.length > (args.map (·.arg)).length) = False := by simp [hl]
  unfold bindArgs
  simp only [docDef, List.map_nil, List.nil_append, List.append_nil, List.forIn_nil, pure_bind, hs, hg, decide_false, Bool.false_and, Bool.false_eq_true, if_false, Option.getD_none, List.length_nil, Nat.sub_zero, Array.toList_empty, List.drop_nil, List.take_length, e2, List.isEmpty_nil, Bool.not_true, List.zip_nil_right, e1]

noncomputable def fnameOf (names : List (Nat × Str)) (f : Nat) : Str := (names.lookup f).getD Str.empty
noncomputable def fidOf (names : List (Nat × Str)) (x : Str) : Option Nat := (names.find? (·.2 == x)).map (·.1)

noncomputable def FnGood (d : DefRec) : Prop := (d.params.posonlyargs = [] ∧ d.params.vararg = none ∧ d.params.kwonlyargs = [] ∧ d.params.kw_defaults = [] ∧ d.params.kwarg = none ∧ d.params.defaults = []) ∧
  (d.scope.isGenerator = false ∧ d.scope.isCoroutine = false ∧ d.scope.kind = .function) ∧ (((cellsFrom 0 d.scope.names []).map (·.1)).Nodup ∧ ∀ x, d.scope.names.lookup x = some .cell → x ∈ (cellsFrom 0 d.scope.names []).map (·.1)) ∧ (slots d.scope).Nodup ∧ d.params.args.length ≤ (slots d.scope).length ∧
  (slots d.scope).take d.params.args.length = d.params.args.map (·.arg) ∧ ∀ x ∈ (slots d.scope).take d.params.args.length, d.scope.names.lookup x = some .local ∨ d.scope.names.lookup x = some .cell

noncomputable def nil? {α : Type} : List α → Bool
  | [] => true
  | _ => false
noncomputable def nodup? : List Str → Bool
  | [] => true
  | x :: xs => !xs.contains x && nodup? xs
noncomputable def fnGood (d : DefRec) : Bool := (nil? d.params.posonlyargs && d.params.vararg.isNone && nil? d.params.kwonlyargs && nil? d.params.kw_defaults && d.params.kwarg.isNone && nil? d.params.defaults) &&
  (!d.scope.isGenerator && !d.scope.isCoroutine && (match d.scope.kind with | .function => true | _ => false)) && (nodup? ((cellsFrom 0 d.scope.names []).map (·.1)) && (d.scope.names.all fun x => match x.2 with | .cell => ((cellsFrom 0 d.scope.names []).map (·.1)).contains x.1 | _ => true)) && nodup? (slots d.scope) &&
  decide (d.params.args.length ≤ (slots d.scope).length) && ((slots d.scope).take d.params.args.length == d.params.args.map (·.arg)) && (((slots d.scope).take d.params.args.length).all fun x => match d.scope.names.lookup x with | some .local => true | some .cell => true | _ => false)

theorem nil?_eq {α : Type} {l : List α} (h : nil? l = true) : l = [] := by cases l; rfl; cases h
theorem nodup?_of : ∀ {l : List Str}, nodup? l = true → l.Nodup
  | [], _ => List.nodup_nil
  | x :: xs, h => by
    simp only [nodup?, Bool.and_eq_true, Bool.not_eq_true', List.contains_eq_mem, decide_eq_false_iff_not] at h
    exact List.nodup_cons.mpr ⟨h.1, nodup?_of h.2⟩
theorem fnGood_of {d : DefRec} (h : fnGood d = true) : FnGood d := by
  simp only [fnGood, Bool.and_eq_true, Option.isNone_iff_eq_none, Bool.not_eq_true', List.all_eq_true, decide_eq_true_eq, beq_iff_eq] at h
  obtain ⟨⟨⟨⟨⟨⟨⟨⟨⟨⟨⟨a1, a2⟩, a3⟩, a4⟩, a5⟩, a6⟩, ⟨b1, b2⟩, b3⟩, c0, c⟩, e⟩, f⟩, k⟩, l⟩ := h
  refine ⟨⟨nil?_eq a1, a2, nil?_eq a3, nil?_eq a4, a5, nil?_eq a6⟩, ⟨b1, b2, ?_⟩, ⟨nodup?_of c0, ?_⟩, nodup?_of e, f, k, ?_⟩
  · split at b3
    · assumption
    · cases b3
  · intro x hx
    have hm : ∀ l : List (Str × NameKind), l.lookup x = some .cell → (x, NameKind.cell) ∈ l := by
      intro l
      induction l with
      | nil => intro q; cases q
      | cons p l ih =>
        intro q
        rw [List.lookup_cons] at q
        by_cases hq : (x == p.1) = true
        · simp only [hq, Option.some.injEq] at q; rw [eq_of_beq hq, ← q]; exact .head _
        · simp only [hq] at q; exact .tail _ (ih q)
    have := c _ (hm _ hx)
    simp only [List.contains_eq_mem, decide_eq_true_eq] at this
    exact this
  · intro x hx
    have := l x hx
    split at this
    · exact .inl ‹_›
    · exact .inr ‹_›
    · cases this

noncomputable def compFn (names : List (Nat × Str)) (view : Program) (f : Nat) : Option (Nat × Nat × Ss) :=
  match (recsOf view).find? (fun d => d.name == fnameOf names f) with
  | none => none
  | some d => if fnGood d = true then (cSs (fnameOf names) (fidOf names) d.scope d.body).map fun y => (d.params.args.length, (slots d.scope).length, y.1) else none

theorem params_eq {P : Arguments} (a1 : P.posonlyargs = []) (a2 : P.vararg = none) (a3 : P.kwonlyargs = []) (a4 : P.kw_defaults = []) (a5 : P.kwarg = none) (a6 : P.defaults = []) :
    P = { posonlyargs := [], args := P.args, vararg := none, kwonlyargs := [], kw_defaults := [], kwarg := none, defaults := [] } := by
  cases P; simp only at *; subst a1 a2 a3 a4 a5 a6; rfl
theorem fn_of_top {names : List (Nat × Str)} {view : Program} {loose : List Str} {mean : ExcName → Option Value} {g : Gx} (T : Top view loose mean g.mg g.mb g.base) {f k m : Nat} {body : Ss} (h : compFn names view f = some (k, m, body)) :
    FnIs (fnameOf names) g f k m body := by
  unfold compFn at h
  cases hf : (recsOf view).find? (fun d => d.name == fnameOf names f) with
  | none => rw [hf] at h; cases h
  | some d =>
    rw [hf] at h
    simp only [] at h
    split at h
    · rename_i hg
      obtain ⟨y, hy, e⟩ := Option.map_eq_some_iff.mp h
      cases e
      have hm := List.mem_of_find?_eq_some hf
      have hn : d.name = fnameOf names f := beq_iff_eq.mp (List.find?_some (p := fun d : DefRec => d.name == fnameOf names f) hf)
      obtain ⟨a, o, pm, cd, doc, h1, h2, h3, h4⟩ := T.fn d hm
      obtain ⟨⟨a1, a2, a3, a4, a5, a6⟩, b, c, e1, e2, e3, e4⟩ := fnGood_of hg
      refine ⟨a, d.name, d.params, d.body, d.scope, pm, cd, doc, o, hn ▸ h1, h2, h3, h4, y.2, b, c, ⟨e1, rfl, e2, e3⟩, e4, ?_⟩
      intro vs hv
      have ep : d.params = { posonlyargs := [], args := d.params.args, vararg := none, kwonlyargs := [], kw_defaults := [], kwarg := none, defaults := [] } := by
        exact params_eq a1 a2 a3 a4 a5 a6
      have hnd : (d.params.args.map (·.arg)).Nodup := by rw [← e3]; exact e1.sublist (List.take_sublist _ _)
      have := bind_plain (name := d.name) (stmts := d.body) (sc := d.scope) (pm := pm) (cd := cd) (doc := doc) hnd hv
      rw [← ep] at this
      exact this
    · cases h

noncomputable def compY (names : List (Nat × Str)) (view : Program) (f : Nat) : Option Ss :=
  match (recsOf view).find? (fun d => d.name == fnameOf names f) with
  | none => none
  | some d => (cYs (fnameOf names) (fidOf names) d.scope d.body).map (·.1)
theorem fny_of_top {names : List (Nat × Str)} {view : Program} {loose : List Str} {mean : ExcName → Option Value} {g : Gx} (T : Top view loose mean g.mg g.mb g.base) {f k m : Nat} {body xb : Ss} (h : compFn names view f = some (k, m, body)) (hx : compY names view f = some xb) :
    ∃ fa name params stmts sc pm cd doc o, FnAt (fnameOf names) g f k m body fa name params stmts sc pm cd doc o ∧ SemYs (fnameOf names) sc stmts xb := by
  unfold compFn at h
  unfold compY at hx
  cases hf : (recsOf view).find? (fun d => d.name == fnameOf names f) with
  | none => rw [hf] at h; cases h
  | some d =>
    rw [hf] at h hx
    simp only [] at h hx
    split at h
    · rename_i hg
      obtain ⟨y, hy, e⟩ := Option.map_eq_some_iff.mp h
      cases e
      obtain ⟨z, hz, e⟩ := Option.map_eq_some_iff.mp hx
      cases e
      have hm := List.mem_of_find?_eq_some hf
      have hn : d.name = fnameOf names f := beq_iff_eq.mp (List.find?_some (p := fun d : DefRec => d.name == fnameOf names f) hf)
      obtain ⟨a, o, pm, cd, doc, h1, h2, h3, h4⟩ := T.fn d hm
      obtain ⟨⟨a1, a2, a3, a4, a5, a6⟩, b, c, e1, e2, e3, e4⟩ := fnGood_of hg
      refine ⟨a, d.name, d.params, d.body, d.scope, pm, cd, doc, o, ⟨hn ▸ h1, h2, h3, h4, y.2, b, c, ⟨e1, rfl, e2, e3⟩, e4, ?_⟩, z.2⟩
      intro vs hv
      have ep : d.params = { posonlyargs := [], args := d.params.args, vararg := none, kwonlyargs := [], kw_defaults := [], kwarg := none, defaults := [] } := by
        exact params_eq a1 a2 a3 a4 a5 a6
      have hnd : (d.params.args.map (·.arg)).Nodup := by rw [← e3]; exact e1.sublist (List.take_sublist _ _)
      have := bind_plain (name := d.name) (stmts := d.body) (sc := d.scope) (pm := pm) (cd := cd) (doc := doc) hnd hv
      rw [← ep] at this
      exact this
    · cases h

noncomputable def ChainP (x : Str) (mg : Str → Option Value) (h : Heap) : Prop := ∃ C R o cd, mg x = some (.ref C) ∧ mg ("RowError" : Str) = some (.ref R) ∧ h.get? C = some o ∧ o.data = .cls cd ∧ cd.mro.contains (.ref R) = true
theorem ChainP.keeps {x : Str} {mg : Str → Option Value} {h h' : Heap} (c : ChainP x mg h) (k : ∀ b o, h.get? b = some o → h'.get? b = some o) : ChainP x mg h' :=
  let ⟨C, R, o, cd, h1, h2, h3, h4, h5⟩ := c; ⟨C, R, o, cd, h1, h2, k _ _ h3, h4, h5⟩
noncomputable def chainB (x : Str) (s : Shared) : Bool := match s.heap.nsMap mainGlobals x, s.heap.nsMap mainGlobals ("RowError" : Str) with
  | some (.ref C), some (.ref R) => (match s.heap.get? C with
    | some o => (match o.data with
      | .cls cd => cd.mro.contains (.ref R)
      | _ => false)
    | none => false)
  | _, _ => false
theorem chain_of {x : Str} {s : Shared} (h : chainB x s = true) : ChainP x (s.heap.nsMap mainGlobals) s.heap := by
  unfold chainB at h
  split at h
  · rename_i C R h1 h2
    split at h
    · rename_i o h3
      split at h
      · rename_i cd h4
        exact ⟨C, R, o, cd, h1, h2, h3, h4, h⟩
      · cases h
    · cases h
  · cases h
theorem exc_of_top {p view : Program} {w : World} {loose : List Str} {mean : ExcName → Option Value} {mg mb : Str → Option Value} {h : Heap} (T : Top view loose mean mg mb h) {x : Str}
    (hs : specOf view x = some ("ValueError.__new__", [.type "ValueError", .type "Exception", .type "BaseException", .type "object"])) (hr : specOf view ("RowError" : Str) = some ("ValueError.__new__", [.type "ValueError", .type "Exception", .type "BaseException", .type "object"]))
    (c : ChainP x mg h) : ∃ C, IsExc ⟨p, w, h, mg, mb⟩ x C := by
  obtain ⟨C, O, _⟩ := T.ownAt hs
  obtain ⟨R, O', _⟩ := T.ownAt hr
  obtain ⟨C1, R1, o, cd, h1, h2, h3, h4, h5⟩ := c
  have e1 : C1 = C := by have := O.bound; rw [h1] at this; cases this; rfl
  have e2 : R1 = R := by have := O'.bound; rw [h2] at this; cases this; rfl
  subst e1 e2
  exact ⟨C1, O, R1, o, cd, O', h3, h4, h5⟩

theorem gd_of_top {p view : Program} {w : World} {mean : ExcName → Option Value} {mg mb : Str → Option Value} {h : Heap} {loose : List Str} (T : Top view loose mean mg mb h) (ht : p.given.tree = none) (hi : importsNone view = true)
    (hb : (bltTab.all fun x => !startupNames.contains x.1 && !loose.contains x.1 && !((recsOf view).map (·.name)).contains x.1 && !((litsOf view).map (·.1)).contains x.1 && !((clssOf view loose).map (·.name)).contains x.1) = true) : Gd ⟨p, w, h, mg, mb⟩ := by
  refine ⟨T.g, T.b, T.nolimit, T.seer hi, ht, fun x v hx => ?_⟩
  have hq := List.all_eq_true.mp hb (x, v) hx
  simp only [Bool.and_eq_true, Bool.not_eq_true', List.contains_eq_mem, decide_eq_false_iff_not] at hq
  obtain ⟨⟨⟨⟨h1, h2⟩, h3⟩, h4⟩, h5⟩ := hq
  refine ⟨T.free x h1 h2 h3 h4 h5, ?_⟩
  have hb' : ∀ q ∈ bltTab, q.1 ≠ "__name__" ∧ bootBuiltins q.1 = some q.2 := by
    intro q hq
    simp only [bltTab, List.mem_cons, List.not_mem_nil, or_false] at hq
    rcases hq with rfl | rfl | rfl | rfl | rfl | rfl | rfl | rfl | rfl | rfl | rfl | rfl | rfl <;> exact ⟨by decide +kernel, by kernel_rfl⟩
  have := hb' (x, v) hx
  show mb x = some v
  rw [T.builtins x this.1, this.2]

theorem const_of_top {view : Program} {loose : List Str} {mean : ExcName → Option Value} {mg mb : Str → Option Value} {h : Heap} (T : Top view loose mean mg mb h) {x : Str} {i : Int} (hv : valOf view x = some (.int i)) : ∃ t, mg x = some (.int i t) := by
  obtain ⟨v, h1, h2⟩ := T.const x _ hv
  have := h2 h
  cases this
  exact ⟨_, h1⟩
end Mine
set_option Elab.async false
set_option maxRecDepth 100000
set_option linter.unusedVariables false
namespace Mine
open PySem PySem.Calls PyProof.Rows PySem.W

theorem lookup_of_mem : ∀ {l : List (Nat × Str)} {f : Nat} {x : Str}, l.lookup f = some x → (f, x) ∈ l
  | [], _, _, h => nomatch h
  | p :: r, f, x, h => by
    rw [List.lookup_cons] at h
    split at h
    · rename_i q; cases h; rw [beq_iff_eq.mp q]; exact .head _
    · exact .tail _ (lookup_of_mem h)

theorem named_of_top {names : List (Nat × Str)} {view : Program} {loose : List Str} {mean : ExcName → Option Value} {mg mb : Str → Option Value} {h : Heap} (T : Top view loose mean mg mb h)
    (hc : (names.all fun p => decide (1000 ≤ p.1) || (recsOf view).any (fun d => d.name == p.2)) = true) : ∀ f, f < 1000 → fnameOf names f ≠ Str.empty → ∃ fa o fd, mg (fnameOf names f) = some (.ref fa) ∧ h.get? fa = some o ∧ o.data = .func fd := by
  intro f hf hne
  unfold fnameOf at hne ⊢
  cases hl : names.lookup f with
  | none => rw [hl] at hne; exact absurd rfl hne
  | some x =>
    have := List.all_eq_true.mp hc _ (lookup_of_mem hl)
    simp only [Bool.or_eq_true, decide_eq_true_eq, List.any_eq_true, beq_iff_eq] at this
    rcases this with q | ⟨d, hd, e⟩
    · omega
    · obtain ⟨a, o, pm, cd, doc, h1, h2, h3, h4⟩ := T.fn d hd
      exact ⟨a, o, _, by rw [Option.getD_some, ← e]; exact h1, h2, h3⟩

theorem ints_rps {h : Heap} : ∀ {vs : List Value} {ns : List Int}, IntsAre vs ns → Rps h vs (iz ns) []
  | _, _, .nil => .nil
  | _, _, .cons n t r => .cons (as := []) (bs := []) (.int n t) (ints_rps r)
theorem intsAre_len : ∀ {vs : List Value} {ns : List Int}, IntsAre vs ns → vs.length = ns.length
  | _, _, .nil => rfl
  | _, _, .cons n t r => by simp [intsAre_len r]

theorem script_rp {P : Params} {h : Heap} {a : Addr} {vs : List Value} {ns : List Int} (w1 : Well P h (.ref a) (ofPy (.list (ns.map .int)))) (hL : h.IsList a vs.toArray) (hI : IntsAre vs ns) (hlen : ns.length ≤ 63) : Rp h (.ref a) (L ns) [a] := by
  obtain ⟨o, ho, hc, n, hd⟩ := hL
  have hdict : o.dict = none := by
    generalize hW : ofPy (.list (ns.map .int)) = W at w1
    cases w1 with
    | list e _ => rw [ho] at e; cases e; rfl
    | _ => simp [ofPy] at hW
  have hsz : vs.toArray.size ≤ sizeLine := by
    have := intsAre_len hI
    have h63 : (63 : Nat) ≤ sizeLine := by decide
    simp; omega
  exact .list ho hc hdict hd hsz (by simpa using ints_rps hI)

theorem law_run {names : List (Nat × Str)} {p : Program} {w : World} {s₁ : Shared} {mg mb : Str → Option Value} {n : Nat} {fa a : Addr} {ns : List Int} {Q E : Value → Shared → Prop}
    (S : Spec (fnameOf names) ⟨p, w, s₁.heap, mg, mb⟩ n 99 [L ns] (fun d _ => d = .bool true)) (hm : mg (fnameOf names 99) = some (.ref fa)) (hn : n ≤ 60) (hr : Rp s₁.heap (.ref a) (L ns) [a])
    (hQ : ∀ s' : Shared, (∀ b o, s₁.heap.get? b = some o → s'.heap.get? b = some o) → s'.os = s₁.os → s'.gens = s₁.gens → Q (.bool true) s') :
    wpAny (model p w) callerA (call (.ref fa) [.ref a]) Q E s₁ := by
  unfold Spec at S
  rw [if_neg (by decide), if_neg (by decide)] at S
  obtain ⟨fa', S⟩ := S
  have e : fa' = fa := by
    have := S.named
    simp only at this
    rw [hm] at this; cases this; rfl
  subst e
  have hd : (callerA.depth : Nat) + 60 + 150 < recursionLimit := by decide
  have hu : callerA.units + 8 * 60 + 300 < cLine := by decide
  refine S.run callerA s₁ [.ref a] [a] [] Q E ⟨rfl, by omega, by omega, rfl⟩ (fun _ _ e => e) ?_ ?_ ?_
  · exact trivial
  · exact .cons (as := [a]) (bs := []) hr .nil
  · rintro v s' d fr bs rfl hs hrp _
    cases hrp
    obtain ⟨h', tk, rfl, _, st⟩ := hs
    exact hQ _ (fun b o e => st b o e) rfl rfl
end Mine
namespace Mine
open PySem PySem.Calls PyProof.Rows PySem.W
noncomputable def nms : List (Nat × Str) := [(0, "whole"), (1, "is_base"), (2, "need_base"), (4, "is_row"), (5, "need_row"), (34, "written"), (35, "figure_of"), (36, "read"), (50, "_law_draw"), (51, "_law_base_by"), (52, "_law_row_by"), (55, "_law_is_number"), (56, "_law_same"), (66, "_law_word_by"), (67, "_law_line_by"), (68, "_law_sign_by"), (69, "_law_due_of"), (70, "_law_refused"), (99, "law"), (1000, "LEAST_BASE"), (1001, "MOST_BASE"), (1003, "MOST_SIGNS"), (2003, "NoRow")]
structure Checks (view : Program) (loose : List Str) : Prop where
  c0 : compFn nms view 0 = some (1, 1, b_whole)
  c1 : compFn nms view 1 = some (1, 1, b_is_base)
  c2 : compFn nms view 2 = some (1, 1, b_need_base)
  c4 : compFn nms view 4 = some (2, 3, b_is_row)
  c5 : compFn nms view 5 = some (2, 2, b_need_row)
  c34 : compFn nms view 34 = some (2, 2, b_written)
  c35 : compFn nms view 35 = some (2, 4, b_figure_of)
  c36 : compFn nms view 36 = some (2, 3, b_read)
  c50 : compFn nms view 50 = some (2, 2, b_law_draw)
  c51 : compFn nms view 51 = some (1, 1, b_law_base_by)
  c52 : compFn nms view 52 = some (4, 10, b_law_row_by)
  c55 : compFn nms view 55 = some (1, 1, b_law_is_number)
  c56 : compFn nms view 56 = some (2, 3, b_law_same)
  c66 : compFn nms view 66 = some (2, 3, b_law_word_by)
  c67 : compFn nms view 67 = some (2, 5, b_law_line_by)
  c68 : compFn nms view 68 = some (1, 2, b_law_sign_by)
  c69 : compFn nms view 69 = some (2, 5, b_law_due_of)
  c70 : compFn nms view 70 = some (2, 3, b_law_refused)
  c99 : compFn nms view 99 = some (1, 12, b_law_13)
  x35 : compY nms view 35 = some b_figure_of_x
  x36 : compY nms view 36 = some b_read_x
  k1000 : valOf view "LEAST_BASE" = some (.int 2)
  k1001 : valOf view "MOST_BASE" = some (.int 1000000)
  k1003 : valOf view "MOST_SIGNS" = some (.int 60)
  nm : (nms.all fun p => decide (1000 ≤ p.1) || (recsOf view).any (fun d => d.name == p.2)) = true
  imp : importsNone view = true
  blt : (bltTab.all fun x => !startupNames.contains x.1 && !loose.contains x.1 && !((recsOf view).map (·.name)).contains x.1 && !((litsOf view).map (·.1)).contains x.1 && !((clssOf view loose).map (·.name)).contains x.1) = true
theorem specs {p view : Program} {w : World} {loose : List Str} {mean : ExcName → Option Value} {mg mb : Str → Option Value} {h : Heap} (T : Top view loose mean mg mb h) (ht : p.given.tree = none) (C : Checks view loose) (hx2003 : ∃ C, IsExc ⟨p, w, h, mg, mb⟩ (fnameOf nms 2003) C) :
    ∀ n f ds K, Φ n f ds K → Spec (fnameOf nms) ⟨p, w, h, mg, mb⟩ n f ds K := by
  have GD := gd_of_top (w := w) T ht C.imp C.blt
  have NM := named_of_top T C.nm
  refine all_sound Φ GD NM ?_ ?_
  · intro f ds K h
    unfold Φ at h
    split at h <;> first | exact h.elim | exact absurd h.1 (by decide)
  · intro n f ds K ih h
    have h' := h
    unfold Φ at h'
    split at h' 
    · exact .inr (.inl ⟨by decide, 1, 1, b_whole, fn_of_top (g := ⟨p, w, _, mg, mb⟩) T C.c0, by obtain ⟨_, h⟩ := h'; revert h; first | (rintro ⟨_, rfl, _⟩; rfl) | (rintro ⟨_, _, rfl, _⟩; rfl) | (rintro ⟨_, _, _, rfl, _⟩; rfl) | (rintro ⟨_, _, _, _, rfl, _⟩; rfl) | (rintro ⟨_, _, _, _, _, rfl, _⟩; rfl), t_whole h⟩)
    · exact .inr (.inl ⟨by decide, 1, 1, b_is_base, fn_of_top (g := ⟨p, w, _, mg, mb⟩) T C.c1, by obtain ⟨_, h⟩ := h'; revert h; first | (rintro ⟨_, rfl, _⟩; rfl) | (rintro ⟨_, _, rfl, _⟩; rfl) | (rintro ⟨_, _, _, rfl, _⟩; rfl) | (rintro ⟨_, _, _, _, rfl, _⟩; rfl) | (rintro ⟨_, _, _, _, _, rfl, _⟩; rfl), t_is_base h⟩)
    · exact .inr (.inl ⟨by decide, 1, 1, b_need_base, fn_of_top (g := ⟨p, w, _, mg, mb⟩) T C.c2, by obtain ⟨_, h⟩ := h'; revert h; first | (rintro ⟨_, rfl, _⟩; rfl) | (rintro ⟨_, _, rfl, _⟩; rfl) | (rintro ⟨_, _, _, rfl, _⟩; rfl) | (rintro ⟨_, _, _, _, rfl, _⟩; rfl) | (rintro ⟨_, _, _, _, _, rfl, _⟩; rfl), t_need_base h⟩)
    · exact .inr (.inl ⟨by decide, 2, 3, b_is_row, fn_of_top (g := ⟨p, w, _, mg, mb⟩) T C.c4, by obtain ⟨_, h⟩ := h'; revert h; first | (rintro ⟨_, rfl, _⟩; rfl) | (rintro ⟨_, _, rfl, _⟩; rfl) | (rintro ⟨_, _, _, rfl, _⟩; rfl) | (rintro ⟨_, _, _, _, rfl, _⟩; rfl) | (rintro ⟨_, _, _, _, _, rfl, _⟩; rfl), t_is_row h⟩)
    · exact .inr (.inl ⟨by decide, 2, 2, b_need_row, fn_of_top (g := ⟨p, w, _, mg, mb⟩) T C.c5, by obtain ⟨_, h⟩ := h'; revert h; first | (rintro ⟨_, rfl, _⟩; rfl) | (rintro ⟨_, _, rfl, _⟩; rfl) | (rintro ⟨_, _, _, rfl, _⟩; rfl) | (rintro ⟨_, _, _, _, rfl, _⟩; rfl) | (rintro ⟨_, _, _, _, _, rfl, _⟩; rfl), t_need_row h⟩)
    · exact .inr (.inl ⟨by decide, 2, 2, b_written, fn_of_top (g := ⟨p, w, _, mg, mb⟩) T C.c34, by obtain ⟨_, h⟩ := h'; revert h; first | (rintro ⟨_, rfl, _⟩; rfl) | (rintro ⟨_, _, rfl, _⟩; rfl) | (rintro ⟨_, _, _, rfl, _⟩; rfl) | (rintro ⟨_, _, _, _, rfl, _⟩; rfl) | (rintro ⟨_, _, _, _, _, rfl, _⟩; rfl), t_written h⟩)
    · exact .inr (.inl ⟨by decide, 2, 4, b_figure_of, fn_of_top (g := ⟨p, w, _, mg, mb⟩) T C.c35, by obtain ⟨_, h⟩ := h'; revert h; first | (rintro ⟨_, rfl, _⟩; rfl) | (rintro ⟨_, _, rfl, _⟩; rfl) | (rintro ⟨_, _, _, rfl, _⟩; rfl) | (rintro ⟨_, _, _, _, rfl, _⟩; rfl) | (rintro ⟨_, _, _, _, _, rfl, _⟩; rfl), t_figure_of h⟩)
    · exact .inr (.inl ⟨by decide, 2, 3, b_read, fn_of_top (g := ⟨p, w, _, mg, mb⟩) T C.c36, by obtain ⟨_, h⟩ := h'; revert h; first | (rintro ⟨_, rfl, _⟩; rfl) | (rintro ⟨_, _, rfl, _⟩; rfl) | (rintro ⟨_, _, _, rfl, _⟩; rfl) | (rintro ⟨_, _, _, _, rfl, _⟩; rfl) | (rintro ⟨_, _, _, _, _, rfl, _⟩; rfl), t_read h⟩)
    · exact .inr (.inl ⟨by decide, 2, 2, b_law_draw, fn_of_top (g := ⟨p, w, _, mg, mb⟩) T C.c50, by obtain ⟨_, h⟩ := h'; revert h; first | (rintro ⟨_, rfl, _⟩; rfl) | (rintro ⟨_, _, rfl, _⟩; rfl) | (rintro ⟨_, _, _, rfl, _⟩; rfl) | (rintro ⟨_, _, _, _, rfl, _⟩; rfl) | (rintro ⟨_, _, _, _, _, rfl, _⟩; rfl), t_law_draw h⟩)
    · exact .inr (.inl ⟨by decide, 1, 1, b_law_base_by, fn_of_top (g := ⟨p, w, _, mg, mb⟩) T C.c51, by obtain ⟨_, h⟩ := h'; revert h; first | (rintro ⟨_, rfl, _⟩; rfl) | (rintro ⟨_, _, rfl, _⟩; rfl) | (rintro ⟨_, _, _, rfl, _⟩; rfl) | (rintro ⟨_, _, _, _, rfl, _⟩; rfl) | (rintro ⟨_, _, _, _, _, rfl, _⟩; rfl), t_law_base_by h⟩)
    · exact .inr (.inl ⟨by decide, 4, 10, b_law_row_by, fn_of_top (g := ⟨p, w, _, mg, mb⟩) T C.c52, by obtain ⟨_, h⟩ := h'; revert h; first | (rintro ⟨_, rfl, _⟩; rfl) | (rintro ⟨_, _, rfl, _⟩; rfl) | (rintro ⟨_, _, _, rfl, _⟩; rfl) | (rintro ⟨_, _, _, _, rfl, _⟩; rfl) | (rintro ⟨_, _, _, _, _, rfl, _⟩; rfl), t_law_row_by h⟩)
    · exact .inr (.inl ⟨by decide, 1, 1, b_law_is_number, fn_of_top (g := ⟨p, w, _, mg, mb⟩) T C.c55, by obtain ⟨_, h⟩ := h'; revert h; first | (rintro ⟨_, rfl, _⟩; rfl) | (rintro ⟨_, _, rfl, _⟩; rfl) | (rintro ⟨_, _, _, rfl, _⟩; rfl) | (rintro ⟨_, _, _, _, rfl, _⟩; rfl) | (rintro ⟨_, _, _, _, _, rfl, _⟩; rfl), t_law_is_number h⟩)
    · exact .inr (.inl ⟨by decide, 2, 3, b_law_same, fn_of_top (g := ⟨p, w, _, mg, mb⟩) T C.c56, by obtain ⟨_, h⟩ := h'; revert h; first | (rintro ⟨_, rfl, _⟩; rfl) | (rintro ⟨_, _, rfl, _⟩; rfl) | (rintro ⟨_, _, _, rfl, _⟩; rfl) | (rintro ⟨_, _, _, _, rfl, _⟩; rfl) | (rintro ⟨_, _, _, _, _, rfl, _⟩; rfl), t_law_same h⟩)
    · exact .inr (.inl ⟨by decide, 2, 3, b_law_word_by, fn_of_top (g := ⟨p, w, _, mg, mb⟩) T C.c66, by obtain ⟨_, h⟩ := h'; revert h; first | (rintro ⟨_, rfl, _⟩; rfl) | (rintro ⟨_, _, rfl, _⟩; rfl) | (rintro ⟨_, _, _, rfl, _⟩; rfl) | (rintro ⟨_, _, _, _, rfl, _⟩; rfl) | (rintro ⟨_, _, _, _, _, rfl, _⟩; rfl), t_law_word_by h⟩)
    · exact .inr (.inl ⟨by decide, 2, 5, b_law_line_by, fn_of_top (g := ⟨p, w, _, mg, mb⟩) T C.c67, by obtain ⟨_, h⟩ := h'; revert h; first | (rintro ⟨_, rfl, _⟩; rfl) | (rintro ⟨_, _, rfl, _⟩; rfl) | (rintro ⟨_, _, _, rfl, _⟩; rfl) | (rintro ⟨_, _, _, _, rfl, _⟩; rfl) | (rintro ⟨_, _, _, _, _, rfl, _⟩; rfl), t_law_line_by h⟩)
    · exact .inr (.inl ⟨by decide, 1, 2, b_law_sign_by, fn_of_top (g := ⟨p, w, _, mg, mb⟩) T C.c68, by obtain ⟨_, h⟩ := h'; revert h; first | (rintro ⟨_, rfl, _⟩; rfl) | (rintro ⟨_, _, rfl, _⟩; rfl) | (rintro ⟨_, _, _, rfl, _⟩; rfl) | (rintro ⟨_, _, _, _, rfl, _⟩; rfl) | (rintro ⟨_, _, _, _, _, rfl, _⟩; rfl), t_law_sign_by h⟩)
    · exact .inr (.inl ⟨by decide, 2, 5, b_law_due_of, fn_of_top (g := ⟨p, w, _, mg, mb⟩) T C.c69, by obtain ⟨_, h⟩ := h'; revert h; first | (rintro ⟨_, rfl, _⟩; rfl) | (rintro ⟨_, _, rfl, _⟩; rfl) | (rintro ⟨_, _, _, rfl, _⟩; rfl) | (rintro ⟨_, _, _, _, rfl, _⟩; rfl) | (rintro ⟨_, _, _, _, _, rfl, _⟩; rfl), t_law_due_of h⟩)
    · exact .inr (.inl ⟨by decide, 2, 3, b_law_refused, fn_of_top (g := ⟨p, w, _, mg, mb⟩) T C.c70, by obtain ⟨_, h⟩ := h'; revert h; first | (rintro ⟨_, rfl, _⟩; rfl) | (rintro ⟨_, _, rfl, _⟩; rfl) | (rintro ⟨_, _, _, rfl, _⟩; rfl) | (rintro ⟨_, _, _, _, rfl, _⟩; rfl) | (rintro ⟨_, _, _, _, _, rfl, _⟩; rfl), t_law_refused h⟩)
    · exact .inr (.inl ⟨by decide, 1, 12, b_law_13, fn_of_top (g := ⟨p, w, _, mg, mb⟩) T C.c99, by obtain ⟨_, h⟩ := h'; revert h; first | (rintro ⟨_, rfl, _⟩; rfl) | (rintro ⟨_, _, rfl, _⟩; rfl) | (rintro ⟨_, _, _, rfl, _⟩; rfl) | (rintro ⟨_, _, _, _, rfl, _⟩; rfl) | (rintro ⟨_, _, _, _, _, rfl, _⟩; rfl), t_law_13 h⟩)
    · obtain ⟨CX, OX⟩ := hx2003; obtain ⟨fa, _, _, _, _, _, _, _, _, FA, SX⟩ := fny_of_top (g := ⟨p, w, _, mg, mb⟩) T C.c35 C.x35; exact .inr (.inr ⟨by decide, by decide, 2003, CX, fa, by first | (obtain ⟨_, _, _, _, _, _, _, hk⟩ := h'; exact hk) | (obtain ⟨_, _, _, _, _, _, _, _, hk⟩ := h'; exact hk), OX, fny_sound GD FA SX ih NM (by first | (obtain ⟨_, _, _, rfl, _⟩ := h'; rfl) | (obtain ⟨_, _, _, _, rfl, _⟩ := h'; rfl)) (x_figure_of h)⟩)
    · obtain ⟨CX, OX⟩ := hx2003; obtain ⟨fa, _, _, _, _, _, _, _, _, FA, SX⟩ := fny_of_top (g := ⟨p, w, _, mg, mb⟩) T C.c36 C.x36; exact .inr (.inr ⟨by decide, by decide, 2003, CX, fa, by first | (obtain ⟨_, _, _, _, _, _, _, hk⟩ := h'; exact hk) | (obtain ⟨_, _, _, _, _, _, _, _, hk⟩ := h'; exact hk), OX, fny_sound GD FA SX ih NM (by first | (obtain ⟨_, _, _, rfl, _⟩ := h'; rfl) | (obtain ⟨_, _, _, _, rfl, _⟩ := h'; rfl)) (x_read h)⟩)
    · obtain ⟨t, e⟩ := const_of_top T C.k1000; exact .inl ⟨by decide, 2, t, e, h'.2.1, h'.2.2⟩
    · obtain ⟨t, e⟩ := const_of_top T C.k1001; exact .inl ⟨by decide, 1000000, t, e, h'.2.1, h'.2.2⟩
    · obtain ⟨t, e⟩ := const_of_top T C.k1003; exact .inl ⟨by decide, 60, t, e, h'.2.1, h'.2.2⟩
    · exact h'.elim
theorem fin {p view : Program} {w : World} {loose : List Str} {mean : ExcName → Option Value} {mg mb : Str → Option Value} {s₁ : Shared} {fa a : Addr} {vs : List Value} {ns : List Int} {Q E : Value → Shared → Prop} (T : Top view loose mean mg mb s₁.heap) (ht : p.given.tree = none) (C : Checks view loose) (hx2003 : ∃ C, IsExc ⟨p, w, s₁.heap, mg, mb⟩ (fnameOf nms 2003) C)
    (hm : mg (fnameOf nms 99) = some (.ref fa)) (w1 : Well w.params s₁.heap (.ref a) (ofPy (.list (ns.map .int)))) (hL : s₁.heap.IsList a vs.toArray) (hI : IntsAre vs ns) (hlen : ns.length ≤ 63)
    (hQ : ∀ s' : Shared, (∀ b o, s₁.heap.get? b = some o → s'.heap.get? b = some o) → s'.os = s₁.os → s'.gens = s₁.gens → Q (.bool true) s') :
    wpAny (model p w) callerA (call (.ref fa) [.ref a]) Q E s₁ :=
  law_run (n := 50) (specs T ht C hx2003 50 99 _ _ ⟨by decide, ns, rfl, hlen, rfl⟩) hm (by decide) (script_rp w1 hL hI hlen) hQ
end Mine
namespace Mine
open PySem
noncomputable def view : Program := { PySem.Challenge.pw_uf030001_13 with main := { PySem.Challenge.pw_uf030001_13.main with body := ((((PySem.Challenge.pw_uf030001_13.main.body.eraseIdx 17).eraseIdx 12).eraseIdx 4).eraseIdx 0) } }
end Mine
open PySem PySem.W PyProof.Rows
set_option maxRecDepth 100000 in
set_option maxHeartbeats 8000000 in
theorem PySem.Challenge.cw_uf030001_13_holds : PySem.Challenge.rw_uf030001_13.Holds := by
  w_on; o_law
  refine holds_open (q := Mine.view) (loose := []) (Xt := fun s => (xlAt Mine.view [] s && recOk (RowW.records _) s) && Mine.chainB "NoRow" s) (XP := fun mg h => XL Mine.view [] mg h ∧ Mine.ChainP "NoRow" mg h) (Yf := Hook.obs Hook.none) (Ya := Hook.val Hook.none) (YP := Hook.says Hook.none) (N := 10000) ?hl (Hook.of Hook.none) (Hook.keeps Hook.none) (fun s e => ⟨xl_of s (Bool.and_eq_true_iff.mp (Bool.and_eq_true_iff.mp e).1).1, Mine.chain_of (Bool.and_eq_true_iff.mp e).2⟩) (fun mg h h' x k => ⟨XL.keeps mg h h' x.1 k, x.2.keeps k⟩) (by rfl) (by rfl) (by rfl) (fun s e => recFacts_of (Bool.and_eq_true_iff.mp (Bool.and_eq_true_iff.mp e).1).2) (by rfl) (by first | assumption | decide +kernel) (by decide +kernel) ⟨rfl, rfl, rfl, rfl, rfl, by decide +kernel⟩ ?hw ?hc
  case hl => intro w; kernel_rfl
  case hw => w_witness2
  intro w s₀ s₁ mg mb G Y fa o pm cd doc dV kV ho hd hcd hD hmg hg args vals as hpre hlay hrd hwl hlo
  have G0 := G
  refine Ground.open G ?_
  intro T B D TE TW
  wrow_args hpre hlay hrd hwl hlo
  have XX := G0.X
  have hx2003 := Mine.exc_of_top (p := PySem.Challenge.rw_uf030001_13.prog) (w := w) (x := "NoRow") T (by kernel_rfl) (by kernel_rfl) XX.2
  refine Mine.fin T (by kernel_rfl) ⟨by kernel_rfl, by kernel_rfl, by kernel_rfl, by kernel_rfl, by kernel_rfl, by kernel_rfl, by kernel_rfl, by kernel_rfl, by kernel_rfl, by kernel_rfl, by kernel_rfl, by kernel_rfl, by kernel_rfl, by kernel_rfl, by kernel_rfl, by kernel_rfl, by kernel_rfl, by kernel_rfl, by kernel_rfl, by kernel_rfl, by kernel_rfl, by kernel_rfl, by kernel_rfl, by kernel_rfl, by decide +kernel, by decide +kernel, by decide +kernel⟩ hx2003 hmg (by assumption) (by assumption) (by assumption) (by omega) ?_
  intro s' hk ho' hg'
  exact GoodW.toG ⟨.inl ⟨.bool true, .bool true, [], rfl, fun cls => by cases cls <;> rfl, .bool true, by kernel_rfl, fun _ => ⟨List.nodup_nil, fun _ h => (nomatch h)⟩⟩, hk, ho', hg'.trans hg⟩
