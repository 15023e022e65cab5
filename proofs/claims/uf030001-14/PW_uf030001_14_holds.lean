import PyProof.Rows.All
import Wide.All
import Open.Line
import Wide.FinOn
import PyProof.Rows.Top
import PyProof.NsMap
import PyProof.EqLayable
import PyProof.StrBlockL
import PyProof.Rows.Many
import PyProof.Rows.Globals
import PyProof.Rows.Exc
import PyProof.PureInt
import PyProof.IsiPairs
import PyProof.NoPylong
import PyProof.StationsW
import PyProof.Rows.OwnQ
import PyProof.Rows.SeqMore
import PyProof.Rows.RuleB_floordiv
import PyProof.Rows.RuleB_mod
import PyProof.Rows.RuleB_pow
import PyProof.Rows.ListMul
import PyProof.Rows.ListMulArg
import PyProof.Rows.Chain
import PyProof.Rows.Nodes
import PyProof.FitsBits
import PyProof.Cells
import PyProof.StrOps2
import PyProof.StrBlock2
import PyProof.IsRules
import PyProof.WalkInts
import PyProof.Truth
import PyProof.ListTruth
import PyProof.Rows.TupMore
import PyProof.Rows.Lst
import PyProof.Rows.StrTemp
import PyProof.Rows.Tup
import PyProof.Rows.TupSub
import PyProof.ListIndexNeg
import PyProof.SliceMore
import PyProof.ListCopy
import PyProof.Conv_int
import PyProof.Conv_int_bool
import PyProof.StrOps
import PyProof.IsiHeapPairs
import PyProof.IsiNone
import PyProof.StrLawsIn
import PyProof.StrLawsTight
import PyProof.CallStr
import KE.KIntText
import PyProof.SliceSyntax
import PyProof.Rows.TupAssign
import PyProof.Rows.TupIter
import PyProof.ForAppend
import PyProof.Walks
import PyProof.WalksMore
import KE.KRevIter
import PyProof.Rows.CatchOwn
import PyProof.ExcBaseAll.ValueError
import PyProof.Rows.SeqWords
import PyProof.RangeFor
import PyProof.Rows.Range3
import KE.KRevSl
import PyProof.StrLoop
import PyProof.EnumFor
import PyProof.EnumMake
import PyProof.WalksEnum
import PyProof.ForAny
import PyProof.Rows.SeqMore3
import PyProof.DictStraight
import PyProof.ListOps
import PyProof.Rows.CellsNews
import PyProof.CompFree
import PyProof.Rows.GenSrcRange
import PyProof.MeetsStr2
import PyProof.StrCalls2
import PyProof.Rows.StrItems
import PyProof.Rows.StrJoin2
import PyProof.DictDisplay
import PyProof.DictKinds
import PyProof.ListIndex
import PyProof.EqAt
import PyProof.P3Eq
import PyProof.RulesAs
import PyProof.RulesDel
import PyProof.IsInstance
import PyProof.ExcArgsOwn
import PyProof.ExcAttrAll.ValueError
import PySem.Challenge.RW_uf030001_14
set_option Elab.async false
set_option maxRecDepth 100000
set_option Elab.async false
set_option maxRecDepth 100000
namespace Mine
open PySem PySem.Calls PyProof.Rows
noncomputable abbrev bmV : List Value := [.type "ValueError", .type "Exception", .type "BaseException", .type "object"]
noncomputable def fnameOf (names : List (Nat × Str)) (f : Nat) : Str := (names.lookup f).getD Str.empty
noncomputable def clsD (h : Heap) (x : Str) (mro : List Value) (cd : ClassData) : Bool := (cd.name == x) && (decide (cd.mro = mro) && (h.isNs cd.ns && (h.nsMap cd.ns "__class__").isNone))
noncomputable def clsO (h : Heap) (x : Str) (mro : List Value) (o : Obj) : Bool := match o.data with
  | .cls cd => clsD h x mro cd
  | _ => false
noncomputable def clsB (h : Heap) (x : Str) (C : Addr) (mro : List Value) : Bool := match h.get? C with
  | some o => clsO h x mro o
  | none => false
noncomputable def refOf : Option Value → Option Addr
  | some (.ref a) => some a
  | _ => none
noncomputable def chainB (x : Str) (s : Shared) : Bool := match refOf (s.heap.nsMap mainGlobals x), refOf (s.heap.nsMap mainGlobals ("RowError" : Str)) with
  | some C, some R => clsB s.heap x C (.ref C :: .ref R :: bmV) && clsB s.heap ("RowError" : Str) R (.ref R :: bmV)
  | _, _ => false
end Mine
namespace Mine
open PySem PySem.Calls PyProof.Rows
noncomputable def nms : List (Nat × Str) := (0, "whole") :: (1, "is_base") :: (2, "need_base") :: (3, "is_figure") :: (4, "is_row") :: (5, "need_row") :: (6, "need_figure") :: (7, "need_count") :: (8, "row_of") :: (9, "number_of") :: (10, "trimmed") :: (11, "order") :: (12, "plain_sum") :: (13, "plain_difference") :: (14, "plain_scaled") :: (15, "plain_shifted") :: (16, "added") :: (17, "taken") :: (18, "scaled") :: (19, "shifted") :: (20, "plain_slow") :: (22, "plain_product") :: (23, "plain_effort") :: (24, "slow") :: (25, "product") :: (26, "effort") :: (27, "plain_parted") :: (28, "how_often") :: (29, "plain_divided") :: (30, "parted") :: (31, "divided") :: (32, "ladder") :: (33, "turned") :: (34, "written") :: (35, "figure_of") :: (36, "read") :: (50, "_law_draw") :: (51, "_law_due") :: (52, "_law_call") :: (53, "_law_told") :: (54, "_law_copy") :: (55, "_law_bad_row") :: (56, "_law_third") :: (57, "_law_cannot") :: (58, "_law_answers") :: (99, "law") :: (1000, "LEAST_BASE") :: (1001, "MOST_BASE") :: (1002, "LEAST") :: (1003, "MOST_SIGNS") :: (2000, "BelowNought") :: (2001, "ByNought") :: (2002, "NoBase") :: (2003, "NoRow") :: (2004, "NoFigure") :: (2005, "NoCount") :: []
noncomputable def kinds : List Str := (List.range 6).map fun k => fnameOf nms (2000 + k)
noncomputable def chainsB (s : Shared) : Bool := kinds.all fun x => chainB x s
end Mine
namespace Mine
open PySem
noncomputable def view : Program := { PySem.Challenge.pw_uf030001_14 with main := { PySem.Challenge.pw_uf030001_14.main with body := (((((((PySem.Challenge.pw_uf030001_14.main.body.eraseIdx 54).eraseIdx 49).eraseIdx 40).eraseIdx 32).eraseIdx 23).eraseIdx 8).eraseIdx 0) } }
end Mine
section
open PySem PySem.W PyProof.Rows
set_option maxRecDepth 100000
set_option maxHeartbeats 8000000
noncomputable def Mine.Xt (s : Shared) : Bool := xlAt Mine.view [] s && recOk PySem.Challenge.rw_uf030001_14.row.records s && Mine.chainsB s
theorem Mine.mk2 {α β : Type} {a a' : α} {b b' : β} (h : a = a') (h' : b = b') : (a, b) = (a', b') := h ▸ h' ▸ rfl
theorem Mine.look0 (w : World) : Option.map (fun s => (seen ((recsOf Mine.view).map (·.name)) (ownsOf Mine.view) [] { s with gens := #[] }, s.heap.bltView)) (openEnds treeTable PySem.Challenge.rw_uf030001_14.row.prog w 10000) = some (expectedOf Mine.view, bltViewBooted) := by kernel_rfl
theorem Mine.look1 (w : World) : Option.map (fun s => (s.heap.keysOk (looseW Mine.view []) ((recsOf Mine.view).map (·.name)) ((litsOf Mine.view).map (·.1)) ((clssOf Mine.view (looseW Mine.view [])).map (·.name)) && s.heap.accountedOkI (importedModules PySem.Challenge.rw_uf030001_14.row.prog.main.body) && s.heap.isNs mainGlobals && s.heap.isNs builtinsNs && tablesOk Mine.view s.heap && Mine.Xt s && (if true then s.gens.size == 0 else !leftWithCleanup s.gens))) (openEnds treeTable PySem.Challenge.rw_uf030001_14.row.prog w 10000) = some (true) := by kernel_rfl
theorem Mine.look2 (w : World) : Option.map (fun s => (tabsOk Mine.view s)) (openEnds treeTable PySem.Challenge.rw_uf030001_14.row.prog w 10000) = some (true) := by kernel_rfl
theorem Mine.look3 (w : World) : Option.map (fun s => (pinSeenD Mine.view (drecsOf Mine.view) s, plainSeenE Mine.view (looseW Mine.view []) s, plainSeenD Mine.view [] s, wideSeen Mine.view s, clsSeenW Mine.view [] s)) (openEnds treeTable PySem.Challenge.rw_uf030001_14.row.prog w 10000) = some (pinGoodD (drecsOf Mine.view), plainGoodE Mine.view (looseW Mine.view []), plainGoodD Mine.view [], wideGood Mine.view, clsGoodW Mine.view []) := by kernel_rfl
theorem Mine.looks (w : World) : Option.map (fun s => (openSeen Mine.view [] (importedModules PySem.Challenge.rw_uf030001_14.row.prog.main.body) Mine.Xt true s, Hook.none.obs s)) (openEnds treeTable PySem.Challenge.rw_uf030001_14.row.prog w 10000) = some (openGood Mine.view [], Hook.none.val w) := by
  have h0 := Mine.look0 w
  have h1 := Mine.look1 w
  have h2 := Mine.look2 w
  have h3 := Mine.look3 w
  generalize (openEnds treeTable PySem.Challenge.rw_uf030001_14.row.prog w 10000) = r at h0 h1 h2 h3 ⊢
  cases r with
  | none => cases h0
  | some s =>
    replace h0 := Option.some.inj h0
    replace h1 := Option.some.inj h1
    replace h2 := Option.some.inj h2
    replace h3 := Option.some.inj h3
    exact congrArg some (Mine.mk2 (Mine.mk2 (Prod.mk.inj h0).1 (Mine.mk2 (Prod.mk.inj h0).2 (Mine.mk2 h1 (Mine.mk2 h2 (Mine.mk2 (Prod.mk.inj h3).1 (Mine.mk2 (Prod.mk.inj (Prod.mk.inj h3).2).1 (Mine.mk2 (Prod.mk.inj (Prod.mk.inj (Prod.mk.inj h3).2).2).1 (Mine.mk2 (Prod.mk.inj (Prod.mk.inj (Prod.mk.inj (Prod.mk.inj h3).2).2).2).1 (Prod.mk.inj (Prod.mk.inj (Prod.mk.inj (Prod.mk.inj h3).2).2).2).2)))))))) rfl)
end
set_option Elab.async false
namespace Mine
open PySem

noncomputable abbrev D := PyData

noncomputable def st (l : List Nat) : Str := ⟨l.toArray⟩
noncomputable def isDig (c : Nat) : Bool := decide (48 ≤ c) && decide (c ≤ 57)
noncomputable def dval (l : List Nat) : Nat := l.foldl (fun a c => a * 10 + (c - 48)) 0
inductive Cell where
  | unset
  | val (d : D)
  | own (d : D)

noncomputable abbrev Vars := List Cell

structure Fg where
  sh : Bool
  u : List Nat

noncomputable abbrev ff : Fg := ⟨false, []⟩

inductive Op where
  | add | sub | mul | fdiv | mod
inductive Cm where
  | eq | ne | lt | le | gt | ge | isin | notin
inductive Ty where
  | int | bool | list | str

noncomputable def imm : D → Bool
  | .none | .bool _ | .int _ | .str _ => true
  | .list _ | .tuple _ | .dict _ => false

noncomputable def tr (d : D) (K : Bool → Prop) : Prop := match d with
  | .bool b => K b
  | _ => False
theorem tr_inv {d : D} {K : Bool → Prop} (h : tr d K) : ∃ b, d = .bool b ∧ K b := by
  cases d with
  | bool b => exact ⟨b, rfl, h⟩
  | _ => exact h.elim

noncomputable def isTy : Ty → D → Bool
  | .int, .int _ | .int, .bool _ => true
  | .bool, .bool _ => true
  | .list, .list _ => true
  | .str, .str _ => true
  | _, _ => false

set_option genInjectivity false
set_option genSizeOfSpec false
mutual
inductive X where
  | var (i : Nat)
  | int (n : Int)
  | str (s : Str)
  | bool (b : Bool)
  | none
  | glob (i : Nat)
  | bin (op : Op) (a b : X)
  | neg (a : X)
  | not (a : X)
  | and (xs : Xs)
  | or (xs : Xs)
  | cmp (op : Cm) (a b : X)
  | cmp2 (o1 o2 : Cm) (a b c : X)
  | ite (t a b : X)
  | call (f : Nat) (xs : Xs)
  | len (a : X)
  | isinst (a : X) (t : Ty)
  | max (a b : X)
  | listOf (a : X)
  | intOf (a : X)
  | idx (a i : X)
  | upto (a i : X)
  | list (xs : Xs)
  | tup (xs : Xs)
  | split (a : X)
  | joinS (a : X)
  | dict01
  | keptEq (k i j : Nat)
inductive Xs where
  | nil
  | cons (x : X) (xs : Xs)
end

inductive It where
  | items (e : X)
  | back (e : X)
  | range (e : X)
  | down (e : X)

mutual
inductive S where
  | assign (i : Nat) (e : X)
  | pair (i j : Nat) (a b : X)
  | append (i : Nat) (e : X)
  | reverse (i : Nat)
  | expr (e : X)
  | ite (t : X) (a b : Ss)
  | ret (e : X)
  | whil (t : X) (b : Ss)
  | loop (i : Nat) (it : It) (b : Ss)
  | enum (i j : Nat) (e : X) (b : Ss)
  | never
  | raise (c : Nat)
  | rung (st pr fi se : Nat)
  | compCall (i f j : Nat) (e : X)
  | setAt (i : Nat) (k e : X)
  | tryT (f : Nat) (xs : Xs) (j w : Nat)
inductive Ss where
  | nil
  | cons (s : S) (r : Ss)
end

inductive Fl where
  | next
  | ret (d : D) (fresh : Bool)

noncomputable def sizeLid : Nat := 2 ^ 24
noncomputable def wordLid : Int := 2 ^ 63
noncomputable def rangeLid : Int := 2 ^ 62

noncomputable def mulOk (a b : Int) : Prop := a.natAbs < 2 ^ 64 ∨ b.natAbs < 2 ^ 64

noncomputable def flat (xs : List D) : Bool := xs.all imm

noncomputable def cpF (xs : List D) (f : Fg) : Fg := if flat xs then ff else ⟨true, f.u⟩

noncomputable def on (d : D) (i : Int → Prop) (l : List D → Prop) (s : Str → Prop) : Prop := match d with
  | .int n => i n
  | .list xs => l xs
  | .str x => s x
  | _ => False
noncomputable def no {α : Type} (_ : α) : Prop := False
noncomputable abbrev onI (d : D) (i : Int → Prop) : Prop := on d i no no
noncomputable abbrev onL (d : D) (l : List D → Prop) : Prop := on d no l no
noncomputable abbrev onS (d : D) (s : Str → Prop) : Prop := on d no no s
theorem on_inv {d : D} {i : Int → Prop} {l : List D → Prop} {s : Str → Prop} (h : on d i l s) : (∃ n, d = .int n ∧ i n) ∨ (∃ xs, d = .list xs ∧ l xs) ∨ ∃ x, d = .str x ∧ s x := by
  cases d with
  | int n => exact .inl ⟨n, rfl, h⟩
  | list xs => exact .inr (.inl ⟨xs, rfl, h⟩)
  | str x => exact .inr (.inr ⟨x, rfl, h⟩)
  | _ => exact h.elim
theorem onI_inv {d : D} {i : Int → Prop} (h : onI d i) : ∃ n, d = .int n ∧ i n := by
  rcases on_inv h with h | ⟨_, _, h⟩ | ⟨_, _, h⟩
  · exact h
  · exact h.elim
  · exact h.elim
theorem onL_inv {d : D} {l : List D → Prop} (h : onL d l) : ∃ xs, d = .list xs ∧ l xs := by
  rcases on_inv h with ⟨_, _, h⟩ | h | ⟨_, _, h⟩
  · exact h.elim
  · exact h
  · exact h.elim
theorem onS_inv {d : D} {s : Str → Prop} (h : onS d s) : ∃ x, d = .str x ∧ s x := by
  rcases on_inv h with ⟨_, _, h⟩ | ⟨_, _, h⟩ | h
  · exact h.elim
  · exact h.elim
  · exact h

noncomputable def binK (op : Op) (x : D) (f : Fg) (y : D) (g : Fg) (K : D → Fg → Prop) : Prop := match op with
  | .add => on x (fun a => onI y fun b => K (.int (a + b)) ff) (fun xs => onL y fun ys => xs.length + ys.length ≤ sizeLid ∧ K (.list (xs ++ ys)) (cpF (xs ++ ys) ⟨true, f.u ++ g.u⟩)) no
  | .sub => onI x fun a => onI y fun b => K (.int (a - b)) ff
  | .mul => on x (fun a => onI y fun b => mulOk a b ∧ K (.int (a * b)) ff) (fun xs => onI y fun n => flat xs = true ∧ n < wordLid ∧ -wordLid ≤ n ∧ xs.length * n.toNat ≤ sizeLid ∧ K (.list (List.replicate n.toNat xs).flatten) ff) no
  | .fdiv => onI x fun a => onI y fun b => b ≠ 0 ∧ K (.int (a.fdiv b)) ff
  | .mod => onI x fun a => onI y fun b => b ≠ 0 ∧ K (.int (a.fmod b)) ff

noncomputable def eqK (x y : D) (K : Bool → Prop) : Prop := match x with
  | .int a => (match y with
    | .int b => K (decide (a = b))
    | _ => SeqAt.shaped x = true ∧ SeqAt.shaped y = true ∧ K (PyData.eqv x y))
  | _ => SeqAt.shaped x = true ∧ SeqAt.shaped y = true ∧ K (PyData.eqv x y)
theorem eqK_inv {x y : D} {K : Bool → Prop} (h : eqK x y K) : (∃ a b, x = .int a ∧ y = .int b ∧ K (decide (a = b))) ∨ SeqAt.shaped x = true ∧ SeqAt.shaped y = true ∧ K (PyData.eqv x y) := by
  cases x with
  | int a => cases y with
    | int b => exact .inl ⟨a, b, rfl, rfl, h⟩
    | _ => exact .inr h
  | _ => exact .inr h

noncomputable def cmpK (op : Cm) (x y : D) (K : Bool → Prop) : Prop := match op with
  | .eq => eqK x y K
  | .ne => eqK x y fun b => K (!b)
  | .lt => onI x fun a => onI y fun b => K (decide (a < b))
  | .le => onI x fun a => onI y fun b => K (decide (a ≤ b))
  | .gt => onI x fun a => onI y fun b => K (decide (b < a))
  | .ge => onI x fun a => onI y fun b => K (decide (b ≤ a))
  | .isin => SeqAt.shaped x = true ∧ ∃ js : List Int, y = .tuple (js.map .int) ∧ K (js.any fun j => PyData.eqv (.int j) x)
  | .notin => onS x fun x => onS y fun y => ∃ c, x.cps.toList = [c] ∧ K (!y.cps.toList.contains c)

noncomputable def same2 (x y : D) : Prop := (SeqAt.shaped x = true ∧ SeqAt.shaped y = true ∧ PyData.eqv x y = true) ∨ ∃ d, x = .dict d ∧ y = .dict d
noncomputable def wordOf : Nat → List Nat
  | 2000 => [98, 101, 108, 111, 119]
  | 2001 => [98, 121]
  | 2002 => [98, 97, 115, 101]
  | 2003 => [114, 111, 119]
  | 2004 => [102, 105, 103, 117, 114, 101]
  | 2005 => [99, 111, 117, 110, 116]
  | _ => []

noncomputable def place (n : Nat) (k : Int) : Int := if k < 0 then k + n else k

noncomputable def idxK (d : D) (f : Fg) (k : D) (K : D → Fg → Prop) : Prop := onI k fun i => on d no
  (fun xs => -wordLid ≤ i ∧ i < wordLid ∧ 0 ≤ place xs.length i ∧ ∃ x, xs[(place xs.length i).toNat]? = some x ∧ K x (if imm x then ff else f))
  (fun s => i = 0 ∧ ∃ c r, s.cps.toList = c :: r ∧ K (.str (st [c])) ff)

noncomputable def rd (ρ : Vars) (i : Nat) (K : D → Fg → Prop) : Prop :=
  match ρ[i]? with
  | some (.val d) => K d ⟨!imm d, []⟩
  | some (.own d) => K d ⟨false, if imm d then [] else [i]⟩
  | _ => False

noncomputable def ownL (c : Option Cell) (k : List D → Prop) : Prop := match c with
  | some (.own d) => onL d k
  | _ => False
theorem ownL_inv {c : Option Cell} {k : List D → Prop} (h : ownL c k) : ∃ xs, c = some (.own (.list xs)) ∧ k xs := by
  match c, h with
  | some (.own d), h => obtain ⟨xs, rfl, h⟩ := onL_inv h; exact ⟨xs, rfl, h⟩
noncomputable def br : Bool → Prop → Prop → Prop
  | true, a, _ => a
  | false, _, b => b
theorem br_of {c : Bool} {a b : Prop} (h1 : c = true → a) (h2 : c = false → b) : br c a b := by cases c; exact h2 rfl; exact h1 rfl
theorem br_tt {c : Bool} {a b : Prop} (h : c = true) (h1 : a) : br c a b := by subst h; exact h1
theorem br_ff {c : Bool} {a b : Prop} (h : c = false) (h1 : b) : br c a b := by subst h; exact h1

noncomputable abbrev Calls := Nat → List D → (D → Bool → Prop) → Prop

mutual
noncomputable def wE (Φ : Calls) (ρ : Vars) : X → (D → Fg → Prop) → Prop
  | .var i, K => rd ρ i K
  | .int n, K => K (.int n) ff
  | .str s, K => K (.str s) ff
  | .bool b, K => K (.bool b) ff
  | .none, K => K .none ff
  | .glob i, K => Φ (1000 + i) [] fun d _ => imm d = true ∧ K d ff
  | .bin op a b, K => wE Φ ρ a fun x f => wE Φ ρ b fun y g => binK op x f y g K
  | .neg a, K => wE Φ ρ a fun x _ => onI x fun n => K (.int (-n)) ff
  | .not a, K => wE Φ ρ a fun x _ => tr x fun b => K (.bool (!b)) ff
  | .and xs, K => wAnd Φ ρ xs K
  | .or xs, K => wOr Φ ρ xs K
  | .cmp op a b, K => wE Φ ρ a fun x _ => wE Φ ρ b fun y _ => cmpK op x y fun r => K (.bool r) ff
  | .cmp2 o1 o2 a b c, K => wE Φ ρ a fun x _ => wE Φ ρ b fun y _ => cmpK o1 x y fun r => br r (wE Φ ρ c fun z _ => cmpK o2 y z fun r => K (.bool r) ff) (K (.bool false) ff)
  | .ite t a b, K => wE Φ ρ t fun d _ => tr d fun c => br c (wE Φ ρ a K) (wE Φ ρ b K)
  | .call f xs, K => wL Φ ρ xs fun ds _ => Φ f ds fun d fr => K d (if imm d then ff else if fr then ff else ⟨true, List.range ρ.length⟩)
  | .len a, K => wE Φ ρ a fun x _ => on x no (fun xs => K (.int xs.length) ff) fun s => K (.int s.cps.size) ff
  | .isinst a t, K => wE Φ ρ a fun x _ => K (.bool (isTy t x)) ff
  | .max a b, K => wE Φ ρ a fun x _ => wE Φ ρ b fun y _ => onI x fun m => onI y fun n => K (.int (if n > m then n else m)) ff
  | .listOf a, K => wE Φ ρ a fun x f => onL x fun xs => K (.list xs) (cpF xs f)
  | .intOf a, K => wE Φ ρ a fun x _ => onS x fun s => s.cps.toList ≠ [] ∧ s.cps.toList.length ≤ 640 ∧ (∀ c ∈ s.cps.toList, isDig c = true) ∧ K (.int (dval s.cps.toList)) ff
  | .idx a i, K => wE Φ ρ a fun x f => wE Φ ρ i fun k _ => idxK x f k K
  | .upto a i, K => wE Φ ρ a fun x f => wE Φ ρ i fun k _ => onL x fun xs => onI k fun n => 0 ≤ n ∧ K (.list (xs.take n.toNat)) (cpF (xs.take n.toNat) f)
  | .list xs, K => wL Φ ρ xs fun ds f => ds.length ≤ sizeLid ∧ K (.list ds) f
  | .tup xs, K => wL Φ ρ xs fun ds f => ds.length ≤ sizeLid ∧ K (.tuple ds) f
  | .split a, K => wE Φ ρ a fun x _ => onS x fun s => s.length ≤ 5000 ∧ (Txt.split s ⟨#[46]⟩).length ≤ 5000 ∧ (∀ p ∈ Txt.split s ⟨#[46]⟩, p.cps.size ≤ 5000) ∧ K (.list ((Txt.split s ⟨#[46]⟩).map .str)) ff
  | .joinS a, K => wE Φ ρ a fun x _ => onL x fun ds => ∃ ns : List Int, ds = ns.map .int ∧ ns.length ≤ 1000 ∧ (∀ n ∈ ns, 0 ≤ n ∧ n < 10000000000) ∧ ∀ x : Str, K (.str x) ff
  | .dict01, K => ∀ a : Int, K (.dict [(.none, .int a)]) ff
  | .keptEq k i j, K => rd ρ k fun x _ => rd ρ i fun y _ => rd ρ j fun z _ => (∃ a b, x = .list [a, b] ∧ same2 a y ∧ same2 b z) ∧ K (.bool true) ff
noncomputable def wAnd (Φ : Calls) (ρ : Vars) : Xs → (D → Fg → Prop) → Prop
  | .nil, _ => False
  | .cons x .nil, K => wE Φ ρ x K
  | .cons x xs, K => wE Φ ρ x fun d f => tr d fun c => br c (wAnd Φ ρ xs K) (K d f)
noncomputable def wOr (Φ : Calls) (ρ : Vars) : Xs → (D → Fg → Prop) → Prop
  | .nil, _ => False
  | .cons x .nil, K => wE Φ ρ x K
  | .cons x xs, K => wE Φ ρ x fun d f => tr d fun c => br c (K d f) (wOr Φ ρ xs K)
noncomputable def wL (Φ : Calls) (ρ : Vars) : Xs → (List D → Fg → Prop) → Prop
  | .nil, K => K [] ff
  | .cons x xs, K => wE Φ ρ x fun d f => wL Φ ρ xs fun ds g => K (d :: ds) ⟨f.sh || g.sh, f.u ++ g.u⟩
end

noncomputable def wT (Φ : Calls) (ρ : Vars) (x : X) (K : Bool → Prop) : Prop := wE Φ ρ x fun d _ => tr d K

noncomputable def dem : Vars → List Nat → Vars
  | ρ, [] => ρ
  | ρ, j :: r => match ρ[j]? with
    | some (.own d) => dem (ρ.set j (.val d)) r
    | _ => dem ρ r

noncomputable def asg (ρ : Vars) (i : Nat) (d : D) (f : Fg) : Vars :=
  if imm d then ρ.set i (.val d) else if f.sh = false ∧ f.u = [] then ρ.set i (.own d) else (dem ρ f.u).set i (.val d)

noncomputable def wIt (Φ : Calls) (ρ : Vars) : It → (List D → List Nat → Prop) → Prop
  | .items e, K => wE Φ ρ e fun x f => on x no (fun xs => K xs f.u) fun s => K (s.cps.toList.map fun c => .str (st [c])) []
  | .back e, K => wE Φ ρ e fun x f => onL x fun xs => K xs.reverse f.u
  | .range e, K => wE Φ ρ e fun x _ => onI x fun n => n < rangeLid ∧ -rangeLid ≤ n ∧ K ((List.range n.toNat).map fun (k : Nat) => .int k) []
  | .down e, K => wE Φ ρ e fun x _ => onI x fun n => n < rangeLid ∧ -rangeLid ≤ n ∧ K ((List.range (n + 1).toNat).map fun (k : Nat) => .int (n - k)) []

noncomputable def compK (Φ : Calls) (ρ : Vars) (i f j : Nat) (e : X) (Z : Nat → Prop) (Q : Fl → Vars → Prop) : Prop := wE Φ ρ e fun x _ => onL x fun ws =>
  ∃ (V : D → Int → Prop) (b : D), ρ[j]? = some (.val b) ∧ imm b = true ∧ flat ws = true ∧ ws.length ≤ 5000 ∧
      (∀ w ∈ ws, (∃ z : Int, V w z ∧ Φ f [b, w] fun r _ => r = .int z) ∨ Φ (500 + f) [b, w] fun d _ => ∃ c : Nat, d = .int (c : Int) ∧ Z c) ∧
      ∀ zs : List Int, zs.length = ws.length → (∀ (k : Nat) (w : D) (z : Int), ws[k]? = some w → zs[k]? = some z → V w z) → Q .next (ρ.set i (.own (.list (zs.map .int))))

noncomputable def lpost (I : Vars → Prop) (Q : Fl → Vars → Prop) : Fl → Vars → Prop
  | .next, τ => I τ
  | .ret d fr, τ => Q (.ret d fr) τ
noncomputable def xE (Φ : Calls) (ρ : Vars) (Z : Nat → Prop) : X → Prop
  | .call f xs => wL Φ ρ xs fun ds _ => Φ (500 + f) ds fun d _ => ∃ c : Nat, d = .int (c : Int) ∧ Z c
  | .not a => xE Φ ρ Z a
  | _ => False
noncomputable def noX : X → Bool
  | .call .. | .not _ => false
  | _ => true
noncomputable def orX (Φ : Calls) (ρ : Vars) (Z : Nat → Prop) (x : X) (P : Prop) : Prop := br (noX x) P (xE Φ ρ Z x ∨ P)
theorem orX_inv {Φ : Calls} {ρ : Vars} {Z : Nat → Prop} {x : X} {P : Prop} (h : orX Φ ρ Z x P) : xE Φ ρ Z x ∨ P := by
  unfold orX at h
  cases e : noX x <;> rw [e] at h
  · exact h
  · exact .inr h

mutual
noncomputable def xS (Φ : Calls) (Z : Nat → Prop) : S → (Fl → Vars → Prop) → Vars → Prop
  | .assign i e, Q, ρ => wE Φ ρ e fun d f => Q .next (asg ρ i d f)
  | .pair i j a b, Q, ρ => wE Φ ρ a fun x f => wE Φ ρ b fun y k => f.sh = false ∧ f.u = [] ∧ k.sh = false ∧ k.u = [] ∧ Q .next (asg (asg ρ j y ff) i x ff)
  | .append i e, Q, ρ => ownL ρ[i]? fun xs => wE Φ ρ e fun d f => f.sh = false ∧ f.u = [] ∧ xs.length + 1 ≤ sizeLid ∧ Q .next (ρ.set i (.own (.list (xs ++ [d]))))
  | .reverse i, Q, ρ => ownL ρ[i]? fun xs => Q .next (ρ.set i (.own (.list xs.reverse)))
  | .expr e, Q, ρ => orX Φ ρ Z e (wE Φ ρ e fun _ _ => Q .next ρ)
  | .ite t a b, Q, ρ => orX Φ ρ Z t (wT Φ ρ t fun r => br r (xSs Φ Z a Q ρ) (xSs Φ Z b Q ρ))
  | .ret e, Q, ρ => orX Φ ρ Z e (wE Φ ρ e fun d f => Q (.ret d (!f.sh && decide f.u.Nodup)) ρ)
  | .whil t b, Q, ρ => ∃ I : Nat → Vars → Prop, (∃ n, I n ρ) ∧ ∀ n σ, I n σ → wT Φ σ t fun r =>
      br r (xSs Φ (fun _ => False) b (lpost (fun τ => ∃ m, m < n ∧ I m τ) Q) σ) (Q .next σ)
  | .loop i it b, Q, ρ => wIt Φ ρ it fun ds u => ∃ I : Nat → Vars → Prop, I 0 (dem ρ u) ∧
      (∀ k σ d, ds[k]? = some d → I k σ → xSs Φ Z b (lpost (I (k + 1)) Q) (asg σ i d ⟨true, []⟩)) ∧
      ∀ σ, I ds.length σ → Q .next σ
  | .enum i j e b, Q, ρ => wE Φ ρ e fun x f => onL x fun ds => ∃ I : Nat → Vars → Prop, I 0 (dem ρ f.u) ∧
        (∀ k σ d, ds[k]? = some d → I k σ → xSs Φ (fun _ => False) b (lpost (I (k + 1)) Q) (asg (asg σ i (.int k) ff) j d ⟨true, []⟩)) ∧
        ∀ σ, I ds.length σ → Q .next σ
  | .never, _, _ => False
  | .raise c, _, _ => Z c
  | .rung st pr fi se, Q, ρ => ∃ (xs : List D) (a b c : D), ρ[st]? = some (.own (.list xs)) ∧ ρ[pr]? = some (.own (.tuple [a, b])) ∧ ρ[se]? = some (.own c) ∧ xs.length + 1 ≤ sizeLid ∧
      Q .next ((((ρ.set pr .unset).set st (.own (.list (xs ++ [a])))).set fi (.own c)).set se (.own b))
  | .compCall i f j e, Q, ρ => compK Φ ρ i f j e Z Q
  | .setAt i k e, Q, ρ => wE Φ ρ e fun d f => ownL ρ[i]? fun xs => wE Φ ρ k fun kd _ => onI kd fun m => 0 ≤ m ∧ m < xs.length ∧ flat xs = true ∧ f.sh = false ∧ f.u = [] ∧ Q .next (ρ.set i (.own (.list (xs.set m.toNat d))))
  | .tryT f xs j w, Q, ρ => (wL Φ ρ xs fun ds _ => Φ f ds fun _ _ => Q .next ρ) ∨
      (ρ[j]? = some .unset ∧ ρ[w]? = some .unset ∧ wL Φ ρ xs fun ds _ => Φ (500 + f) ds fun d _ => ∃ c : Nat, d = .int (c : Int) ∧ 2000 ≤ c ∧ c ≤ 2005 ∧ Q (.ret (.str (st (wordOf c))) true) ρ)
noncomputable def xSs (Φ : Calls) (Z : Nat → Prop) : Ss → (Fl → Vars → Prop) → Vars → Prop
  | .nil, Q, ρ => Q .next ρ
  | .cons s r, Q, ρ => xS Φ Z s (fun fl σ => match fl with | .next => xSs Φ Z r Q σ | .ret d fr => Q (.ret d fr) σ) ρ
end
inductive O where
  | ok (P : D → Bool → Prop)
  | ex (c : Nat)
noncomputable abbrev Sp := List D → O → Prop
noncomputable def O.Z : O → Nat → Prop
  | .ok _ => fun _ => False
  | .ex c => (· = c)
noncomputable def O.K : O → D → Bool → Prop
  | .ok P => P
  | .ex _ => fun _ _ => False
structure Has (Φ : Calls) (f : Nat) (sp : Sp) : Prop where
  ok : ∀ {ds P K}, sp ds (.ok P) → (∀ d fr, P d fr → K d fr) → Φ f ds K
  ex : ∀ {ds c K}, sp ds (.ex c) → K (.int (c : Int)) true → Φ (500 + f) ds K
noncomputable def startVars (ds : List D) (m : Nat) : Vars := ds.map .val ++ List.replicate (m - ds.length) .unset
noncomputable def retPost (K : D → Bool → Prop) : Fl → Vars → Prop
  | .ret d fr, _ => K d fr
  | .next, _ => K .none true
noncomputable def Yes (Φ : Calls) (b : Ss) (k m : Nat) (sp : Sp) : Prop := ∀ ds o, sp ds o → ds.length = k ∧ xSs Φ o.Z b (retPost o.K) (startVars ds m)
end Mine
set_option Elab.async false
set_option maxRecDepth 100000
namespace Mine
open PySem PySem.Calls PyProof.Rows

noncomputable def Ext (h h' : Heap) : Prop := ∀ b o, h.get? b = some o → h'.get? b = some o ∨ ((∀ vs, o.data ≠ .fields vs) ∧ ∃ sl, h'.get? b = some { o with slots := sl })

theorem Ext.refl (h : Heap) : Ext h h := fun _ _ e => .inl e
theorem Ext.of_keep {h h' : Heap} (k : ∀ b o, h.get? b = some o → h'.get? b = some o) : Ext h h' := fun b o e => .inl (k b o e)
theorem Ext.trans {h₁ h₂ h₃ : Heap} (x : Ext h₁ h₂) (y : Ext h₂ h₃) : Ext h₁ h₃ := by
  intro b o e
  rcases x b o e with e | ⟨hd, sl, e⟩
  · exact y b o e
  · rcases y b _ e with e' | ⟨_, sl', e'⟩
    · exact .inr ⟨hd, sl, e'⟩
    · exact .inr ⟨hd, sl', e'⟩
theorem Ext.push (h : Heap) (o : Obj) : Ext h (h.push o) := .of_keep fun _ _ e => Heap.get?_push_of_some o e
theorem Ext.fresh {h h' : Heap} (x : Ext h h') {a : Addr} (e : h'.get? a = none) : h.get? a = none := by
  cases hq : h.get? a with
  | none => rfl
  | some o => rcases x a o hq with q | ⟨_, _, q⟩ <;> rw [q] at e <;> cases e
theorem Ext.soft {h h' : Heap} (x : Ext h h') {b : Addr} {o : Obj} (e : h.get? b = some o) : ∃ sl, h'.get? b = some { o with slots := sl } := by
  rcases x b o e with q | ⟨_, sl, q⟩
  · exact ⟨o.slots, q⟩
  · exact ⟨sl, q⟩
theorem fresh_size (h : Heap) : h.get? h.objs.size = none := by
  cases hq : h.get? h.objs.size with
  | none => rfl
  | some o => exact absurd (Heap.lt_size hq) (Nat.lt_irrefl _)

theorem Ext.ns {h h' : Heap} (x : Ext h h') {a : Addr} {m : Str → Option Value} (e : h.Ns a m) : h'.Ns a m := by
  obtain ⟨o, es, ep, ho, hd, r⟩ := e
  rcases x a o ho with q | ⟨_, sl, q⟩
  · exact ⟨o, es, ep, q, hd, r⟩
  · exact ⟨_, es, ep, q, hd, r⟩

noncomputable def SeqO (h : Heap) (t : String) (a : Addr) (vs : Array Value) : Prop := ∃ n sl, h.get? a = some { cls := .type t, dict := none, data := .seq vs n, slots := sl } ∧ vs.size ≤ sizeLine
mutual
noncomputable def Rp (h : Heap) : Value → D → List Addr → Prop
  | v, .none, as => v = .none ∧ as = []
  | v, .bool b, as => v = .bool b ∧ as = []
  | v, .int i, as => (∃ t, v = .int i t) ∧ as = []
  | v, .str x, as => (∃ t, v = .str x t) ∧ as = [] ∧ x.cps.size ≤ sizeLine
  | v, .list xs, as => ∃ a vs bs, v = .ref a ∧ as = a :: bs ∧ SeqO h "list" a vs ∧ Rps h vs.toList xs bs
  | v, .tuple xs, as => ∃ a vs, v = .ref a ∧ SeqO h "tuple" a vs ∧ Rps h vs.toList xs as
  | v, .dict kvs, as => ∃ (a : Nat) (o : Obj) (es : _) (n : _) (t : Tok), v = .ref a ∧ as = [] ∧ kvs = [(.none, .int (a : Int))] ∧ h.get? a = some o ∧ o.cls = .type "dict" ∧ o.data = .dict es n ∧ (es[0]?).map (·.key) = some (Value.int 0 t)
noncomputable def Rps (h : Heap) : List Value → List D → List Addr → Prop
  | vs, [], as => vs = [] ∧ as = []
  | vs, d :: ds, as => ∃ v ws bs cs, vs = v :: ws ∧ as = bs ++ cs ∧ Rp h v d bs ∧ Rps h ws ds cs
end
theorem Rp.none {h : Heap} : Rp h .none .none [] := ⟨rfl, rfl⟩
theorem Rp.bool {h : Heap} (b : Bool) : Rp h (.bool b) (.bool b) [] := ⟨rfl, rfl⟩
theorem Rp.int {h : Heap} (i : Int) (t : Tok) : Rp h (.int i t) (.int i) [] := ⟨⟨t, rfl⟩, rfl⟩
theorem Rp.str {h : Heap} (x : Str) (t : Tok) (z : x.cps.size ≤ sizeLine) : Rp h (.str x t) (.str x) [] := ⟨⟨t, rfl⟩, rfl, z⟩
theorem Rp.list {h : Heap} {a vs xs as} (o : SeqO h "list" a vs) (r : Rps h vs.toList xs as) : Rp h (.ref a) (.list xs) (a :: as) := ⟨a, vs, as, rfl, rfl, o, r⟩
theorem Rp.tuple {h : Heap} {a vs xs as} (o : SeqO h "tuple" a vs) (r : Rps h vs.toList xs as) : Rp h (.ref a) (.tuple xs) as := ⟨a, vs, rfl, o, r⟩
theorem Rps.nil {h : Heap} : Rps h [] [] [] := ⟨rfl, rfl⟩
theorem Rps.cons {h : Heap} {v vs d ds as bs} (x : Rp h v d as) (y : Rps h vs ds bs) : Rps h (v :: vs) (d :: ds) (as ++ bs) := ⟨v, vs, as, bs, rfl, rfl, x, y⟩
theorem Rp.int_inv {h : Heap} {v i as} (r : Rp h v (.int i) as) : ∃ t, v = .int i t ∧ as = [] := by
  obtain ⟨⟨t, e⟩, e'⟩ := r; exact ⟨t, e, e'⟩
theorem Rp.str_inv {h : Heap} {v x as} (r : Rp h v (.str x) as) : ∃ t, v = .str x t ∧ as = [] ∧ x.cps.size ≤ sizeLine := by
  obtain ⟨⟨t, e⟩, e'⟩ := r; exact ⟨t, e, e'⟩
theorem Rp.list_inv {h : Heap} {v xs as} (r : Rp h v (.list xs) as) : ∃ a vs n sl as', v = .ref a ∧ as = a :: as' ∧ h.get? a = some { cls := .type "list", dict := Option.none, data := .seq vs n, slots := sl } ∧ vs.size ≤ sizeLine ∧ Rps h vs.toList xs as' := by
  obtain ⟨a, vs, bs, e, e', ⟨n, sl, o, z⟩, r⟩ := r; exact ⟨a, vs, n, sl, bs, e, e', o, z, r⟩
theorem Rp.tuple_inv {h : Heap} {v xs as} (r : Rp h v (.tuple xs) as) : ∃ a vs n sl, v = .ref a ∧ h.get? a = some { cls := .type "tuple", dict := Option.none, data := .seq vs n, slots := sl } ∧ vs.size ≤ sizeLine ∧ Rps h vs.toList xs as := by
  obtain ⟨a, vs, e, ⟨n, sl, o, z⟩, r⟩ := r; exact ⟨a, vs, n, sl, e, o, z, r⟩

theorem Rp.ind {h : Heap} {M : Value → D → List Addr → Prop} {N : List Value → List D → List Addr → Prop}
    (im : ∀ v d as, Mine.imm d = true → Rp h v d as → M v d as)
    (li : ∀ a vs xs bs, SeqO h "list" a vs → N vs.toList xs bs → M (.ref a) (.list xs) (a :: bs))
    (tu : ∀ a vs xs as, SeqO h "tuple" a vs → N vs.toList xs as → M (.ref a) (.tuple xs) as)
    (di : ∀ v kvs as, Rp h v (.dict kvs) as → M v (.dict kvs) as)
    (ni : N [] [] []) (co : ∀ v d ws ds bs cs, M v d bs → N ws ds cs → N (v :: ws) (d :: ds) (bs ++ cs)) : ∀ (d : D) v as, Rp h v d as → M v d as := by
  intro d
  refine PyData.rec (motive_1 := fun d => ∀ v as, Rp h v d as → M v d as) (motive_2 := fun ds => ∀ vs as, Rps h vs ds as → N vs ds as) (motive_3 := fun _ => True) (motive_4 := fun _ => True)
    ?_ ?_ ?_ ?_ ?_ ?_ ?_ ?_ ?_ ?_ ?_ ?_ d
  · exact fun v as r => im _ _ _ rfl r
  · exact fun b v as r => im _ _ _ rfl r
  · exact fun i v as r => im _ _ _ rfl r
  · exact fun x v as r => im _ _ _ rfl r
  · intro xs ih v as r
    obtain ⟨a, vs, bs, rfl, rfl, o, r⟩ := r
    exact li _ _ _ _ o (ih _ _ r)
  · intro xs ih v as r
    obtain ⟨a, vs, rfl, o, r⟩ := r
    exact tu _ _ _ _ o (ih _ _ r)
  · exact fun kvs _ v as r => di _ _ _ r
  · intro vs as r
    obtain ⟨rfl, rfl⟩ := r
    exact ni
  · intro d ds x y vs as r
    obtain ⟨v, ws, bs, cs, rfl, rfl, r1, r2⟩ := r
    exact co _ _ _ _ _ _ (x _ _ r1) (y _ _ r2)
  · trivial
  · exact fun _ _ _ _ => trivial
  · exact fun _ _ _ _ => trivial
theorem Rps.ind {h : Heap} {N : List Value → List D → List Addr → Prop}
    (ni : N [] [] []) (co : ∀ v d ws ds bs cs, Rp h v d bs → Rps h ws ds cs → N ws ds cs → N (v :: ws) (d :: ds) (bs ++ cs)) : ∀ {vs ds as}, Rps h vs ds as → N vs ds as := by
  intro vs ds
  induction ds generalizing vs with
  | nil => rintro as ⟨rfl, rfl⟩; exact ni
  | cons d ds ih => rintro as ⟨v, ws, bs, cs, rfl, rfl, r1, r2⟩; exact co _ _ _ _ _ _ r1 r2 (ih r2)

theorem Rp.imm {h : Heap} {v d as} (r : Rp h v d as) (hi : Mine.imm d = true) : as = [] := by
  cases d with
  | none | bool | int => exact r.2
  | str => exact r.2.1
  | _ => cases hi
theorem Rp.anywhere {h h' : Heap} {v d as} (r : Rp h v d as) (hi : Mine.imm d = true) : Rp h' v d [] := by
  have e := r.imm hi
  subst e
  cases d with
  | none | bool | int | str => exact r
  | _ => cases hi

theorem Rp.reads {h : Heap} {v : Value} {d : D} {as : List Addr} (r : Rp h v d as) : d.canLay0 = true → Reads h v d as := by
  refine Rp.ind (M := fun v d as => d.canLay0 = true → Reads h v d as) (N := fun vs ds as => PyData.canLayAll0 ds = true → ReadsAll h vs ds as) ?_ ?_ ?_ ?_ ?_ ?_ d v as r
  · intro v d as hi r
    cases d with
    | none => obtain ⟨rfl, rfl⟩ := r; exact fun _ => .none
    | bool b => obtain ⟨rfl, rfl⟩ := r; exact fun _ => .bool b
    | int i => obtain ⟨⟨t, rfl⟩, rfl⟩ := r; exact fun _ => .int i t
    | str x => obtain ⟨⟨t, rfl⟩, rfl, _⟩ := r; exact fun _ => .str x t
    | _ => cases hi
  · intro a vs xs bs o ih k; obtain ⟨n, sl, o, _⟩ := o; exact .list o rfl rfl (ih k)
  · intro a vs xs bs o ih k; obtain ⟨n, sl, o, _⟩ := o; exact .tuple o rfl rfl (ih k)
  · exact fun _ _ _ _ k => nomatch k
  · exact fun _ => .nil
  · exact fun _ _ _ _ _ _ x y k => .cons (x (Bool.and_eq_true_iff.mp k).1) (y (Bool.and_eq_true_iff.mp k).2)

noncomputable def Plain (h : Heap) (a : Addr) : Prop := ∃ vs, SeqO h "list" a vs
theorem Rp.mem {h : Heap} {v : Value} {d : D} {as : List Addr} (r : Rp h v d as) : ∀ a ∈ as, Plain h a := by
  refine Rp.ind (M := fun _ _ as => ∀ a ∈ as, Plain h a) (N := fun _ _ as => ∀ a ∈ as, Plain h a) ?_ ?_ ?_ ?_ ?_ ?_ d v as r
  · exact fun v d as hi r a ha => by rw [r.imm hi] at ha; cases ha
  · exact fun a vs xs bs o ih b hb => (List.mem_cons.mp hb).elim (fun q => q ▸ ⟨vs, o⟩) (ih b)
  · exact fun a vs xs bs o ih => ih
  · exact fun v kvs as r a ha => by obtain ⟨_, _, _, _, _, _, rfl, _⟩ := r; cases ha
  · exact fun _ ha => nomatch ha
  · exact fun _ _ _ _ _ _ x y a ha => (List.mem_append.mp ha).elim (x a) (y a)
theorem Rps.mem {h : Heap} {vs ds as} (r : Rps h vs ds as) : ∀ a ∈ as, Plain h a :=
  Rps.ind (N := fun _ _ as => ∀ a ∈ as, Plain h a) (fun _ ha => nomatch ha) (fun _ _ _ _ _ _ x _ y a ha => (List.mem_append.mp ha).elim (x.mem a) (y a)) r

noncomputable def Tame (o : Obj) : Prop := o.cls = .type "list" ∨ (∃ vs, o.data = .fields vs) ∨ (∃ v, o.data = .cell v) ∨ ∃ es n, o.data = .dict es n ∧ StrKeys es
noncomputable def StayBut (S : Addr → Prop) (h h' : Heap) : Prop :=
  (∀ b o, h.get? b = some o → ¬ S b → h'.get? b = some o ∨ ((∀ vs, o.data ≠ .fields vs) ∧ ∃ sl, h'.get? b = some { o with slots := sl })) ∧ ∀ b o, S b → h.get? b = some o → Tame o
theorem StayBut.soft {S : Addr → Prop} {h h' : Heap} (k : StayBut S h h') {b : Addr} {o : Obj} (e : h.get? b = some o) (n : ¬ S b) : ∃ sl, h'.get? b = some { o with slots := sl } := by
  rcases k.1 b o e n with q | ⟨_, sl, q⟩
  · exact ⟨o.slots, q⟩
  · exact ⟨sl, q⟩

theorem Ext.stay {h h' : Heap} (x : Ext h h') : StayBut (fun _ => False) h h' := ⟨fun b o e _ => x b o e, fun _ _ f => f.elim⟩

theorem Tame.notTuple {o : Obj} {vs n} (t : Tame o) (c : o.cls = .type "tuple") (d : o.data = .seq vs n) : False := by
  rcases t with q | ⟨_, q⟩ | ⟨_, q⟩ | ⟨_, _, q, _⟩
  · rw [c] at q; exact absurd q (by decide)
  · rw [d] at q; cases q
  · rw [d] at q; cases q
  · rw [d] at q; cases q
theorem Tame.notDict {o : Obj} {es n t} (k : Tame o) (c : o.cls = .type "dict") (d : o.data = .dict es n) (z : (es[0]?).map (·.key) = some (Value.int 0 t)) : False := by
  rcases k with q | ⟨_, q⟩ | ⟨_, q⟩ | ⟨es, n, q, sk⟩
  · rw [c] at q; exact absurd q (by decide)
  · rw [d] at q; cases q
  · rw [d] at q; cases q
  · rw [d] at q; cases q
    rw [Option.map_eq_some_iff] at z
    obtain ⟨en, t1, t2⟩ := z
    obtain ⟨nm, tk, t3⟩ := sk en (Array.mem_of_getElem? t1)
    rw [t3] at t2; cases t2
theorem SeqO.stay {S : Addr → Prop} {h h' : Heap} (k : StayBut S h h') {t a vs} (o : SeqO h t a vs) (hn : ¬ S a) : SeqO h' t a vs := by
  obtain ⟨n, sl, e, z⟩ := o
  obtain ⟨sl', q⟩ := k.soft e hn
  exact ⟨n, sl', q, z⟩
theorem Rp.stay {S : Addr → Prop} {h h' : Heap} (k : StayBut S h h') {v d as} (r : Rp h v d as) : (∀ a ∈ as, ¬ S a) → Rp h' v d as := by
  refine Rp.ind (M := fun v d as => (∀ a ∈ as, ¬ S a) → Rp h' v d as) (N := fun vs ds as => (∀ a ∈ as, ¬ S a) → Rps h' vs ds as) ?_ ?_ ?_ ?_ ?_ ?_ d v as r
  · exact fun v d as hi r _ => by rw [r.imm hi]; exact r.anywhere hi
  · exact fun a vs xs bs o ih hn => ⟨a, vs, bs, rfl, rfl, o.stay k (hn _ (.head _)), ih fun b hb => hn b (.tail _ hb)⟩
  · exact fun a vs xs bs o ih hn => ⟨a, vs, rfl, o.stay k (fun hs => by obtain ⟨n, sl, e, _⟩ := o; exact (k.2 _ _ hs e).notTuple rfl rfl), ih hn⟩
  · intro v kvs as r _
    obtain ⟨a, o, es, n, t, e1, e2, e3, e, c, d, z⟩ := r
    obtain ⟨sl, q⟩ := k.soft e fun hs => (k.2 _ _ hs e).notDict c d z
    exact ⟨a, _, es, n, t, e1, e2, e3, q, c, d, z⟩
  · exact fun _ => .nil
  · exact fun _ _ _ _ _ _ x y hn => .cons (x fun a ha => hn a (List.mem_append_left _ ha)) (y fun a ha => hn a (List.mem_append_right _ ha))
theorem Rps.stay {S : Addr → Prop} {h h' : Heap} (k : StayBut S h h') {vs ds as} (r : Rps h vs ds as) : (∀ a ∈ as, ¬ S a) → Rps h' vs ds as :=
  Rps.ind (N := fun vs ds as => (∀ a ∈ as, ¬ S a) → Rps h' vs ds as) (fun _ => .nil) (fun _ _ _ _ _ _ x _ y hn => .cons (x.stay k fun a ha => hn a (List.mem_append_left _ ha)) (y fun a ha => hn a (List.mem_append_right _ ha))) r
theorem Rp.ext {h h' : Heap} (x : Ext h h') {v d as} (r : Rp h v d as) : Rp h' v d as := Rp.stay x.stay r fun _ _ f => f
theorem Rps.ext {h h' : Heap} (x : Ext h h') {vs ds as} (r : Rps h vs ds as) : Rps h' vs ds as := Rps.stay x.stay r fun _ _ f => f

theorem Rps.length {h : Heap} {vs ds as} (r : Rps h vs ds as) : vs.length = ds.length :=
  Rps.ind (N := fun vs ds _ => vs.length = ds.length) rfl (fun _ _ _ _ _ _ _ _ y => congrArg (· + 1) y) r

theorem Rps.get {h : Heap} {vs ds as} (r : Rps h vs ds as) : ∀ (i : Nat) (d : D), ds[i]? = some d → ∃ v bs, vs[i]? = some v ∧ Rp h v d bs ∧ List.Sublist bs as := by
  refine Rps.ind (N := fun vs ds as => ∀ (i : Nat) (d : D), ds[i]? = some d → ∃ v bs, vs[i]? = some v ∧ Rp h v d bs ∧ List.Sublist bs as) (fun i d e => nomatch e) (fun v d ws ds bs cs x _ ih i e' he => ?_) r
  cases i with
  | zero => injection he with he; subst he; exact ⟨v, bs, rfl, x, List.sublist_append_left _ _⟩
  | succ i =>
    obtain ⟨v', bs', h1, h2, h3⟩ := ih i e' he
    exact ⟨v', bs', h1, h2, h3.trans (List.sublist_append_right _ _)⟩

theorem Rps.flat {h : Heap} {vs ds as} (r : Rps h vs ds as) : Mine.flat ds = true → as = [] := by
  refine Rps.ind (N := fun _ ds as => Mine.flat ds = true → as = []) (fun _ => rfl) (fun v d ws ds bs cs x _ ih hf => ?_) r
  rw [Rp.imm x (Bool.and_eq_true_iff.mp hf).1, ih (Bool.and_eq_true_iff.mp hf).2]; rfl

theorem Rps.append {h : Heap} {vs ds as ws es bs} (r : Rps h vs ds as) (y : Rps h ws es bs) : Rps h (vs ++ ws) (ds ++ es) (as ++ bs) :=
  Rps.ind (N := fun vs ds as => Rps h (vs ++ ws) (ds ++ es) (as ++ bs)) y (fun _ _ _ _ _ _ x _ ih => by rw [List.append_assoc]; exact .cons x ih) r

theorem Rps.take {h : Heap} {vs ds as} (r : Rps h vs ds as) : ∀ j, ∃ bs, Rps h (vs.take j) (ds.take j) bs ∧ List.Sublist bs as := by
  refine Rps.ind (N := fun vs ds as => ∀ j, ∃ bs, Rps h (vs.take j) (ds.take j) bs ∧ List.Sublist bs as) (fun j => ⟨[], by rw [List.take_nil, List.take_nil]; exact .nil, List.Sublist.refl _⟩) (fun v d ws ds bs cs x _ ih j => ?_) r
  cases j with
  | zero => exact ⟨[], .nil, List.nil_sublist _⟩
  | succ j =>
    obtain ⟨bs, h1, h2⟩ := ih j
    exact ⟨_, .cons x h1, List.Sublist.append (List.Sublist.refl _) h2⟩

theorem Rps.reverse {h : Heap} {vs ds as} (r : Rps h vs ds as) : ∃ bs, Rps h vs.reverse ds.reverse bs ∧ ∀ a, a ∈ bs ↔ a ∈ as := by
  refine Rps.ind (N := fun vs ds as => ∃ bs, Rps h vs.reverse ds.reverse bs ∧ ∀ a, a ∈ bs ↔ a ∈ as) ⟨[], .nil, fun _ => Iff.rfl⟩ (fun v d ws ds as bs x _ ih => ?_) r
  obtain ⟨cs, h1, h2⟩ := ih
  refine ⟨cs ++ (as ++ []), ?_, fun a => ?_⟩
  · rw [List.reverse_cons, List.reverse_cons]
    exact Rps.append h1 (.cons x .nil)
  · rw [List.append_nil, List.mem_append, List.mem_append, h2]
    exact Or.comm

noncomputable def dTy : D → String
  | .none => "NoneType" | .bool _ => "bool" | .int _ => "int" | .str _ => "str" | .list _ => "list" | .tuple _ => "tuple" | .dict _ => "dict"
theorem Rp.type {s : Shared} {d : D} {v : Value} {as : List Addr} (r : Rp s.heap v d as) : s.TypeIs v (dTy d) := by
  cases d with
  | none => obtain ⟨rfl, _⟩ := r; rfl
  | bool b => obtain ⟨rfl, _⟩ := r; rfl
  | int i => obtain ⟨⟨t, rfl⟩, _⟩ := r; rfl
  | str x => obtain ⟨⟨t, rfl⟩, _⟩ := r; rfl
  | list xs => obtain ⟨a, vs, bs, rfl, _, ⟨n, sl, e, _⟩, _⟩ := r; exact ⟨_, e, rfl⟩
  | tuple xs => obtain ⟨a, vs, rfl, ⟨n, sl, e, _⟩, _⟩ := r; exact ⟨_, e, rfl⟩
  | dict kvs => obtain ⟨a, o, es, n, t, rfl, _, _, e, c, _⟩ := r; exact ⟨_, e, c⟩
end Mine
set_option Elab.async false
set_option maxRecDepth 100000
namespace Mine
open PySem PySem.Calls PyProof.Rows

structure Gx where
  p : Program
  w : World
  base : Heap
  mg : Str → Option Value
  mb : Str → Option Value

noncomputable def bltTab : List (Str × Value) := [("len", .builtin "len"), ("isinstance", .builtin "isinstance"), ("int", .type "int"), ("bool", .type "bool"), ("list", .type "list"),
  ("tuple", .type "tuple"), ("str", .type "str"), ("max", .builtin "max"), ("min", .builtin "min"), ("range", .type "range"), ("reversed", .type "reversed"), ("enumerate", .type "enumerate"), ("ValueError", .type "ValueError")]

structure Gd (g : Gx) : Prop where
  glb : g.base.Ns mainGlobals g.mg
  bns : g.base.Ns builtinsNs g.mb
  nolimit : g.base.NoLimit
  noseer : g.base.NoSeer
  tree : g.p.given.tree = none
  blt : ∀ x v, bltTab.lookup x = some v → g.mg x = none ∧ g.mb x = some v

noncomputable def Step (g : Gx) (s s' : Shared) : Prop := ∃ h' tk, s' = { s with heap := h', toks := tk } ∧ Ext s.heap h' ∧ g.base.StaysIn h'

theorem Step.refl {g : Gx} {s : Shared} (h : g.base.StaysIn s.heap) : Step g s s := ⟨s.heap, s.toks, rfl, .refl _, h⟩
theorem Step.trans {g : Gx} {s₁ s₂ s₃ : Shared} (x : Step g s₁ s₂) (y : Step g s₂ s₃) : Step g s₁ s₃ := by
  obtain ⟨h, tk, rfl, e, _⟩ := x
  obtain ⟨h', tk', rfl, e', b'⟩ := y
  exact ⟨h', tk', rfl, e.trans e', b'⟩
theorem Step.ext {g : Gx} {s s' : Shared} (x : Step g s s') : Ext s.heap s'.heap := by obtain ⟨h, tk, rfl, e, _⟩ := x; exact e
theorem Step.stays {g : Gx} {s s' : Shared} (x : Step g s s') : g.base.StaysIn s'.heap := by obtain ⟨h, tk, rfl, _, b⟩ := x; exact b
theorem Step.toks {g : Gx} {s s' : Shared} (x : Step g s s') (tk : Nat) : Step g s { s' with toks := tk } := by
  obtain ⟨h, tk', rfl, e, b⟩ := x
  exact ⟨h, tk, rfl, e, b⟩
theorem Step.keep {g : Gx} {s s' : Shared} (x : Step g s s') {h' : Heap} (k : ∀ b o, s'.heap.get? b = some o → h'.get? b = some o) (tk : Nat) : Step g s { s' with heap := h', toks := tk } := by
  obtain ⟨h, tk', rfl, e, b⟩ := x
  exact ⟨h', tk, rfl, e.trans (.of_keep k), fun a o q => k a o (b a o q)⟩
theorem Step.push {g : Gx} {s s' : Shared} (x : Step g s s') (o : Obj) : Step g s { s' with heap := s'.heap.push o } := x.keep (fun _ _ e => Heap.get?_push_of_some o e) s'.toks

structure Room (A : Around) (n : Nat) (fr : List Env) : Prop where
  frames : A.frames = some fr
  depth : A.depth + n + 150 < recursionLimit
  units : A.units + 8 * n + 300 < cLine
  handled : A.handled = none

noncomputable abbrev mkEnv (name : Str) (sc : Scope) (L fa : Addr) (cd : Value) (cl : List (Str × Addr)) : Env :=
  { scope := sc, locals := L, globals := mainGlobals, cells := cl, qual := name ++ ".<locals>.", func := some fa, code := cd, frame := some L, builtins := builtinsNs }

structure Fm where
  name : Str
  L : Addr
  fa : Addr
  cd : Value
  cl : List (Str × Addr)
  outer : List Env
  H : Addr → Option Obj

noncomputable abbrev Fm.env (F : Fm) (sc : Scope) : Env := mkEnv F.name sc F.L F.fa F.cd F.cl

noncomputable def VarIs (env : Env) (h : Heap) (x : Str) (v : Value) : Prop :=
  (env.kindOf x = some .local ∧ ∃ m, h.Ns env.locals m ∧ m x = some v) ∨
  (env.kindOf x = some .cell ∧ ∃ c o, env.cells.lookup x = some c ∧ h.get? c = some o ∧ o.data = .cell (some v))

noncomputable def slots (sc : Scope) : List Str := (sc.names.filter fun p => p.2 == .local || p.2 == .cell).map (·.1)

structure Rel (g : Gx) (F : Fm) (sc : Scope) (h : Heap) (ρ : Vars) (fp : Nat → List Addr) : Prop where
  stays : g.base.StaysIn h
  held : ∀ b o, F.H b = some o → h.get? b = some o ∨ ((∀ vs, o.data ≠ .fields vs) ∧ ∃ sl, h.get? b = some { o with slots := sl })
  frames : h.FunFrames g.base (F.env sc :: F.outer)
  ns : ∃ m, h.Ns F.L m
  hL : F.H F.L = none
  cells : ∀ p ∈ F.cl, F.H p.2 = none ∧ g.base.get? p.2 = none ∧ ∃ o v, h.get? p.2 = some o ∧ o.data = .cell v
  cnd : (F.cl.map (·.2)).Nodup
  ccov : ∀ x, sc.names.lookup x = some .cell → ∃ c, F.cl.lookup x = some c
  len : ρ.length = (slots sc).length
  nd : (slots sc).Nodup
  vars : ∀ i d, (ρ[i]? = some (.val d) ∨ ρ[i]? = some (.own d)) → ∃ x v, (slots sc)[i]? = some x ∧ VarIs (F.env sc) h x v ∧ Rp h v d (fp i)
  nofp : ∀ i, (∀ d, ρ[i]? ≠ some (.val d) ∧ ρ[i]? ≠ some (.own d)) → fp i = []
  own : ∀ i d, ρ[i]? = some (.own d) → (fp i).Nodup ∧ (∀ a ∈ fp i, F.H a = none ∧ g.base.get? a = none) ∧ ∀ j, j ≠ i → ∀ a ∈ fp i, a ∉ fp j

theorem VarIs.ext {env : Env} {h h' : Heap} (x : Ext h h') {y : Str} {v : Value} (e : VarIs env h y v) : VarIs env h' y v := by
  rcases e with ⟨hk, m, hn, hv⟩ | ⟨hk, c, o, h1, h2, h3⟩
  · exact .inl ⟨hk, m, x.ns hn, hv⟩
  · obtain ⟨sl, q⟩ := x.soft h2; exact .inr ⟨hk, c, _, h1, q, h3⟩

theorem FunFrames.ext {h h' base : Heap} (x : Ext h h') {l : List Env} (hl : h.FunFrames base l) : h'.FunFrames base l :=
  hl.of_keeps fun b o ho _ => by
    rcases x b o ho with q | ⟨_, sl, q⟩
    · exact ⟨o, q, rfl⟩
    · exact ⟨_, q, rfl⟩

theorem Rel.ext {g : Gx} {F : Fm} {sc : Scope} {h h' : Heap} {ρ : Vars} {fp : Nat → List Addr} (R : Rel g F sc h ρ fp) (x : Ext h h') (hs : g.base.StaysIn h') : Rel g F sc h' ρ fp where
  stays := hs
  held := fun b o e => by
    rcases R.held b o e with q | ⟨hd, sl, q⟩
    · exact x b o q
    · rcases x b _ q with q' | ⟨_, sl', q'⟩
      · exact .inr ⟨hd, sl, q'⟩
      · exact .inr ⟨hd, sl', q'⟩
  frames := FunFrames.ext x R.frames
  ns := let ⟨m, e⟩ := R.ns; ⟨m, x.ns e⟩
  hL := R.hL
  cells := fun p hp => let ⟨a, b, o, v, e, d⟩ := R.cells p hp; let ⟨sl, q⟩ := x.soft e; ⟨a, b, _, v, q, d⟩
  cnd := R.cnd
  ccov := R.ccov
  len := R.len
  nd := R.nd
  vars := fun i d e => let ⟨y, v, a, b, c⟩ := R.vars i d e; ⟨y, v, a, b.ext x, c.ext x⟩
  nofp := R.nofp
  own := R.own

noncomputable def FgOk (ρ : Vars) (fp : Nat → List Addr) (h : Heap) (f : Fg) (as : List Addr) : Prop :=
  (∀ j d, ρ[j]? = some (.own d) → j ∉ f.u → ∀ a ∈ as, a ∉ fp j) ∧
  (f.sh = false → (∀ a ∈ as, h.get? a = none ∨ ∃ j ∈ f.u, a ∈ fp j) ∧ (f.u.Nodup → as.Nodup) ∧ ∀ j ∈ f.u, ∃ d, ρ[j]? = some (.own d))

theorem FgOk.nil {ρ : Vars} {fp : Nat → List Addr} {h : Heap} {f : Fg} (hu : f.sh = false → f.u = []) : FgOk ρ fp h f [] :=
  ⟨fun _ _ _ _ _ ha => (nomatch ha), fun hs => ⟨fun _ ha => (nomatch ha), fun _ => List.nodup_nil, fun j hj => by rw [hu hs] at hj; cases hj⟩⟩
theorem FgOk.ff {ρ : Vars} {fp : Nat → List Addr} {h : Heap} : FgOk ρ fp h ff [] := .nil fun _ => rfl

theorem Rel.fp_there {g : Gx} {F : Fm} {sc : Scope} {h : Heap} {ρ : Vars} {fp : Nat → List Addr} (R : Rel g F sc h ρ fp) (i : Nat) (a : Addr) (ha : a ∈ fp i) :
    Plain h a := by
  by_cases hc : ∃ d, ρ[i]? = some (.val d) ∨ ρ[i]? = some (.own d)
  · obtain ⟨d, hd⟩ := hc
    obtain ⟨_, _, _, _, r⟩ := R.vars i d hd
    exact r.mem a ha
  · rw [R.nofp i fun d => ⟨fun q => hc ⟨d, .inl q⟩, fun q => hc ⟨d, .inr q⟩⟩] at ha
    cases ha

theorem Plain.there {h : Heap} {a : Addr} (p : Plain h a) : h.get? a ≠ none := fun q => by
  obtain ⟨_, _, _, e, _⟩ := p
  rw [q] at e; cases e
theorem FgOk.new {g : Gx} {F : Fm} {sc : Scope} {h : Heap} {ρ : Vars} {fp : Nat → List Addr} (R : Rel g F sc h ρ fp) {f : Fg} {as : List Addr} (hu : f.sh = false → f.u = [])
    (hn : ∀ a ∈ as, h.get? a = none) (hd : as.Nodup) : FgOk ρ fp h f as :=
  ⟨fun j d _ _ a ha q => (R.fp_there j a q).there (hn a ha),
   fun hs => ⟨fun a ha => .inl (hn a ha), fun _ => hd, fun j hj => by rw [hu hs] at hj; cases hj⟩⟩
theorem FgOk.back {ρ : Vars} {fp : Nat → List Addr} {h h' : Heap} (x : Ext h h') {f : Fg} {as : List Addr} (o : FgOk ρ fp h' f as) : FgOk ρ fp h f as :=
  ⟨o.1, fun hs => ⟨fun a ha => ((o.2 hs).1 a ha).imp x.fresh id, (o.2 hs).2⟩⟩
theorem FgOk.sub {ρ : Vars} {fp : Nat → List Addr} {h : Heap} {f : Fg} {as bs : List Addr} (o : FgOk ρ fp h f as) (k : List.Sublist bs as) : FgOk ρ fp h f bs :=
  ⟨fun j d hj hn a ha => o.1 j d hj hn a (k.subset ha), fun hs => ⟨fun a ha => (o.2 hs).1 a (k.subset ha), fun hn => ((o.2 hs).2.1 hn).sublist k, (o.2 hs).2.2⟩⟩

structure SpecF (g : Gx) (n : Nat) (name : Str) (ds : List D) (K : D → Bool → Prop) (fa : Addr) : Prop where
  named : g.mg name = some (.ref fa)
  fn : ∃ o fd, g.base.get? fa = some o ∧ o.data = .func fd
  run : ∀ (A : Around) (s : Shared) (vs : List Value) (as : List Addr) (outer : List Env) (Q E : Value → Shared → Prop), Room A n outer → g.base.StaysIn s.heap → s.heap.FunFrames g.base outer → Rps s.heap vs ds as →
    (∀ v s' d fr bs, K d fr → Step g s s' → Rp s'.heap v d bs → (fr = true → bs.Nodup ∧ ∀ a ∈ bs, s.heap.get? a = none) → Q v s') →
    wpAny (model g.p g.w) A (call (.ref fa) vs) Q E s

noncomputable def strip (h : Heap) : List Addr → Heap
  | [] => h
  | a :: l => (strip h l).update a fun o => { o with data := .freed }
noncomputable def ClsAt (h : Heap) (x : Str) (C : Addr) (mro : List Value) : Prop := ∃ o cd, h.get? C = some o ∧ o.data = .cls cd ∧ cd.name = x ∧ cd.mro = mro ∧ ∀ m, h.Ns cd.ns m → m "__class__" = none
structure IsExc (g : Gx) (x : Str) (C : Addr) : Prop where
  own : OwnClsQ x C bmV "ValueError.__new__" g.mg g.base
  row : ∃ R, OwnClsQ ("RowError" : Str) R bmV "ValueError.__new__" g.mg g.base ∧ ClsAt g.base x C (.ref C :: .ref R :: bmV) ∧ ClsAt g.base ("RowError" : Str) R (.ref R :: bmV)

noncomputable def gone (g : Gx) (l : List Env) (h : Heap) : Heap := strip h (l.filterMap (·.frame) ++ (List.range h.objs.size).filter fun a => (g.base.get? a).isNone && (match h.get? a with | some o => (match o.data with | .fields _ => false | _ => true) | none => false))

noncomputable def Later (s s' : Shared) : Prop := ∃ h' tk, s' = { s with heap := h', toks := tk }
structure SpecX (g : Gx) (n : Nat) (name : Str) (ds : List D) (x : Str) (fa : Addr) : Prop where
  named : g.mg name = some (.ref fa)
  run : ∀ (A : Around) (s : Shared) (vs : List Value) (as : List Addr) (outer : List Env) (C : Addr) (Q E : Value → Shared → Prop), Room A n outer → g.base.StaysIn s.heap → s.heap.FunFrames g.base outer → Rps s.heap vs ds as → IsExc g x C →
    (∀ e a0 s', Later s s' → Heap.FlyingW (gone g outer s.heap) outer e (.ref C) a0 s'.heap → s.heap.UpToSlots s'.heap → E (.ref e) s') →
    wpAny (model g.p g.w) A (call (.ref fa) vs) Q E s

noncomputable def Spec (fname : Nat → Str) (g : Gx) (n f : Nat) (ds : List D) (K : D → Bool → Prop) : Prop :=
  if 1000 ≤ f then ∃ i t, g.mg (fname f) = some (.int i t) ∧ ds = [] ∧ K (.int i) true
  else if 500 ≤ f then ∃ (c : Nat) (C fa : Addr), K (.int (c : Int)) true ∧ IsExc g (fname c) C ∧ SpecX g n (fname (f - 500)) ds (fname c) fa
  else ∃ fa, SpecF g n (fname f) ds K fa

structure At (fname : Nat → Str) (g : Gx) (Φ : Calls) (n : Nat) (F : Fm) (sc : Scope) (A : Around) (s : Shared) (ρ : Vars) (fp : Nat → List Addr) : Prop where
  gd : Gd g
  fns : ∀ f ds K, Φ f ds K → Spec fname g n f ds K
  named : ∀ f, f < 1000 → fname f ≠ Str.empty → ∃ fa o fd, g.mg (fname f) = some (.ref fa) ∧ g.base.get? fa = some o ∧ o.data = .func fd
  exc : ∀ c, 2000 ≤ c → c ≤ 2005 → ∃ C, IsExc g (fname c) C
  kind : sc.kind = .function
  plain : sc.isGenerator = false ∧ sc.isCoroutine = false
  room : Room A n (F.env sc :: F.outer)
  rel : Rel g F sc s.heap ρ fp

section
variable {fname : Nat → Str} {g : Gx} {Φ : Calls} {n : Nat} {F : Fm} {sc : Scope} {A : Around} {s s' : Shared} {ρ : Vars} {fp : Nat → List Addr}
theorem At.step (T : At fname g Φ n F sc A s ρ fp) (x : Step g s s') : At fname g Φ n F sc A s' ρ fp := ⟨T.gd, T.fns, T.named, T.exc, T.kind, T.plain, T.room, T.rel.ext x.ext x.stays⟩
theorem At.here (T : At fname g Φ n F sc A s ρ fp) : Step g s s := .refl T.rel.stays
end

noncomputable def SemE (fname : Nat → Str) (sc : Scope) (e : Expr) (x : X) : Prop :=
  ∀ (g : Gx) (Φ : Calls) (n : Nat) (F : Fm) (A : Around) (s : Shared) (ρ : Vars) (fp : Nat → List Addr) (K : D → Fg → Prop) (Q E : Value → Shared → Prop),
    At fname g Φ n F sc A s ρ fp → wE Φ ρ x K →
    (∀ v s' d f as, K d f → Step g s s' → Rp s'.heap v d as → FgOk ρ fp s.heap f as → Q v s') →
    wpAny (model g.p g.w) A (eval e (F.env sc)) Q E s

noncomputable def SemT (fname : Nat → Str) (sc : Scope) (e : Expr) (x : X) : Prop :=
  ∀ (g : Gx) (Φ : Calls) (n : Nat) (F : Fm) (A : Around) (s : Shared) (ρ : Vars) (fp : Nat → List Addr) (K : Bool → Prop) (Q : Bool → Shared → Prop) (E : Value → Shared → Prop),
    At fname g Φ n F sc A s ρ fp → wE Φ ρ x (fun d _ => tr d K) →
    (∀ b s', K b → Step g s s' → Q b s') →
    wpAny (model g.p g.w) A (isTrue e (F.env sc) (eval e (F.env sc))) Q E s

noncomputable def SemL (fname : Nat → Str) (sc : Scope) (es : List Expr) (xs : Xs) : Prop :=
  ∀ (g : Gx) (Φ : Calls) (n : Nat) (F : Fm) (A : Around) (s : Shared) (ρ : Vars) (fp : Nat → List Addr) (pos : Pos) (K : List D → Fg → Prop) (Q : List Value → Shared → Prop) (E : Value → Shared → Prop),
    At fname g Φ n F sc A s ρ fp → wL Φ ρ xs K →
    (∀ vs s' ds f as, K ds f → Step g s s' → Rps s'.heap vs ds as → FgOk ρ fp s.heap f as → Q vs s') →
    wpAny (model g.p g.w) A (spliced (backTo pos (starEach es (F.env sc)))) Q E s
end Mine
set_option Elab.async false
set_option maxRecDepth 100000
namespace Mine
open PySem PySem.Calls PyProof.Rows

section
variable {fname : Nat → Str} {g : Gx} {Φ : Calls} {n : Nat} {F : Fm} {sc : Scope} {A : Around} {s s' : Shared} {ρ : Vars} {fp : Nat → List Addr}

theorem sem_var {x : Str} {pos : Pos} {i : Nat} (hi : (slots sc)[i]? = some x) (hd : (x == ("__debug__" : Str)) = false) : SemE fname sc (.Name x pos) (.var i) := by
  intro g Φ n F A s ρ fp K Q E T h hQ
  conv at h => whnf
  have go : ∀ d f, (ρ[i]? = some (.val d) ∨ ρ[i]? = some (.own d)) → K d f → FgOk ρ fp s.heap f (fp i) → wpAny (model g.p g.w) A (eval (.Name x pos) (F.env sc)) Q E s := by
    intro d f hc hk hf
    obtain ⟨y, v, hy, hv, r⟩ := T.rel.vars i d hc
    rw [hi] at hy
    cases hy
    have q := hQ v s d f (fp i) hk T.here r hf
    rcases hv with ⟨hl, m, hn, hm⟩ | ⟨hl, c, o, h1, h2, h3⟩
    · exact wpAny_Name (wpAny_loadName_local T.kind hl hn hm q) hd
    · exact wpAny_Name (wpAny_loadName_cell T.kind hl h1 ⟨o, h2, h3⟩ q) hd
  split at h
  · rename_i d hc
    refine go d _ (.inl hc) h ⟨fun j e hj _ a ha q => ?_, fun hs => ?_⟩
    · by_cases hij : j = i
      · subst hij; rw [hc] at hj; cases hj
      · exact (T.rel.own j e hj).2.2 i (Ne.symm hij) a q ha
    · have hi : imm d = true := by simpa using hs
      obtain ⟨_, _, _, _, r⟩ := T.rel.vars i d (.inl hc)
      rw [r.imm hi]
      exact ⟨fun _ ha => (nomatch ha), fun _ => List.nodup_nil, fun _ hj => (nomatch hj)⟩
  · rename_i d hc
    refine go d _ (.inr hc) h ⟨fun j e hj hn a ha q => ?_, fun _ => ⟨fun a ha => ?_, fun _ => (T.rel.own i d hc).1, fun j hj => ?_⟩⟩
    · by_cases hij : j = i
      · subst hij
        by_cases hm : imm d = true
        · obtain ⟨_, _, _, _, r⟩ := T.rel.vars j d (.inr hc)
          rw [r.imm hm] at ha; cases ha
        · simp [hm] at hn
      · exact (T.rel.own j e hj).2.2 i (Ne.symm hij) a q ha
    · by_cases hm : imm d = true
      · obtain ⟨_, _, _, _, r⟩ := T.rel.vars i d (.inr hc)
        rw [r.imm hm] at ha; cases ha
      · exact .inr ⟨i, by simp [hm], ha⟩
    · by_cases hm : imm d = true
      · simp [hm] at hj
      · simp [hm] at hj; subst hj; exact ⟨d, hc⟩
  · exact h.elim

theorem sem_int {i : Int} {k : Nat} {pos : Pos} : SemE fname sc (.Constant (.int i) k pos) (.int i) := by
  intro g Φ n F A s ρ fp K Q E T h hQ
  conv at h => whnf
  exact wpAny_Constant_int (hQ _ _ _ _ [] h (T.here.toks _) (.int _ _) .ff)
theorem sem_str {x : Str} {k : Nat} {pos : Pos} (hz : x.cps.size ≤ sizeLine) : SemE fname sc (.Constant (.str x) k pos) (.str x) := by
  intro g Φ n F A s ρ fp K Q E T h hQ
  conv at h => whnf
  exact wpAny_Constant_str (hQ _ _ _ _ [] h (T.here.toks _) (.str _ _ hz) .ff)
theorem sem_bool {b : Bool} {k : Nat} {pos : Pos} : SemE fname sc (.Constant (.bool b) k pos) (.bool b) := by
  intro g Φ n F A s ρ fp K Q E T h hQ
  conv at h => whnf
  exact wpAny_Constant_bool (hQ _ _ _ _ [] h T.here (.bool _) .ff)
theorem sem_none {k : Nat} {pos : Pos} : SemE fname sc (.Constant .none k pos) .none := by
  intro g Φ n F A s ρ fp K Q E T h hQ
  conv at h => whnf
  exact wpAny_Constant_none (hQ _ _ _ _ [] h T.here .none .ff)

theorem sem_glob {x : Str} {pos : Pos} {i : Nat} (hx : sc.names.lookup x = some .globalImplicit) (hn : fname (1000 + i) = x) (hd : (x == ("__debug__" : Str)) = false) : SemE fname sc (.Name x pos) (.glob i) := by
  intro g Φ n F A s ρ fp K Q E T h hQ
  conv at h => whnf
  have q := T.fns _ _ _ h
  unfold Spec at q
  rw [if_pos (by omega)] at q
  obtain ⟨j, t, hm, _, _, hk⟩ := q
  rw [hn] at hm
  exact Name_function_global T.kind hx (loadGlobal_global (T.gd.glb.keeps T.rel.stays) hm (hQ _ _ _ _ [] hk T.here (.int _ _) .ff)) hd

theorem blt_k {x : Str} {v : Value} {pos : Pos} {Q E : Value → Shared → Prop} (G : Gd g) (hk : sc.kind = .function) (st : g.base.StaysIn s.heap) (hx : sc.names.lookup x = some .globalImplicit) (hb : bltTab.lookup x = some v) (hd : (x == ("__debug__" : Str)) = false) (h : Q v s) :
    wpAny (model g.p g.w) A (eval (.Name x pos) (F.env sc)) Q E s :=
  Name_function_global hk hx (loadGlobal_builtin (G.glb.keeps st) (G.blt x v hb).1 (G.bns.keeps st) (G.blt x v hb).2 h) hd
theorem blt_name {x : Str} {v : Value} {pos : Pos} {Q E : Value → Shared → Prop} (T : At fname g Φ n F sc A s ρ fp) (hx : sc.names.lookup x = some .globalImplicit) (hb : bltTab.lookup x = some v) (hd : (x == ("__debug__" : Str)) = false) (h : Q v s) :
    wpAny (model g.p g.w) A (eval (.Name x pos) (F.env sc)) Q E s := blt_k T.gd T.kind T.rel.stays hx hb hd h

noncomputable def opOf : Op → Operator
  | .add => .Add
  | .sub => .Sub
  | .mul => .Mult
  | .fdiv => .FloorDiv
  | .mod => .Mod

theorem intBits_le {a : Int} {k : Nat} (h : a.natAbs < 2 ^ k) : Builtin.Int.intBits a ≤ k := by
  unfold Builtin.Int.intBits
  split
  · omega
  · rename_i hz
    have h0 : a.natAbs ≠ 0 := fun q => hz (by simp [Int.natAbs_eq_zero.mp q])
    have := (Nat.log2_lt h0).mpr h
    omega
theorem mulOk_fits {a b : Int} (h : mulOk a b) : IntMulOk a b := by
  rcases h with h | h
  · exact .of_left (intBits_le h)
  · exact .of_right (intBits_le h)

theorem At.noLimit (T : At fname g Φ n F sc A s ρ fp) : s.heap.NoLimit := T.gd.nolimit.keeps T.rel.stays

theorem At.pylong (T : At fname g Φ n F sc A s ρ fp) : PylongRoom (model g.p g.w) A s :=
  PylongRoom.of T.noLimit (by have := T.room.depth; unfold Builtin.pylongFrames; omega)
    (SeerAt.of (T.gd.noseer.keeps T.rel.stays) T.gd.tree T.room.frames T.plain.1 T.plain.2 rfl rfl)

theorem Rps.rep {h : Heap} {vs : List Value} {ds : List D} (r : Rps h vs ds []) : ∀ k : Nat, Rps h (List.replicate k vs).flatten (List.replicate k ds).flatten []
  | 0 => .nil
  | k + 1 => by
    simp only [List.replicate_succ, List.flatten_cons]
    exact Rps.append r (Rps.rep r k)

theorem new_list {vs : List Value} {ds : List D} {as : List Addr} {h : Heap} (r : Rps h vs ds as) (hz : vs.length ≤ sizeLine) (e : Nat) :
    Rp (h.push { cls := .type "list", data := .seq vs.toArray e }) (.ref h.objs.size) (.list ds) (h.objs.size :: as) :=
  .list ⟨_, _, Heap.get?_push_size _ rfl, hz⟩ (Rps.ext (Ext.push _ _) r)

theorem FgOk.cons {h h' : Heap} {f : Fg} {as : List Addr} (R : Rel g F sc h ρ fp) (x : Ext h h') (hf : FgOk ρ fp h f as) {a : Addr} (ha : h'.get? a = none) (hm : ∀ b ∈ as, h'.get? b ≠ none) : FgOk ρ fp h f (a :: as) := by
  have ha' := x.fresh ha
  have hnf : ∀ j, a ∉ fp j := fun j q => (R.fp_there j a q).there ha'
  refine ⟨fun j d hj hn b hb => ?_, fun hs => ⟨fun b hb => ?_, fun hn => ?_, (hf.2 hs).2.2⟩⟩
  · rcases List.mem_cons.mp hb with rfl | hb
    · exact hnf j
    · exact hf.1 j d hj hn b hb
  · rcases List.mem_cons.mp hb with rfl | hb
    · exact .inl ha'
    · exact (hf.2 hs).1 b hb
  · exact List.nodup_cons.mpr ⟨fun q => hm a q ha, (hf.2 hs).2.1 hn⟩

theorem FgOk.append {h h' : Heap} {f k : Fg} {as bs : List Addr} (R : Rel g F sc h ρ fp) (x : Ext h h') (hf : FgOk ρ fp h f as) (hk : FgOk ρ fp h' k bs) (hm : ∀ a ∈ as, h'.get? a ≠ none) : FgOk ρ fp h ⟨f.sh || k.sh, f.u ++ k.u⟩ (as ++ bs) := by
  have hk' := hk.back x
  refine ⟨fun j d hj hn b hb => ?_, fun hs => ?_⟩
  · rcases List.mem_append.mp hb with hb | hb
    · exact hf.1 j d hj (fun q => hn (List.mem_append_left _ q)) b hb
    · exact hk.1 j d hj (fun q => hn (List.mem_append_right _ q)) b hb
  · have hs' : f.sh = false ∧ k.sh = false := by simpa using hs
    obtain ⟨f1, f2, f3⟩ := hf.2 hs'.1
    obtain ⟨k1, k2, k3⟩ := hk.2 hs'.2
    refine ⟨fun b hb => ?_, fun hn => ?_, fun j hj => ?_⟩
    · rcases List.mem_append.mp hb with hb | hb
      · exact (f1 b hb).imp id fun ⟨j, hj, q⟩ => ⟨j, List.mem_append_left _ hj, q⟩
      · exact (((hk'.2 hs'.2).1) b hb).imp id fun ⟨j, hj, q⟩ => ⟨j, List.mem_append_right _ hj, q⟩
    · obtain ⟨n1, n2, n3⟩ := List.nodup_append.mp hn
      refine List.nodup_append.mpr ⟨f2 n1, k2 n2, fun a ha b hb hab => ?_⟩
      subst hab
      rcases k1 a hb with q | ⟨j, hj, q⟩
      · exact hm a ha q
      · rcases f1 a ha with q' | ⟨i, hi, q'⟩
        · exact (R.fp_there j a q).there q'
        · obtain ⟨d, hd⟩ := f3 i hi
          exact (R.own i d hd).2.2 j (fun ij => n3 i hi j hj ij.symm) a q' q
    · rcases List.mem_append.mp hj with hj | hj
      · exact f3 j hj
      · exact k3 j hj

theorem Rps.there {h : Heap} {vs ds as} (r : Rps h vs ds as) : ∀ a ∈ as, h.get? a ≠ Option.none := fun a ha => (r.mem a ha).there
theorem Rp.there {h : Heap} {v d as} (r : Rp h v d as) : ∀ a ∈ as, h.get? a ≠ Option.none := fun a ha => (r.mem a ha).there

theorem cp_ok {h h' : Heap} {f : Fg} {as : List Addr} {vs : List Value} {ds : List D} (R : Rel g F sc h ρ fp) (x : Ext h h') (r : Rps h' vs ds as) (hf : FgOk ρ fp h ⟨true, f.u⟩ as) {a : Addr} (ha : h'.get? a = none) : FgOk ρ fp h (cpF ds f) (a :: as) := by
  unfold cpF
  split
  · rename_i hfl
    rw [r.flat hfl]
    exact FgOk.cons R x (.nil fun _ => rfl) ha (fun _ hb => (nomatch hb))
  · exact FgOk.cons R x hf ha r.there

theorem FgOk.shared {h : Heap} {f : Fg} {as : List Addr} (o : FgOk ρ fp h f as) : FgOk ρ fp h ⟨true, f.u⟩ as := ⟨o.1, fun q => (nomatch q)⟩
theorem st_list (x : Str) : st x.cps.toList = x := by obtain ⟨c⟩ := x; simp [st]
theorem add_lists {v w : Value} {xs ys : List D} {f k : Fg} {as bs : List Addr} {s₂ : Shared} {K : D → Fg → Prop} {Q E : Value → Shared → Prop} (T : At fname g Φ n F sc A s ρ fp) (st : Step g s s₂)
    (h : xs.length + ys.length ≤ sizeLid ∧ K (.list (xs ++ ys)) (cpF (xs ++ ys) ⟨true, f.u ++ k.u⟩)) (r1 : Rp s₂.heap v (.list xs) as) (r2 : Rp s₂.heap w (.list ys) bs) (fo1 : FgOk ρ fp s.heap f as) (fo2 : FgOk ρ fp s.heap k bs)
    (hQ : ∀ v s' d f as, K d f → Step g s s' → Rp s'.heap v d as → FgOk ρ fp s.heap f as → Q v s') : wpAny (model g.p g.w) A (binaryOp .Add v w) Q E s₂ := by
  obtain ⟨a, vs, en, sl, as', rfl, rfl, e1, z1, i1⟩ := r1.list_inv
  obtain ⟨b, ws, en', sl', bs', rfl, rfl, e2, z2, i2⟩ := r2.list_inv
  have hsz : vs.size + ws.size ≤ sizeLine := by
    rw [← Array.length_toList, ← Array.length_toList, i1.length, i2.length]; exact h.1
  have i3 := i1.append i2
  refine concat_meets ⟨_, e1, rfl⟩ ⟨_, e2, rfl⟩ noFill_list_add seq_list_add PySem.F.slot_list_add PySem.F.entry_list_add (PySem.F.args_list_add_2 _ _) (list_addW a b vs ws en en' none none sl sl' hsz)
    ⟨e1, e2, hQ _ _ _ _ (s₂.heap.objs.size :: (as' ++ bs')) h.2 (st.keep (fun _ _ e => Heap.get?_push_of_some _ e) _) ?_ ?_⟩
  · have e3 : (vs ++ ws) = (vs.toList ++ ws.toList).toArray := by simp
    show Rp (s₂.heap.push { cls := Value.type "list", data := Data.seq (vs ++ ws) }) (.ref s₂.heap.objs.size) (.list (xs ++ ys)) _
    rw [e3]
    exact new_list i3 (by rw [List.length_append, Array.length_toList, Array.length_toList]; exact hsz) 0
  · refine cp_ok (f := ⟨true, f.u ++ k.u⟩) T.rel st.ext i3 ⟨fun j d hj hn c hc => ?_, fun q => (nomatch q)⟩ (fresh_size _)
    rcases List.mem_append.mp hc with hc | hc
    · exact fo1.1 j d hj (fun q => hn (List.mem_append_left _ q)) c (.tail _ hc)
    · exact fo2.1 j d hj (fun q => hn (List.mem_append_right _ q)) c (.tail _ hc)
theorem mul_list {v w : Value} {xs : List D} {m : Int} {as bs : List Addr} {s₂ : Shared} {K : D → Fg → Prop} {Q E : Value → Shared → Prop} (T : At fname g Φ n F sc A s ρ fp) (st : Step g s s₂)
    (h : flat xs = true ∧ m < wordLid ∧ -wordLid ≤ m ∧ xs.length * m.toNat ≤ sizeLid ∧ K (.list (List.replicate m.toNat xs).flatten) ff) (r1 : Rp s₂.heap v (.list xs) as) (r2 : Rp s₂.heap w (.int m) bs)
    (hQ : ∀ v s' d f as, K d f → Step g s s' → Rp s'.heap v d as → FgOk ρ fp s.heap f as → Q v s') : wpAny (model g.p g.w) A (binaryOp .Mult v w) Q E s₂ := by
  obtain ⟨a, vs, en, sl, as', rfl, rfl, e1, z1, i1⟩ := r1.list_inv
  obtain ⟨u, rfl, _⟩ := r2.int_inv
  obtain ⟨hfl, hhi, hlo, hz, hk⟩ := h
  have e0 := i1.flat hfl
  subst e0
  have hz' : vs.size * m.toNat ≤ 2 ^ 24 := by rw [← Array.length_toList, i1.length]; exact hz
  have hhi' : m < 2 ^ 63 := hhi
  have hlo' : -(2 ^ 63 : Int) ≤ m := hlo
  refine wpAny_binaryOp_repeat_ref (T := "list") (U := "int") (by decide) ⟨_, e1, rfl⟩ (fun s' => typeIs_int s' m u) noFill_list_mul PySem.F.fills_int_mul PySem.F.slot_int_rmul repeat_list PySem.F.slot_int_index.lookup
    (call_meets PySem.F.slot_int_rmul (typeIs_int _ m u) PySem.F.entry_int_rmul (PySem.F.args_int_rmul_2 _ _) (lm_int_rmul_list_any m u a vs en none sl)
      ⟨e1, rfl, ⟨_, e1, rfl⟩, call_meets PySem.F.slot_list_mul ⟨_, e1, rfl⟩ PySem.F.entry_list_mul (PySem.F.args_list_mul_2 _ _)
        (lm_list_mul_any a vs en none sl m u (by simp [Builtin.List.listFitsIndex]; omega) (by omega) (by simp [Builtin.List.listTooLong, sizeLine]; omega))
        ⟨e1, ?_⟩⟩)
  rw [listMul_foldl_if]
  refine hQ _ _ _ _ [s₂.heap.objs.size] hk (st.keep (fun _ _ e => Heap.get?_push_of_some _ e) _) (new_list (i1.rep m.toNat) ?_ 0) (FgOk.cons T.rel st.ext (.nil fun _ => rfl) (fresh_size _) (fun _ hb => (nomatch hb)))
  have hq : (List.replicate m.toNat vs.toList).flatten.length = m.toNat * vs.size := by simp
  rw [hq, Nat.mul_comm]; exact hz'

theorem bin_rule {op : Op} {v w : Value} {x y : D} {f k : Fg} {as bs : List Addr} {s₂ : Shared} {K : D → Fg → Prop} {Q E : Value → Shared → Prop} (T : At fname g Φ n F sc A s ρ fp) (st : Step g s s₂)
    (h : binK op x f y k K) (r1 : Rp s₂.heap v x as) (r2 : Rp s₂.heap w y bs) (fo1 : FgOk ρ fp s.heap f as) (fo2 : FgOk ρ fp s.heap k bs)
    (hQ : ∀ v s' d f as, K d f → Step g s s' → Rp s'.heap v d as → FgOk ρ fp s.heap f as → Q v s') : wpAny (model g.p g.w) A (binaryOp (opOf op) v w) Q E s₂ := by
  have two : ∀ {P : Int → Int → Prop}, (onI x fun a => onI y fun b => P a b) → ∃ a b t u, v = .int a t ∧ w = .int b u ∧ P a b := fun {P} h => by
    obtain ⟨a, rfl, h⟩ := onI_inv h
    obtain ⟨b, rfl, h⟩ := onI_inv (d := y) h
    obtain ⟨t, e1, _⟩ := r1.int_inv
    obtain ⟨u, e2, _⟩ := r2.int_inv
    exact ⟨a, b, t, u, e1, e2, h⟩
  have giv : ∀ {i t tk}, K (.int i) ff → Q (.int i t) { s₂ with toks := tk } := fun hk => hQ _ _ _ _ [] hk (st.toks _) (.int _ _) .ff
  cases op with
  | add =>
    rcases on_inv h with ⟨a, rfl, h'⟩ | ⟨xs, rfl, h'⟩ | ⟨_, _, h'⟩
    · obtain ⟨_, _, t, u, rfl, rfl, h⟩ := two (P := fun a b => K (.int (a + b)) ff) h'; exact P.add_int (giv h)
    · obtain ⟨ys, rfl, h'⟩ := onL_inv (d := y) h'; exact add_lists T st h' r1 r2 fo1 fo2 hQ
    · exact h'.elim
  | sub => obtain ⟨a, b, t, u, rfl, rfl, h⟩ := two h; exact P.sub_int (giv h)
  | mul =>
    rcases on_inv h with ⟨a, rfl, h'⟩ | ⟨xs, rfl, h'⟩ | ⟨_, _, h'⟩
    · obtain ⟨_, _, t, u, rfl, rfl, h⟩ := two (P := fun a b => mulOk a b ∧ K (.int (a * b)) ff) h'; exact P.mul_int (giv h.2) (mulOk_fits h.1)
    · obtain ⟨m, rfl, h'⟩ := onI_inv (d := y) h'; exact mul_list T st h' r1 r2 hQ
    · exact h'.elim
  | fdiv => obtain ⟨a, b, t, u, rfl, rfl, h⟩ := two h; exact floordiv_int h.1 (giv h.2) (.inr ((T.step st).pylong))
  | mod => obtain ⟨a, b, t, u, rfl, rfl, h⟩ := two h; exact mod_int' h.1 (giv h.2)

theorem sem_bin {op : Op} {l r : Expr} {a b : X} {pos : Pos} (ha : SemE fname sc l a) (hb : SemE fname sc r b) : SemE fname sc (.BinOp l (opOf op) r pos) (.bin op a b) := by
  intro g Φ n F A s ρ fp K Q E T h hQ
  conv at h => whnf
  refine wpAny_BinOp (ha g Φ n F A s ρ fp _ _ E T h fun v s₁ x f as hk st r1 fo => hb g Φ n F A s₁ ρ fp _ _ E (T.step st) hk fun w s₂ y k bs hk' st' r2 fo' => ?_)
  exact bin_rule T (st.trans st') hk' (r1.ext st'.ext) r2 fo (fo'.back st.ext) hQ

theorem sem_neg {e : Expr} {a : X} {pos : Pos} (ha : SemE fname sc e a) : SemE fname sc (.UnaryOp .USub e pos) (.neg a) := by
  intro g Φ n F A s ρ fp K Q E T h hQ
  conv at h => whnf
  refine wpAny_UnaryOp (ha g Φ n F A s ρ fp _ _ E T h fun v s₁ x f as hk st r1 fo => ?_)
  obtain ⟨m, rfl, hk⟩ := onI_inv hk
  obtain ⟨t, rfl, _⟩ := r1.int_inv
  exact P.neg_int (hQ _ _ _ _ [] hk (st.toks _) (.int _ _) .ff)
end
end Mine
set_option Elab.async false
set_option maxRecDepth 100000
namespace Mine
open PySem PySem.Calls PyProof.Rows

section
variable {fname : Nat → Str} {g : Gx} {Φ : Calls} {n : Nat} {F : Fm} {sc : Scope} {A : Around} {s s' : Shared} {ρ : Vars} {fp : Nat → List Addr}

theorem line_lt {k : Nat} (h : k ≤ sizeLine) : (k : Int) < 2 ^ 63 := by
  have : sizeLine = 16777216 := by decide
  omega

noncomputable def cmOf : Cm → CmpOp
  | .eq => .Eq
  | .ne => .NotEq
  | .lt => .Lt
  | .le => .LtE
  | .gt => .Gt
  | .ge => .GtE
  | .isin => .In
  | .notin => .NotIn

theorem contains_one (x : Str) (c : Nat) : (!(Builtin.Str.occurrences x ⟨#[c]⟩ 0 x.length 1).isEmpty) = x.cps.toList.contains c := by
  rw [Bool.eq_iff_iff, StrLaws.found_iff]
  constructor
  · rintro ⟨i, h1, h2⟩
    have := (StrLaws.subAt_one x c i).mp ⟨h1, h2⟩
    simpa using List.mem_of_getElem? this
  · intro h
    have h' : c ∈ x.cps.toList := by simpa using h
    obtain ⟨i, hi⟩ := List.getElem?_of_mem h'
    exact ⟨i, (StrLaws.subAt_one x c i).mpr hi⟩
noncomputable def itEq (x : D) : Value → Bool
  | .int j _ => PyData.eqv (.int j) x
  | _ => false
theorem its_any {h : Heap} {x : D} : ∀ (js : List Int) {vs as}, Rps h vs (js.map .int) as → vs.any (itEq x) = js.any fun j => PyData.eqv (.int j) x := by
  intro js
  induction js with
  | nil => rintro vs as ⟨rfl, _⟩; rfl
  | cons j js ih =>
    rintro vs as ⟨v, ws, bs, cs, rfl, _, r1, r2⟩
    obtain ⟨⟨t, rfl⟩, _⟩ := r1
    rw [List.any_cons, List.any_cons, ih r2]; rfl
theorem in_rule {v w : Value} {x : D} {js : List Int} {as bs : List Addr} {Q E : Value → Shared → Prop} (hu : A.units + 64 < cLine) (hs : SeqAt.shaped x = true) (r1 : Rp s.heap v x as) (r2 : Rp s.heap w (.tuple (js.map .int)) bs)
    (h : Q (.bool (js.any fun j => PyData.eqv (.int j) x)) s) : wpAny (model g.p g.w) A (compareOp .In v w) Q E s := by
  obtain ⟨a, vs, n, sl, rfl, e, z, i⟩ := r2.tuple_inv
  refine SeqAt.in_tupleAt (itEq x) ⟨_, e, rfl, n, rfl⟩ (fun y hy => ?_) ?_
  · obtain ⟨k, hk'⟩ := List.getElem?_of_mem (Array.mem_toList_iff.mpr hy)
    have hlt : k < (js.map PyData.int).length := by rw [← i.length]; exact (List.getElem?_eq_some_iff.mp hk').1
    obtain ⟨w, cs, hw, rw', _⟩ := i.get k _ (List.getElem?_eq_getElem hlt)
    rw [hk'] at hw; cases hw
    rw [List.getElem_map] at rw'
    obtain ⟨⟨t, rfl⟩, _⟩ := rw'
    exact SeqAt.eqAt_reads (.int _) x A.in1 s (.int _ t) v [] as (.int _ t) (r1.reads (SeqAt.canLay_of_shaped hs)) rfl (SeqAt.canLay_of_shaped hs) (by show A.units + 1 + min 0 _ < cLine; omega)
  · rw [← Array.any_toList, its_any js i]; exact h
theorem cmp_rule {op : Cm} {v w : Value} {x y : D} {as bs : List Addr} {K : Bool → Prop} {Q E : Value → Shared → Prop} (hu : A.units + 64 < cLine)
    (h : cmpK op x y K) (r1 : Rp s.heap v x as) (r2 : Rp s.heap w y bs) (hQ : ∀ b tk, K b → Q (.bool b) { s with toks := tk }) : wpAny (model g.p g.w) A (compareOp (cmOf op) v w) Q E s := by
  have two : ∀ {P : Int → Int → Prop}, (onI x fun a => onI y fun b => P a b) → ∃ a b t u, v = .int a t ∧ w = .int b u ∧ P a b := fun {P} h => by
    obtain ⟨a, rfl, h⟩ := onI_inv h
    obtain ⟨b, rfl, h⟩ := onI_inv (d := y) h
    obtain ⟨t, e1, _⟩ := r1.int_inv
    obtain ⟨u, e2, _⟩ := r2.int_inv
    exact ⟨a, b, t, u, e1, e2, h⟩
  cases op with
  | eq =>
    rcases eqK_inv h with ⟨a, b, rfl, rfl, h⟩ | ⟨s1, s2, h⟩
    · obtain ⟨t, rfl, _⟩ := r1.int_inv; obtain ⟨u, rfl, _⟩ := r2.int_inv; exact P.eq_int (hQ _ s.toks h)
    · exact SeqAt.compareEq_shaped (r1.reads (SeqAt.canLay_of_shaped s1)) (r2.reads (SeqAt.canLay_of_shaped s2)) s1 s2 hu (hQ _ s.toks h)
  | ne =>
    rcases eqK_inv (x := x) (y := y) (K := fun b => K (!b)) h with ⟨a, b, rfl, rfl, h⟩ | ⟨s1, s2, h⟩
    · obtain ⟨t, rfl, _⟩ := r1.int_inv; obtain ⟨u, rfl, _⟩ := r2.int_inv
      refine P.ne_int ?_
      have e : (a != b) = !decide (a = b) := rfl
      rw [e]; exact hQ _ s.toks h
    · exact SeqAt.compareNe_shaped (r1.reads (SeqAt.canLay_of_shaped s1)) (r2.reads (SeqAt.canLay_of_shaped s2)) s1 s2 hu (hQ _ s.toks h)
  | lt => obtain ⟨a, b, t, u, rfl, rfl, h⟩ := two h; exact P.lt_int (hQ _ s.toks h)
  | le => obtain ⟨a, b, t, u, rfl, rfl, h⟩ := two h; exact P.le_int (hQ _ s.toks h)
  | gt => obtain ⟨a, b, t, u, rfl, rfl, h⟩ := two h; exact P.gt_int (hQ _ s.toks h)
  | ge => obtain ⟨a, b, t, u, rfl, rfl, h⟩ := two h; exact P.ge_int (hQ _ s.toks h)
  | isin => obtain ⟨hs, js, rfl, h⟩ := h; exact in_rule hu hs r1 r2 (hQ _ s.toks h)
  | notin =>
    obtain ⟨x, rfl, h⟩ := onS_inv h
    obtain ⟨y, rfl, c, hc, hk⟩ := onS_inv (d := y) h
    obtain ⟨t, rfl, _⟩ := r1.str_inv
    obtain ⟨u, rfl, _⟩ := r2.str_inv
    have e : x = ⟨#[c]⟩ := by rw [← st_list x, hc]; rfl
    subst e
    refine P.notIn_str ?_
    rw [contains_one]
    exact hQ _ s.toks hk

theorem At.units (T : At fname g Φ n F sc A s ρ fp) : A.units + 64 < cLine := by have := T.room.units; omega

theorem sem_test {e : Expr} {a : X} (ha : SemE fname sc e a) (hp : ∀ env whole, isTrue e env whole = (do let v ← whole; standAt e.pos; holding [v] (truthy v))) : SemT fname sc e a := by
  intro g Φ n F A s ρ fp K Q E T h hQ
  refine wpAny_isTrue_value (ha g Φ n F A s ρ fp _ _ E T h fun v s₁ d f as hk st r fo => ?_) (hp _ _)
  obtain ⟨b, rfl, hk⟩ := tr_inv hk
  obtain ⟨rfl, _⟩ := r
  exact wpAny_truthy_bool (hQ _ _ hk st)

theorem sem_not {e : Expr} {a : X} {pos : Pos} (ha : SemE fname sc e a) : SemE fname sc (.UnaryOp .Not e pos) (.not a) := by
  intro g Φ n F A s ρ fp K Q E T h hQ
  conv at h => whnf
  refine wpAny_UnaryOp (ha g Φ n F A s ρ fp _ _ E T h fun v s₁ x f as hk st r1 fo => not_of ?_)
  obtain ⟨b, rfl, hk⟩ := tr_inv hk
  obtain ⟨rfl, _⟩ := r1
  exact wpAny_truthy_bool (hQ _ _ _ _ [] hk st (.bool _) .ff)
theorem sem_not_t {e : Expr} {a : X} {pos : Pos} (ha : SemT fname sc e a) : SemT fname sc (.UnaryOp .Not e pos) (.not a) := by
  intro g Φ n F A s ρ fp K Q E T h hQ
  conv at h => whnf
  exact wpAny_isTrue_Not (ha g Φ n F A s ρ fp (fun b => K (!b)) _ E T h fun b s₁ hk st => hQ _ _ hk st)

theorem sem_ite {t b o : Expr} {x y z : X} {pos : Pos} (ht : SemT fname sc t x) (hb : SemE fname sc b y) (ho : SemE fname sc o z) : SemE fname sc (.IfExp t b o pos) (.ite x y z) := by
  intro g Φ n F A s ρ fp K Q E T h hQ
  conv at h => whnf
  refine wpAny_IfExp (ht g Φ n F A s ρ fp (fun r => br r (wE Φ ρ y K) (wE Φ ρ z K)) _ E T h fun r s₁ hk st => ?_)
  cases r
  · exact ho g Φ n F A s₁ ρ fp _ _ E (T.step st) hk fun v s' d f as hk st' r fo => hQ _ _ _ _ _ hk (st.trans st') r (fo.back st.ext)
  · exact hb g Φ n F A s₁ ρ fp _ _ E (T.step st) hk fun v s' d f as hk st' r fo => hQ _ _ _ _ _ hk (st.trans st') r (fo.back st.ext)

theorem sem_cmp {op : Cm} {l r : Expr} {a b : X} {pos : Pos} (ha : SemE fname sc l a) (hb : SemE fname sc r b) (hm : behindInMarks (cmOf op) r = false) : SemE fname sc (.Compare l [cmOf op] [r] pos) (.cmp op a b) := by
  intro g Φ n F A s ρ fp K Q E T h hQ
  conv at h => whnf
  exact wpAny_Compare1 (ha g Φ n F A s ρ fp _ _ E T h fun v s₁ x f as hk st r1 fo => hb g Φ n F A s₁ ρ fp _ _ E (T.step st) hk fun w s₂ y k bs hk' st' r2 fo' =>
    cmp_rule T.units hk' (r1.ext st'.ext) r2 fun b tk hk => hQ _ _ _ _ [] hk ((st.trans st').toks tk) (.bool _) .ff) hm
theorem sem_cmp_t {op : Cm} {l r : Expr} {a b : X} {pos : Pos} (ha : SemE fname sc l a) (hb : SemE fname sc r b) (hm : behindInMarks (cmOf op) r = false) : SemT fname sc (.Compare l [cmOf op] [r] pos) (.cmp op a b) := by
  intro g Φ n F A s ρ fp K Q E T h hQ
  conv at h => whnf
  exact wpAny_isTrue_Compare1 (ha g Φ n F A s ρ fp _ _ E T h fun v s₁ x f as hk st r1 fo => hb g Φ n F A s₁ ρ fp _ _ E (T.step st) hk fun w s₂ y k bs hk' st' r2 fo' =>
    cmp_rule T.units hk' (r1.ext st'.ext) r2 fun b tk hk => wpAny_truthy_bool (hQ _ _ hk ((st.trans st').toks tk))) hm
end
end Mine
set_option Elab.async false
set_option maxRecDepth 100000
namespace Mine
open PySem PySem.Calls PyProof.Rows

section
variable {fname : Nat → Str} {g : Gx} {Φ : Calls} {n : Nat} {F : Fm} {sc : Scope} {A : Around} {s s' : Shared} {ρ : Vars} {fp : Nat → List Addr}

theorem last_marks {o1 o2 : CmpOp} {r1 r2 : Expr} (h : behindInMarks o2 r2 = false) : lastMarks [o1, o2] [r1, r2] = false := by
  simpa [lastMarks] using h

theorem sem_cmp2 {o1 o2 : Cm} {l r r' : Expr} {a b c : X} {pos : Pos} (ha : SemE fname sc l a) (hb : SemE fname sc r b) (hc : SemE fname sc r' c) (hm : behindInMarks (cmOf o2) r' = false) :
    SemE fname sc (.Compare l [cmOf o1, cmOf o2] [r, r'] pos) (.cmp2 o1 o2 a b c) := by
  intro g Φ n F A s ρ fp K Q E T h hQ
  conv at h => whnf
  refine Compare_chain (ha g Φ n F A s ρ fp _ _ E T h fun v s₁ x f as hk st r1 fo => chain_link (hb g Φ n F A s₁ ρ fp _ _ E (T.step st) hk fun w s₂ y k bs hk' st' r2 fo' =>
    cmp_rule T.units hk' (r1.ext st'.ext) r2 fun t tk hk => wpAny_truthy_bool ?_)) (last_marks hm)
  have st₂ := (st.trans st').toks tk
  cases t
  · exact hQ _ _ _ _ [] hk st₂ (.bool _) .ff
  · exact chain_last (hc g Φ n F A _ ρ fp _ _ E (T.step st₂) hk fun u s₃ z k' cs hk' st₃ r3 fo' =>
      cmp_rule T.units hk' (r2.ext st₃.ext) r3 fun t tk hk => hQ _ _ _ _ [] hk ((st₂.trans st₃).toks tk) (.bool _) .ff)
theorem sem_cmp2_t {o1 o2 : Cm} {l r r' : Expr} {a b c : X} {pos : Pos} (ha : SemE fname sc l a) (hb : SemE fname sc r b) (hc : SemE fname sc r' c) (hm : behindInMarks (cmOf o2) r' = false) :
    SemT fname sc (.Compare l [cmOf o1, cmOf o2] [r, r'] pos) (.cmp2 o1 o2 a b c) := by
  intro g Φ n F A s ρ fp K Q E T h hQ
  conv at h => whnf
  refine isTrue_chain (ha g Φ n F A s ρ fp _ _ E T h fun v s₁ x f as hk st r1 fo => test_link (hb g Φ n F A s₁ ρ fp _ _ E (T.step st) hk fun w s₂ y k bs hk' st' r2 fo' =>
    cmp_rule T.units hk' (r1.ext st'.ext) r2 fun t tk hk => wpAny_truthy_bool ?_)) (last_marks hm)
  have st₂ := (st.trans st').toks tk
  cases t
  · exact hQ _ _ hk st₂
  · exact test_last (hc g Φ n F A _ ρ fp _ _ E (T.step st₂) hk fun u s₃ z k' cs hk' st₃ r3 fo' =>
      cmp_rule T.units hk' (r2.ext st₃.ext) r3 fun t tk hk => wpAny_truthy_bool (hQ _ _ hk ((st₂.trans st₃).toks tk)))

noncomputable def wB : Bool → Calls → Vars → Xs → (D → Fg → Prop) → Prop
  | true => wAnd
  | false => wOr
noncomputable def bopOf : Bool → BoolOp
  | true => .And
  | false => .Or
noncomputable abbrev bX : Bool → Xs → X
  | true => .and
  | false => .or

noncomputable def SemB (fname : Nat → Str) (i : Bool) (sc : Scope) (es : List Expr) (xs : Xs) : Prop :=
  ∀ (g : Gx) (Φ : Calls) (n : Nat) (F : Fm) (A : Around) (s : Shared) (ρ : Vars) (fp : Nat → List Addr) (pos : Pos) (K : D → Fg → Prop) (Q : Value → Shared → Prop) (E : Value → Shared → Prop),
    At fname g Φ n F sc A s ρ fp → wB i Φ ρ xs K →
    (∀ v s' d f as, K d f → Step g s s' → Rp s'.heap v d as → FgOk ρ fp s.heap f as → Q v s') →
    wpAny (model g.p g.w) A (boolOp pos (bopOf i) (evalEach es (F.env sc))) Q E s
noncomputable def SemBT (fname : Nat → Str) (i : Bool) (sc : Scope) (es : List Expr) (xs : Xs) : Prop :=
  ∀ (g : Gx) (Φ : Calls) (n : Nat) (F : Fm) (A : Around) (s : Shared) (ρ : Vars) (fp : Nat → List Addr) (K : Bool → Prop) (Q : Bool → Shared → Prop) (E : Value → Shared → Prop),
    At fname g Φ n F sc A s ρ fp → wB i Φ ρ xs (fun d _ => tr d K) → (∀ b s', K b → Step g s s' → Q b s') →
    wpAny (model g.p g.w) A (allTrue (bopOf i) es (F.env sc)) Q E s

theorem sem_b1 {i : Bool} {e : Expr} {x : X} (h : SemE fname sc e x) : SemB fname i sc [e] (.cons x .nil) := by
  intro g Φ n F A s ρ fp pos K Q E T hw hQ
  have hw' : wE Φ ρ x K := by cases i <;> exact hw
  exact h g Φ n F A s ρ fp K Q E T hw' hQ
theorem sem_b2 {i : Bool} {e e' : Expr} {es : List Expr} {x y : X} {xs : Xs} (h : SemE fname sc e x) (hr : SemB fname i sc (e' :: es) (.cons y xs)) : SemB fname i sc (e :: e' :: es) (.cons x (.cons y xs)) := by
  intro g Φ n F A s ρ fp pos K Q E T hw hQ
  show wpAny (model g.p g.w) A (do
    let v ← eval e (F.env sc)
    standAt pos
    let t ← holding [v] (truthy v)
    match bopOf i, t with
    | .And, false | .Or, true => pure v
    | _, _ => boolOp pos (bopOf i) (evalEach (e' :: es) (F.env sc))) Q E s
  have go : ∀ s₁, Step g s s₁ → wB i Φ ρ (.cons y xs) K → wpAny (model g.p g.w) A (boolOp pos (bopOf i) (evalEach (e' :: es) (F.env sc))) Q E s₁ := fun s₁ st hk =>
    hr g Φ n F A _ ρ fp pos K Q E (T.step st) hk fun v' s' d' f' as' hk' st' r' fo' => hQ _ _ _ _ _ hk' (st.trans st') r' (fo'.back st.ext)
  cases i
  · refine wpAny_bind (h g Φ n F A s ρ fp _ _ E T hw fun v s₁ d f as hk st r fo => wpAny_bind (wpAny_standAt (wpAny_bind (wpAny_holding ?_))))
    obtain ⟨c, rfl, hk⟩ := tr_inv hk
    obtain ⟨rfl, rfl⟩ := r
    refine wpAny_truthy_bool ?_
    cases c
    · exact go _ st hk
    · exact wpAny_pure (hQ _ _ _ _ _ hk st (.bool _) fo)
  · refine wpAny_bind (h g Φ n F A s ρ fp _ _ E T hw fun v s₁ d f as hk st r fo => wpAny_bind (wpAny_standAt (wpAny_bind (wpAny_holding ?_))))
    obtain ⟨c, rfl, hk⟩ := tr_inv hk
    obtain ⟨rfl, rfl⟩ := r
    refine wpAny_truthy_bool ?_
    cases c
    · exact wpAny_pure (hQ _ _ _ _ _ hk st (.bool _) fo)
    · exact go _ st hk

theorem sem_bool_op {i : Bool} {es : List Expr} {xs : Xs} {pos : Pos} (h : SemB fname i sc es xs) : SemE fname sc (.BoolOp (bopOf i) es pos) (bX i xs) := by
  intro g Φ n F A s ρ fp K Q E T hw hQ
  have hw' : wB i Φ ρ xs K := by cases i <;> exact hw
  exact h g Φ n F A s ρ fp pos K Q E T hw' hQ

theorem sem_bt1 {i : Bool} {e : Expr} {x : X} (h : SemT fname sc e x) : SemBT fname i sc [e] (.cons x .nil) := by
  intro g Φ n F A s ρ fp K Q E T hw hQ
  have hw' : wE Φ ρ x (fun d _ => tr d K) := by cases i <;> exact hw
  cases i
  · refine wpAny_allTrue_Or_cons (h g Φ n F A s ρ fp K _ E T hw' fun b s' hk st => ?_)
    cases b
    · exact wpAny_allTrue_Or_nil (hQ _ _ hk st)
    · exact hQ _ _ hk st
  · refine wpAny_allTrue_And_cons (h g Φ n F A s ρ fp K _ E T hw' fun b s' hk st => ?_)
    cases b
    · exact hQ _ _ hk st
    · exact wpAny_allTrue_And_nil (hQ _ _ hk st)
theorem wE_tr {x : X} {K K' : D → Fg → Prop} (h : wE Φ ρ x K) (e : ∀ d f, K d f = K' d f) : wE Φ ρ x K' := (funext fun d => funext fun f => e d f : K = K') ▸ h
theorem sem_bt2 {i : Bool} {e e' : Expr} {es : List Expr} {x y : X} {xs : Xs} (h : SemT fname sc e x) (hr : SemBT fname i sc (e' :: es) (.cons y xs)) : SemBT fname i sc (e :: e' :: es) (.cons x (.cons y xs)) := by
  intro g Φ n F A s ρ fp K Q E T hw hQ
  have go : ∀ s₁, Step g s s₁ → wB i Φ ρ (.cons y xs) (fun d _ => tr d K) → wpAny (model g.p g.w) A (allTrue (bopOf i) (e' :: es) (F.env sc)) Q E s₁ := fun s₁ st hk =>
    hr g Φ n F A _ ρ fp K Q E (T.step st) hk fun b s'' hk st' => hQ _ _ hk (st.trans st')
  cases i
  · refine wpAny_allTrue_Or_cons (h g Φ n F A s ρ fp (fun b => br b (K true) (wOr Φ ρ (.cons y xs) fun d _ => tr d K)) _ E T (wE_tr hw fun d f => ?_) fun b s' hk st => ?_)
    · cases d with
      | bool c => cases c <;> rfl
      | _ => rfl
    · cases b
      · exact go _ st hk
      · exact hQ _ _ hk st
  · refine wpAny_allTrue_And_cons (h g Φ n F A s ρ fp (fun b => br b (wAnd Φ ρ (.cons y xs) fun d _ => tr d K) (K false)) _ E T (wE_tr hw fun d f => ?_) fun b s' hk st => ?_)
    · cases d with
      | bool c => cases c <;> rfl
      | _ => rfl
    · cases b
      · exact hQ _ _ hk st
      · exact go _ st hk
theorem sem_bool_op_t {i : Bool} {es : List Expr} {xs : Xs} {pos : Pos} (h : SemBT fname i sc es xs) : SemT fname sc (.BoolOp (bopOf i) es pos) (bX i xs) := by
  intro g Φ n F A s ρ fp K Q E T hw hQ
  have hw' : wB i Φ ρ xs (fun d _ => tr d K) := by cases i <;> exact hw
  exact wpAny_isTrue_BoolOp (h g Φ n F A s ρ fp K Q E T hw' hQ)

theorem sem_ite_t {t b o : Expr} {x y z : X} {pos : Pos} (ht : SemT fname sc t x) (hb : SemT fname sc b y) (ho : SemT fname sc o z) : SemT fname sc (.IfExp t b o pos) (.ite x y z) := by
  intro g Φ n F A s ρ fp K Q E T h hQ
  conv at h => whnf
  show wpAny (model g.p g.w) A (do
    if ← isTrue t (F.env sc) (eval t (F.env sc)) then isTrue b (F.env sc) (eval b (F.env sc)) else isTrue o (F.env sc) (eval o (F.env sc))) Q E s
  refine wpAny_bind (ht g Φ n F A s ρ fp (fun r => br r (wE Φ ρ y (fun d _ => tr d K)) (wE Φ ρ z (fun d _ => tr d K))) _ E T h fun r s₁ hk st => ?_)
  cases r
  · exact ho g Φ n F A s₁ ρ fp K _ E (T.step st) hk fun b s' hk st' => hQ _ _ hk (st.trans st')
  · exact hb g Φ n F A s₁ ρ fp K _ E (T.step st) hk fun b s' hk st' => hQ _ _ hk (st.trans st')

noncomputable def plainE (e : Expr) : Bool := [0, 2, 3, 5, 6, 15, 16, 19, 21, 23, 24, 25].contains e.ctorIdx
structure PlainP (e : Expr) : Prop where
  star : ∀ (r : List Expr) (env : Env), starEach (e :: r) env = (false, eval e env) :: starEach r env
  sub : ∀ o i : Value, subscripted e false o i = operate [o, i] (getItem o i)
  swap : ∀ (t : Option Expr) (l : Nat) (env : Env), swapsWith e t l env = pure false
  fold : ∀ (env : Env) (x : Value), foldedSetIterable e env x = pure x
theorem plain_all {e : Expr} (h : plainE e = true) : PlainP e := by
  cases e <;> first | exact ⟨fun _ _ => rfl, fun _ _ => rfl, fun _ _ _ => rfl, fun _ _ => rfl⟩ | exact nomatch h
theorem starEach_cons {e : Expr} {r : List Expr} {env : Env} (h : plainE e = true) : starEach (e :: r) env = (false, eval e env) :: starEach r env := (plain_all h).star r env

theorem sem_nil : SemL fname sc [] .nil := by
  intro g Φ n F A s ρ fp pos K Q E T h hQ
  conv at h => whnf
  exact args_nil (hQ _ _ _ _ [] h T.here .nil .ff)
theorem sem_cons {e : Expr} {es : List Expr} {x : X} {xs : Xs} (hs : plainE e = true) (he : SemE fname sc e x) (hr : SemL fname sc es xs) : SemL fname sc (e :: es) (.cons x xs) := by
  intro g Φ n F A s ρ fp pos K Q E T h hQ
  conv at h => whnf
  exact args_cons (he g Φ n F A s ρ fp _ _ E T h fun v s₁ d f as hk st r fo => hr g Φ n F A s₁ ρ fp pos _ _ E (T.step st) hk fun vs s₂ ds k bs hk' st' r' fo' =>
    hQ _ _ _ _ _ hk' (st.trans st') (.cons (r.ext st'.ext) r') (FgOk.append T.rel st.ext fo fo' r.there)) (starEach_cons hs)

theorem sem_list {es : List Expr} {xs : Xs} {pos : Pos} (h : SemL fname sc es xs) : SemE fname sc (.List es pos) (.list xs) := by
  intro g Φ n F A s ρ fp K Q E T hw hQ
  conv at hw => whnf
  refine wpAny_List (h g Φ n F A s ρ fp pos _ _ E T hw fun vs s₁ ds f as hk st r fo => ⟨?_, ?_⟩)
  · rw [r.length]; exact hk.1
  · exact hQ _ _ _ _ _ hk.2 (st.push _) (new_list r (by rw [r.length]; exact hk.1) 0) (FgOk.cons T.rel st.ext fo (fresh_size _) r.there)
theorem sem_tup {es : List Expr} {xs : Xs} {k : Nat} {pos : Pos} (h : SemL fname sc es xs) : SemE fname sc (.Tuple es k pos) (.tup xs) := by
  intro g Φ n F A s ρ fp K Q E T hw hQ
  conv at hw => whnf
  refine wpAny_Tuple (h g Φ n F A s ρ fp pos _ _ E T hw fun vs s₁ ds f as hk st r fo => ⟨?_, ?_⟩)
  · rw [r.length]; exact hk.1
  · exact hQ _ _ _ _ _ hk.2 (st.push _) (.tuple ⟨_, _, Heap.get?_push_size _ rfl, by rw [List.size_toArray, r.length]; exact hk.1⟩ (Rps.ext (Ext.push _ _) r)) fo
end
end Mine
set_option Elab.async false
set_option maxRecDepth 100000
namespace Mine
open PySem PySem.Calls PyProof.Rows

section
variable {fname : Nat → Str} {g : Gx} {Φ : Calls} {n : Nat} {F : Fm} {sc : Scope} {A : Around} {s s' : Shared} {ρ : Vars} {fp : Nat → List Addr}

theorem imm_ok {h h' : Heap} {v : Value} {d : D} {as : List Addr} {f : Fg} (r : Rp h v d as) (hi : imm d = true) (hf : f.sh = false → f.u = []) : FgOk ρ fp h' f as := by
  rw [r.imm hi]; exact .nil hf

theorem sem_call {x : Str} {np pos : Pos} {e : Expr} {es : List Expr} {xs : Xs} {f : Nat} (hx : sc.names.lookup x = some .globalImplicit) (hn : fname f = x) (hf : f < 500) (hne : x ≠ Str.empty) (hd : (x == ("__debug__" : Str)) = false)
    (hs : plainE e = true) (ha : SemL fname sc (e :: es) xs) : SemE fname sc (.Call (.Name x np) (e :: es) [] pos) (.call f xs) := by
  intro g Φ n F A s ρ fp K Q E T h hQ
  conv at h => whnf
  obtain ⟨fa, o, fd, hmg, hb, hdat⟩ := T.named f (by omega) (by rw [hn]; exact hne)
  rw [hn] at hmg
  refine wpAny_Call_ofName (Name_function_global T.kind hx (loadGlobal_global (T.gd.glb.keeps T.rel.stays) hmg ?_) hd)
  refine callWith_def hdat (ha g Φ n F A s ρ fp pos _ _ E T h fun vs s₁ ds f' as hk st r fo => ⟨st.stays _ _ hb, ?_⟩) (starEach_cons hs)
  have q := T.fns _ _ _ hk
  unfold Spec at q
  rw [if_neg (by omega), if_neg (by omega)] at q
  obtain ⟨fa', q⟩ := q
  have e := q.named
  rw [hn, hmg] at e
  cases e
  refine q.run A s₁ vs as _ Q E T.room st.stays (T.step st).rel.frames r fun v s' d fr bs hk st' r' hfr => hQ _ _ _ _ _ hk (st.trans st') r' ?_
  refine FgOk.back st.ext ?_
  split
  · rename_i hi; exact imm_ok r' hi fun _ => rfl
  · split
    · rename_i hfr'
      have := hfr hfr'
      exact FgOk.new (T.step st).rel (fun _ => rfl) this.2 this.1
    · refine ⟨fun j d hj hu => ?_, fun q => (nomatch q)⟩
      exact absurd (List.mem_range.mpr (by rw [List.getElem?_eq_some_iff] at hj; exact hj.1)) hu

theorem blt1 {x : Str} {id : String} {np pos : Pos} {e : Expr} {a : X} {K : D → Fg → Prop} {Q E : Value → Shared → Prop} (T : At fname g Φ n F sc A s ρ fp) (hx : sc.names.lookup x = some .globalImplicit)
    (hb : bltTab.lookup x = some (.builtin id)) (hd : (x == ("__debug__" : Str)) = false) (hs : plainE e = true) (he : SemE fname sc e a) (h : wE Φ ρ a K)
    (hQ : ∀ v s' d f as, K d f → Step g s s' → Rp s'.heap v d as → FgOk ρ fp s.heap f as → wpAny (model g.p g.w) A (call (.builtin id) [v]) Q E s') :
    wpAny (model g.p g.w) A (eval (.Call (.Name x np) [e] [] pos) (F.env sc)) Q E s :=
  wpAny_Call_ofName (blt_name T hx hb hd (callWith_builtin1 (args_cons (he g Φ n F A s ρ fp _ _ E T h fun v s' d f as hk st r fo => args_nil (hQ v s' d f as hk st r fo)) (starEach_cons hs)) (starEach_cons hs) rfl))
theorem typ1 {x : Str} {id : String} {np pos : Pos} {e : Expr} {a : X} {K : D → Fg → Prop} {Q E : Value → Shared → Prop} (T : At fname g Φ n F sc A s ρ fp) (hx : sc.names.lookup x = some .globalImplicit)
    (hb : bltTab.lookup x = some (.type id)) (hd : (x == ("__debug__" : Str)) = false) (hs : plainE e = true) (he : SemE fname sc e a) (h : wE Φ ρ a K)
    (hQ : ∀ v s' d f as, K d f → Step g s s' → Rp s'.heap v d as → FgOk ρ fp s.heap f as → wpAny (model g.p g.w) A (call (.type id) [v]) Q E s') :
    wpAny (model g.p g.w) A (eval (.Call (.Name x np) [e] [] pos) (F.env sc)) Q E s :=
  wpAny_Call_ofName (blt_name T hx hb hd (callWith_type1 (args_cons (he g Φ n F A s ρ fp _ _ E T h fun v s' d f as hk st r fo => args_nil (hQ v s' d f as hk st r fo)) (starEach_cons hs)) (starEach_cons hs) rfl))
theorem blt2 {x : Str} {id : String} {np pos : Pos} {e e' : Expr} {a b : X} {K : D → Fg → D → Fg → Prop} {Q E : Value → Shared → Prop} (T : At fname g Φ n F sc A s ρ fp) (hx : sc.names.lookup x = some .globalImplicit)
    (hb : bltTab.lookup x = some (.builtin id)) (hd : (x == ("__debug__" : Str)) = false) (hs : plainE e = true) (hs' : plainE e' = true) (he : SemE fname sc e a) (he' : SemE fname sc e' b) (h : wE Φ ρ a fun x f => wE Φ ρ b fun y k => K x f y k)
    (hQ : ∀ v w s' d f as d' f' bs, K d f d' f' → Step g s s' → Rp s'.heap v d as → Rp s'.heap w d' bs → wpAny (model g.p g.w) A (call (.builtin id) [v, w]) Q E s') :
    wpAny (model g.p g.w) A (eval (.Call (.Name x np) [e, e'] [] pos) (F.env sc)) Q E s :=
  wpAny_Call_ofName (blt_name T hx hb hd (callWith_builtin1 (args_cons (he g Φ n F A s ρ fp _ _ E T h fun v s₁ d f as hk st r fo =>
    args_cons (he' g Φ n F A s₁ ρ fp _ _ E (T.step st) hk fun w s₂ d' f' bs hk' st' r' fo' => args_nil (hQ v w s₂ d f as d' f' bs hk' (st.trans st') (r.ext st'.ext) r')) (starEach_cons hs')) (starEach_cons hs)) (starEach_cons hs)
      (by rw [starEach_cons hs']; rfl)))

theorem sem_len {np pos : Pos} {e : Expr} {a : X} (hx : sc.names.lookup ("len" : Str) = some .globalImplicit) (hs : plainE e = true) (he : SemE fname sc e a) : SemE fname sc (.Call (.Name "len" np) [e] [] pos) (.len a) := by
  intro g Φ n F A s ρ fp K Q E T h hQ
  conv at h => whnf
  refine blt1 (id := "len") T hx rfl (by decide) hs he h fun v s' d f as hk st r fo => ?_
  rcases on_inv hk with ⟨_, _, hk⟩ | ⟨xs, rfl, hk⟩ | ⟨x, rfl, hk⟩
  · exact hk.elim
  · obtain ⟨a, vs, m, sl, as', rfl, _, e, z, i⟩ := r.list_inv
    refine PySem.Calls.call_len_list ⟨_, e, rfl, _, rfl⟩ (line_lt z) ?_
    rw [← Array.length_toList, i.length]; exact hQ _ _ _ _ [] hk (st.toks _) (.int _ _) .ff
  · obtain ⟨t, rfl, _, z⟩ := r.str_inv
    exact P.len_str (Int.not_le.mpr (line_lt z)) (hQ _ _ _ _ [] hk (st.toks _) (.int _ _) .ff)

noncomputable def tyName : Ty → String
  | .int => "int"
  | .bool => "bool"
  | .list => "list"
  | .str => "str"

theorem isi_rule {t : Ty} {v : Value} {d : D} {as : List Addr} {Q E : Value → Shared → Prop} (r : Rp s.heap v d as) (h : ∀ tk, Q (.bool (isTy t d)) { s with toks := tk }) : wpAny (model g.p g.w) A (call (.builtin "isinstance") [v, .type (tyName t)]) Q E s := by
  cases d with
  | none =>
    obtain ⟨rfl, _⟩ := r
    cases t with
    | int => exact IsiPair.NoneType_int (h _)
    | bool => exact IsiPair.NoneType_bool (h _)
    | list => exact IsiPair.NoneType_list (h _)
    | str => exact IsiPair.NoneType_str (h _)
  | bool b =>
    obtain ⟨rfl, _⟩ := r
    cases t with
    | int => exact IsiPair.bool_int (h s.toks)
    | bool => exact IsiPair.bool_bool (h s.toks)
    | list => exact IsiPair.bool_list (h _)
    | str => exact IsiPair.bool_str (h _)
  | int i =>
    obtain ⟨⟨u, rfl⟩, _⟩ := r
    cases t with
    | int => exact IsiPair.int_int (h s.toks)
    | bool => exact IsiPair.int_bool (h _)
    | list => exact IsiPair.int_list (h _)
    | str => exact IsiPair.int_str (h _)
  | str x =>
    obtain ⟨⟨u, rfl⟩, _⟩ := r
    cases t with
    | int => exact IsiPair.str_int (h _)
    | bool => exact IsiPair.str_bool (h _)
    | list => exact IsiPair.str_list (h _)
    | str => exact IsiPair.str_str (h s.toks)
  | list xs =>
    obtain ⟨a, vs, bs, rfl, _, ⟨n, sl, e, _⟩, _⟩ := r
    cases t with
    | int => exact IsiPair.list_int e rfl (h _)
    | bool => exact IsiPair.list_bool e rfl (h _)
    | list => exact IsiPair.list_list e rfl (h s.toks)
    | str => exact IsiPair.list_str e rfl (h _)
  | tuple xs =>
    obtain ⟨a, vs, rfl, ⟨n, sl, e, _⟩, _⟩ := r
    cases t with
    | int => exact IsiPair.tuple_int e rfl (h _)
    | bool => exact IsiPair.tuple_bool e rfl (h _)
    | list => exact IsiPair.tuple_list e rfl (h _)
    | str => exact IsiPair.tuple_str e rfl (h _)
  | dict kvs =>
    obtain ⟨a, o, es, n, t', rfl, _, _, e, c, _⟩ := r
    cases t with
    | int => exact IsiPair.dict_int e c (h _)
    | bool => exact IsiPair.dict_bool e c (h _)
    | list => exact IsiPair.dict_list e c (h _)
    | str => exact IsiPair.dict_str e c (h _)

theorem ty_blt (t : Ty) : bltTab.lookup (Str.ofString (tyName t)) = some (.type (tyName t)) ∧ ((Str.ofString (tyName t)) == ("__debug__" : Str)) = false := by cases t <;> exact ⟨rfl, rfl⟩
theorem sem_isinst {np tp pos : Pos} {e : Expr} {a : X} {t : Ty} (hx : sc.names.lookup ("isinstance" : Str) = some .globalImplicit) (ht : sc.names.lookup (Str.ofString (tyName t)) = some .globalImplicit) (hs : plainE e = true) (he : SemE fname sc e a) :
    SemE fname sc (.Call (.Name "isinstance" np) [e, .Name (tyName t) tp] [] pos) (.isinst a t) := by
  intro g Φ n F A s ρ fp K Q E T h hQ
  conv at h => whnf
  refine wpAny_Call_ofName (blt_name (v := .builtin "isinstance") T hx rfl (by decide) (callWith_builtin1 (args_cons (he g Φ n F A s ρ fp _ _ E T h fun v s₁ d f as hk st r fo => ?_) (starEach_cons hs)) (starEach_cons hs) rfl))
  refine args_cons (blt_name (T.step st) ht (ty_blt t).1 (ty_blt t).2 (args_nil ?_)) rfl
  exact isi_rule r fun tk => hQ _ _ _ _ [] hk (st.toks tk) (.bool _) .ff

theorem sem_max {np pos : Pos} {e e' : Expr} {a b : X} (hx : sc.names.lookup ("max" : Str) = some .globalImplicit) (hs : plainE e = true) (hs' : plainE e' = true) (he : SemE fname sc e a) (he' : SemE fname sc e' b) :
    SemE fname sc (.Call (.Name "max" np) [e, e'] [] pos) (.max a b) := by
  intro g Φ n F A s ρ fp K Q E T h hQ
  refine blt2 (K := fun x _ y _ => onI x fun m => onI y fun n => K (.int (if n > m then n else m)) ff) (id := "max") T hx rfl (by decide) hs hs' he he' h fun v w s' d f as d' f' bs hk st r r' => ?_
  obtain ⟨i, rfl, h1⟩ := onI_inv hk
  obtain ⟨j, rfl, h2⟩ := onI_inv (d := d') h1
  obtain ⟨t, rfl, _⟩ := r.int_inv
  obtain ⟨u, rfl, _⟩ := r'.int_inv
  refine max_two_ints T.room.handled fun h' tk kp => ?_
  have e : ∀ t u, (if j > i then Value.int j t else .int i u) = .int (if j > i then j else i) (if j > i then t else u) := fun t u => by split <;> rfl
  rw [e]
  exact hQ _ _ _ _ [] h2 (st.keep kp tk) (.int _ _) .ff

theorem sem_listOf {np pos : Pos} {e : Expr} {a : X} (hx : sc.names.lookup ("list" : Str) = some .globalImplicit) (hs : plainE e = true) (he : SemE fname sc e a) : SemE fname sc (.Call (.Name "list" np) [e] [] pos) (.listOf a) := by
  intro g Φ n F A s ρ fp K Q E T h hQ
  refine typ1 (id := "list") T hx rfl (by decide) hs he h fun v s' d f as hk st r fo => ?_
  obtain ⟨xs, rfl, h1⟩ := onL_inv hk
  obtain ⟨a, vs, m, sl, as', rfl, rfl, e, z, i⟩ := r.list_inv
  refine call_list_seq a (.inl rfl) e rfl rfl (fun h' c' kp hn => ?_) z
  exact hQ _ _ _ _ (s'.heap.objs.size :: as') h1 (st.keep kp s'.toks) (.list ⟨_, _, hn, z⟩ (i.ext (.of_keep kp))) (cp_ok (f := f) T.rel st.ext i ((fo.sub (List.sublist_cons_self _ _)).shared) (fresh_size _))

theorem sem_intOf {np pos : Pos} {e : Expr} {a : X} (hx : sc.names.lookup ("int" : Str) = some .globalImplicit) (hs : plainE e = true) (he : SemE fname sc e a) : SemE fname sc (.Call (.Name "int" np) [e] [] pos) (.intOf a) := by
  intro g Φ n F A s ρ fp K Q E T h hQ
  refine typ1 (id := "int") T hx rfl (by decide) hs he h fun v s' d f as hk st r fo => ?_
  obtain ⟨x, rfl, h1, h2, h3, h4⟩ := onS_inv hk
  obtain ⟨t, rfl, _⟩ := r.str_inv
  have hx : x.length ≤ 640 := by simpa [Str.length] using h2
  have hd : NumText.AllDigits x.cps.toList := fun c hc => by have := h3 c hc; simpa [isDig] using this
  exact PySem.W.KIN.call_text (intText_digits hd h1 (by omega)) hx (hQ _ _ _ _ [] h4 (st.toks _) (.int _ _) .ff)
end
end Mine
set_option Elab.async false
set_option maxRecDepth 100000
namespace Mine
open PySem PySem.Calls PyProof.Rows

section
variable {fname : Nat → Str} {g : Gx} {Φ : Calls} {n : Nat} {F : Fm} {sc : Scope} {A : Around} {s s' : Shared} {ρ : Vars} {fp : Nat → List Addr}

theorem sem_idx {e i : Expr} {a k : X} {pos : Pos} (hi : plainE i = true) (he : SemE fname sc e a) (hk : SemE fname sc i k) : SemE fname sc (.Subscript e i pos) (.idx a k) := by
  intro g Φ n F A s ρ fp K Q E T h hQ
  refine Subscript_ (he g Φ n F A s ρ fp _ _ E T h fun v s₁ x f as hk' st r fo => hk g Φ n F A s₁ ρ fp _ _ E (T.step st) hk' fun w s₂ y f' bs h' st' r' fo' => ?_)
  have st₂ := st.trans st'
  have r₂ := r.ext st'.ext
  obtain ⟨j, rfl, h''⟩ := onI_inv h'
  obtain ⟨t, rfl, _⟩ := r'.int_inv
  rcases on_inv (d := x) h'' with ⟨_, _, q⟩ | ⟨xs, rfl, h1, h2, h3, z, hz, hK⟩ | ⟨x, rfl, rfl, c, rr, hc, hK⟩
  · exact q.elim
  · obtain ⟨b, vs, m, sl, as', rfl, rfl, e1, sz, it⟩ := r₂.list_inv
    obtain ⟨u, cs, hu, ru, hsub⟩ := it.get _ _ hz
    have hl : vs.size = xs.length := by rw [← Array.length_toList, it.length]
    have hu' : vs[(place xs.length j).toNat]? = some u := by rw [← Array.getElem?_toList]; exact hu
    have hend := hQ u _ z _ cs hK st₂ ru (by
      split
      · rename_i hi; exact imm_ok ru hi fun _ => rfl
      · exact fo.sub (hsub.trans (List.sublist_cons_self _ _)))
    refine tail_any (T := "list") ⟨_, e1, rfl⟩ slot_list_getitem.lookup ?_ ((plain_all hi).sub _ _)
    by_cases hneg : j < 0
    · rw [place, if_pos hneg] at h3 hu'
      rw [← hl] at h3 hu'
      exact wpAny_getItem_list_neg ⟨_, e1, rfl, _, rfl⟩ hneg (by omega) h1 hu' hend
    · rw [place, if_neg hneg] at h3 hu'
      exact wpAny_getItem_list ⟨_, e1, rfl, _, rfl⟩ h3 h2 hu' hend
  · obtain ⟨t', rfl, _, hsz⟩ := r₂.str_inv
    refine tail_any (T := "str") (by rfl) PySem.F.slot_str_getitem.lookup ?_ ((plain_all hi).sub _ _)
    refine P.getItem_str (c := c) rfl ?_ (hQ _ _ _ _ [] hK (st₂.toks _) (.str _ _ (by show 1 ≤ sizeLine; decide)) .ff)
    have hx : x = Mine.st (c :: rr) := by rw [← hc, st_list]
    subst hx
    simp [seqIndex?, Mine.st, Str.length]

theorem pick_upto (items : Array Value) {k : Int} (h : 0 ≤ k) : slicePick items none (some k) none = (items.toList.take k.toNat).toArray := by
  rw [slicePick_plain]
  simp only [Option.elim, List.drop_zero, Nat.sub_zero, clipAt]
  rw [if_neg (Int.not_lt.mpr h)]
  congr 1
  rcases Int.le_total k items.size with q | q
  · rw [Int.min_eq_left q, Int.max_eq_right h]
  · rw [Int.min_eq_right q, Int.max_eq_right (Int.natCast_nonneg _), Int.toNat_natCast, List.take_of_length_le (by rw [Array.length_toList]; exact Nat.le_refl _), List.take_of_length_le (by rw [Array.length_toList]; exact (Int.le_toNat h).mpr q)]

theorem new_pick {bs : List Addr} {ws : List Value} {ys : List D} {s₂ : Shared} {f : Fg} {K : D → Fg → Prop} {Q : Value → Shared → Prop} (T : At fname g Φ n F sc A s ρ fp) (st : Step g s s₂) {o : Obj}
    (i : Rps s₂.heap ws ys bs) (hf : FgOk ρ fp s.heap ⟨true, f.u⟩ bs) (hz : ws.length ≤ sizeLine) (hK : K (.list ys) (cpF ys f))
    (hQ : ∀ v s' d f as, K d f → Step g s s' → Rp s'.heap v d as → FgOk ρ fp s.heap f as → Q v s') :
    Q (.ref (s₂.heap.push o).objs.size) { s₂ with heap := (s₂.heap.push o).push { cls := .type "list", data := .seq ws.toArray } } := by
  have st' := st.push o
  exact hQ _ _ _ _ ((s₂.heap.push o).objs.size :: bs) hK (st'.push _) (new_list (i.ext (Ext.push _ _)) hz 0)
    (cp_ok (f := f) T.rel st'.ext (i.ext (Ext.push _ _)) hf (fresh_size _))

theorem sem_upto {e i : Expr} {a k : X} {p pos : Pos} (he : SemE fname sc e a) (hk : SemE fname sc i k) : SemE fname sc (.Subscript e (.Slice none (some i) none p) pos) (.upto a k) := by
  intro g Φ n F A s ρ fp K Q E T h hQ
  refine Subscript_ (he g Φ n F A s ρ fp _ _ E T h fun v s₁ x f as hk' st r fo => wpAny_Slice (wpAny_pure (hk g Φ n F A s₁ ρ fp _ _ E (T.step st) hk' fun w s₂ y f' bs h' st' r' fo' => wpAny_pure ?_)))
  obtain ⟨xs, rfl, h1⟩ := onL_inv h'
  obtain ⟨j, rfl, h2, h3⟩ := onI_inv (d := y) h1
  obtain ⟨t, rfl, _⟩ := r'.int_inv
  obtain ⟨b, vs, m, sl, as', rfl, rfl, e1, sz, it⟩ := (r.ext st'.ext).list_inv
  refine tail_any (T := "list") ⟨_, Heap.get?_push_of_some _ e1, rfl⟩ slot_list_getitem.lookup ?_ rfl
  refine wpAny_getItem_list_slice (l := b) ⟨_, Heap.get?_push_of_some _ e1, rfl, _, rfl⟩ (Heap.IsSliceOf.new ..) .none (.int _ _) .none (by simp) ?_ sz
  rw [pick_upto vs h2]
  obtain ⟨cs, hr, hsub⟩ := it.take j.toNat
  exact new_pick T (st.trans st') hr ((fo.sub (hsub.trans (List.sublist_cons_self _ _))).shared) (Nat.le_trans (List.length_take_le' _ _) (by rw [Array.length_toList]; exact sz)) h3 hQ
end
end Mine
set_option Elab.async false
set_option maxRecDepth 100000
set_option linter.unusedVariables false
namespace Mine
open PySem PySem.Calls PyProof.Rows

noncomputable def FlowIs (F : Fm) (h : Heap) : Fl → Flow → Prop
  | .next, fl => fl = .next
  | .ret d fr, fl => ∃ v as, fl = .ret v ∧ Rp h v d as ∧ (fr = true → as.Nodup ∧ ∀ a ∈ as, F.H a = none)

theorem Later.refl (s : Shared) : Later s s := ⟨s.heap, s.toks, rfl⟩
theorem Later.trans {s₁ s₂ s₃ : Shared} (x : Later s₁ s₂) (y : Later s₂ s₃) : Later s₁ s₃ := by
  obtain ⟨h, tk, rfl⟩ := x; obtain ⟨h', tk', rfl⟩ := y; exact ⟨h', tk', rfl⟩
theorem Step.later {g : Gx} {s s' : Shared} (x : Step g s s') : Later s s' := by obtain ⟨h, tk, rfl, _⟩ := x; exact ⟨h, tk, rfl⟩

noncomputable def FlyAt (base : Heap) (l : List Env) (e : Addr) (cls : Value) (h : Heap) : Prop := base.StaysIn h ∧ base.get? e = none ∧ h.FunFrames base l ∧ ∃ a0 fl, h.TracedAtW base e cls a0 fl
noncomputable def Flew (g : Gx) (F : Fm) (sc : Scope) (s s' : Shared) (e C : Addr) : Prop :=
  ∃ s₂ ρ' fp', Later s s₂ ∧ Rel g F sc s₂.heap ρ' fp' ∧ Later s₂ s' ∧ ((∃ vs, Heap.MadeExcOf s₂.heap s'.heap e (.ref C) vs) ∨
    (FlyAt (gone g (F.env sc :: F.outer) s₂.heap) (F.env sc :: F.outer) e (.ref C) s'.heap ∧ s₂.heap.UpToSlots s'.heap))
theorem Flew.before {g : Gx} {F : Fm} {sc : Scope} {s s₁ s' : Shared} {e C : Addr} (l : Later s s₁) (x : Flew g F sc s₁ s' e C) : Flew g F sc s s' e C := by
  obtain ⟨s₂, ρ', fp', h1, r⟩ := x
  exact ⟨s₂, ρ', fp', l.trans h1, r⟩
structure Po (fname : Nat → Str) (g : Gx) (F : Fm) (sc : Scope) (s : Shared) (Q : Fl → Vars → Prop) (Z : Nat → Prop) (R : Flow → Shared → Prop) (E : Value → Shared → Prop) : Prop where
  exc : ∀ c, Z c → ∃ C, IsExc g (fname c) C
  nor : ∀ fl fl' s' ρ' fp', Q fl ρ' → FlowIs F s'.heap fl fl' → Later s s' → Rel g F sc s'.heap ρ' fp' → R fl' s'
  err : ∀ c C e s', Z c → IsExc g (fname c) C → Flew g F sc s s' e C → E (.ref e) s'
theorem Po.after {fname : Nat → Str} {g : Gx} {F : Fm} {sc : Scope} {s s₁ : Shared} {Q : Fl → Vars → Prop} {Z : Nat → Prop} {R : Flow → Shared → Prop} {E : Value → Shared → Prop} (P : Po fname g F sc s Q Z R E) (l : Later s s₁) : Po fname g F sc s₁ Q Z R E :=
  ⟨P.exc, fun fl fl' s' ρ' fp' hq hf hl hr => P.nor fl fl' s' ρ' fp' hq hf (l.trans hl) hr, fun c C e s' hz O x => P.err c C e s' hz O (x.before l)⟩
theorem Po.next {fname : Nat → Str} {g : Gx} {F : Fm} {sc : Scope} {s s' : Shared} {Q : Fl → Vars → Prop} {Z : Nat → Prop} {R : Flow → Shared → Prop} {E : Value → Shared → Prop} (P : Po fname g F sc s Q Z R E) {ρ' : Vars} {fp' : Nat → List Addr} (hq : Q .next ρ') (l : Later s s') (r : Rel g F sc s'.heap ρ' fp') : R .next s' :=
  P.nor .next .next s' ρ' fp' hq rfl l r

noncomputable def SemS (fname : Nat → Str) (sc : Scope) (st : Stmt) (x : S) : Prop :=
  ∀ (g : Gx) (Φ : Calls) (n : Nat) (F : Fm) (A : Around) (s : Shared) (ρ : Vars) (fp : Nat → List Addr) (Q : Fl → Vars → Prop) (Z : Nat → Prop) (R : Flow → Shared → Prop) (E : Value → Shared → Prop),
    At fname g Φ n F sc A s ρ fp → xS Φ Z x Q ρ → Po fname g F sc s Q Z R E → wpAny (model g.p g.w) A (exec st (F.env sc)) R E s
noncomputable def SemSs (fname : Nat → Str) (sc : Scope) (st : List Stmt) (x : Ss) : Prop :=
  ∀ (g : Gx) (Φ : Calls) (n : Nat) (F : Fm) (A : Around) (s : Shared) (ρ : Vars) (fp : Nat → List Addr) (Q : Fl → Vars → Prop) (Z : Nat → Prop) (R : Flow → Shared → Prop) (E : Value → Shared → Prop),
    At fname g Φ n F sc A s ρ fp → xSs Φ Z x Q ρ → Po fname g F sc s Q Z R E → wpAny (model g.p g.w) A (execs st (F.env sc)) R E s
noncomputable def SemXE (fname : Nat → Str) (sc : Scope) (e : Expr) (x : X) : Prop :=
  ∀ (g : Gx) (Φ : Calls) (n : Nat) (F : Fm) (A : Around) (s : Shared) (ρ : Vars) (fp : Nat → List Addr) (Z : Nat → Prop) (Q : Value → Shared → Prop) (E : Value → Shared → Prop),
    At fname g Φ n F sc A s ρ fp → xE Φ ρ Z x → (∀ c C e s', Z c → IsExc g (fname c) C → Flew g F sc s s' e C → E (.ref e) s') →
    wpAny (model g.p g.w) A (eval e (F.env sc)) Q E s
noncomputable def SemXT (fname : Nat → Str) (sc : Scope) (e : Expr) (x : X) : Prop :=
  ∀ (g : Gx) (Φ : Calls) (n : Nat) (F : Fm) (A : Around) (s : Shared) (ρ : Vars) (fp : Nat → List Addr) (Z : Nat → Prop) (Q : Bool → Shared → Prop) (E : Value → Shared → Prop),
    At fname g Φ n F sc A s ρ fp → xE Φ ρ Z x → (∀ c C e s', Z c → IsExc g (fname c) C → Flew g F sc s s' e C → E (.ref e) s') →
    wpAny (model g.p g.w) A (isTrue e (F.env sc) (eval e (F.env sc))) Q E s

theorem dem_get : ∀ (u : List Nat) (ρ : Vars) (j : Nat), (∀ d, (dem ρ u)[j]? = some (.own d) → ρ[j]? = some (.own d) ∧ j ∉ u) ∧ (∀ d, (dem ρ u)[j]? = some (.val d) → ρ[j]? = some (.val d) ∨ ρ[j]? = some (.own d)) ∧
    (∀ d, (ρ[j]? = some (.val d) ∨ ρ[j]? = some (.own d)) → (dem ρ u)[j]? = some (.val d) ∨ (dem ρ u)[j]? = some (.own d)) ∧ (dem ρ u).length = ρ.length
  | [], ρ, j => ⟨fun d h => ⟨h, fun q => (nomatch q)⟩, fun d h => .inl h, fun d h => h, rfl⟩
  | i :: u, ρ, j => by
    unfold dem
    split
    · rename_i d hi
      obtain ⟨h1, h2, h3, h4⟩ := dem_get u (ρ.set i (.val d)) j
      have hlt : i < ρ.length := by rw [List.getElem?_eq_some_iff] at hi; exact hi.1
      by_cases hij : j = i
      · subst hij
        have e : (ρ.set j (.val d))[j]? = some (.val d) := by simp [hlt]
        refine ⟨fun e' h => ?_, fun e' h => ?_, fun e' h => ?_, by simpa using h4⟩
        · have := (h1 e' h).1; rw [e] at this; cases this
        · rcases h2 e' h with q | q <;> rw [e] at q <;> cases q
          exact .inr hi
        · have hd : e' = d := by rcases h with q | q <;> rw [hi] at q <;> cases q; rfl
          subst hd
          exact h3 e' (.inl e)
      · have e : (ρ.set i (.val d))[j]? = ρ[j]? := by simp [List.getElem?_set, Ne.symm hij]
        rw [e] at h1 h2 h3
        refine ⟨fun e' h => ⟨(h1 e' h).1, fun q => ?_⟩, h2, h3, by simpa using h4⟩
        rcases List.mem_cons.mp q with q | q
        · exact hij q
        · exact (h1 e' h).2 q
    · rename_i hno
      obtain ⟨h1, h2, h3, h4⟩ := dem_get u ρ j
      refine ⟨fun e' h => ⟨(h1 e' h).1, fun q => ?_⟩, h2, h3, h4⟩
      rcases List.mem_cons.mp q with q | q
      · subst q; exact hno _ (h1 e' h).1
      · exact (h1 e' h).2 q

section
variable {fname : Nat → Str} {g : Gx} {Φ : Calls} {n : Nat} {F : Fm} {sc : Scope} {A : Around} {s s' : Shared} {ρ : Vars} {fp : Nat → List Addr} {h h' : Heap}

theorem Rel.dem (R : Rel g F sc h ρ fp) (u : List Nat) : Rel g F sc h (dem ρ u) fp where
  stays := R.stays
  held := R.held
  frames := R.frames
  ns := R.ns
  hL := R.hL
  cells := R.cells
  cnd := R.cnd
  ccov := R.ccov
  len := (dem_get u ρ 0).2.2.2.trans R.len
  nd := R.nd
  vars := fun i d e => R.vars i d (by
    rcases e with e | e
    · exact (dem_get u ρ i).2.1 d e
    · exact .inr ((dem_get u ρ i).1 d e).1)
  nofp := fun i e => R.nofp i fun d => ⟨fun q => by rcases (dem_get u ρ i).2.2.1 d (.inl q) with q | q; exact (e d).1 q; exact (e d).2 q, fun q => by rcases (dem_get u ρ i).2.2.1 d (.inr q) with q | q; exact (e d).1 q; exact (e d).2 q⟩
  own := fun i d e => R.own i d ((dem_get u ρ i).1 d e).1

noncomputable def Priv (F : Fm) (b : Addr) : Prop := b = F.L ∨ ∃ p ∈ F.cl, b = p.2

structure Stored (F : Fm) (sc : Scope) (h h' : Heap) (x : Str) (v : Value) : Prop where
  is : VarIs (F.env sc) h' x v
  oth : ∀ y w, y ≠ x → VarIs (F.env sc) h y w → VarIs (F.env sc) h' y w
  keep : ∀ b o, h.get? b = some o → ¬ Priv F b → h'.get? b = some o
  ns : ∃ m, h'.Ns F.L m
  cells : ∀ p ∈ F.cl, ∃ o v, h'.get? p.2 = some o ∧ o.data = .cell v

theorem Rel.privData (R : Rel g F sc h ρ fp) {b : Addr} (hb : Priv F b) {o : Obj} (e : h.get? b = some o) : ∀ vs n, o.data ≠ .seq vs n := by
  intro vs k hd
  rcases hb with rfl | ⟨p, hp, rfl⟩
  · obtain ⟨m, o', es, ep, ho, hd', _⟩ := R.ns
    rw [e] at ho; cases ho; rw [hd] at hd'; cases hd'
  · obtain ⟨_, _, o', v, ho, hd'⟩ := R.cells p hp
    rw [e] at ho; cases ho; rw [hd] at hd'; cases hd'

theorem Rel.privTame (R : Rel g F sc h ρ fp) {b : Addr} (hb : Priv F b) {o : Obj} (e : h.get? b = some o) : Tame o := by
  rcases hb with rfl | ⟨p, hp, rfl⟩
  · obtain ⟨m, o', es, ep, ho, hd', sk, _⟩ := R.ns
    rw [e] at ho; cases ho; exact .inr (.inr (.inr ⟨_, _, hd', sk⟩))
  · obtain ⟨_, _, o', v, ho, hd'⟩ := R.cells p hp
    rw [e] at ho; cases ho; exact .inr (.inr (.inl ⟨_, hd'⟩))
theorem Rel.stayBut (R : Rel g F sc h ρ fp) (k : ∀ b o, h.get? b = some o → ¬ Priv F b → h'.get? b = some o) : StayBut (Priv F) h h' :=
  ⟨fun b o e hb => .inl (k b o e hb), fun b o hb e => R.privTame hb e⟩
theorem Rel.rpStay (R : Rel g F sc h ρ fp) (k : ∀ b o, h.get? b = some o → ¬ Priv F b → h'.get? b = some o) {v d as} (r : Rp h v d as) : Rp h' v d as :=
  r.stay (R.stayBut k) fun a ha hb => by
    obtain ⟨vs, m, sl, e, _⟩ := r.mem a ha
    exact R.privData hb e vs m rfl

theorem FunFrames.data {base : Heap} (k : ∀ b o, h.get? b = some o → (∀ vs, o.data ≠ .fields vs) → ∃ o', h'.get? b = some o' ∧ ∀ vs, o'.data ≠ .fields vs) : ∀ {l : List Env}, h.FunFrames base l → h'.FunFrames base l
  | [], _ => trivial
  | env :: l, hl => by
    obtain ⟨hk, ⟨L, o, hf, hn, ho, hd⟩, hr⟩ := hl
    obtain ⟨o', ho', hd'⟩ := k L o ho hd
    exact ⟨hk, ⟨L, o', hf, hn, ho', hd'⟩, FunFrames.data k hr⟩

theorem Rel.baseL (R : Rel g F sc h ρ fp) : g.base.get? F.L = none := by
  obtain ⟨_, ⟨L, o, hf, hn, _⟩, _⟩ := R.frames
  cases hf; exact hn

theorem slots_ne {xs : List Str} (nd : xs.Nodup) {i j : Nat} {x y : Str} (hx : xs[i]? = some x) (hy : xs[j]? = some y) (h : j ≠ i) : y ≠ x := by
  rw [List.getElem?_eq_some_iff] at hx hy
  obtain ⟨hi, hx⟩ := hx
  obtain ⟨hj, hy⟩ := hy
  intro e
  have pw := List.pairwise_iff_getElem.mp nd
  rcases Nat.lt_or_gt_of_ne h with q | q
  · exact pw j i hj hi q (by rw [hx, hy, e])
  · exact pw i j hi hj q (by rw [hx, hy, e])

theorem Rel.set (R : Rel g F sc h ρ fp) (M : Addr → Prop) {x : Str} {i : Nat} {c : Cell} {as : List Addr} (hx : (slots sc)[i]? = some x) (k : ∀ b o, h.get? b = some o → ¬ M b → h'.get? b = some o)
    (hM : ∀ b, M b → (F.H b = none ∧ g.base.get? b = none) ∧ ∀ o, h.get? b = some o → ∃ o', h'.get? b = some o' ∧ ∀ vs, o'.data ≠ .fields vs)
    (ns : ∃ m, h'.Ns F.L m) (cells : ∀ p ∈ F.cl, ∃ o v, h'.get? p.2 = some o ∧ o.data = .cell v) (oldv : ∀ y v, y ≠ x → VarIs (F.env sc) h y v → VarIs (F.env sc) h' y v)
    (oldr : ∀ j v d, j ≠ i → Rp h v d (fp j) → Rp h' v d (fp j)) (new : ∃ d v, (c = .val d ∨ c = .own d) ∧ VarIs (F.env sc) h' x v ∧ Rp h' v d as)
    (own : ∀ d, c = .own d → as.Nodup ∧ (∀ a ∈ as, F.H a = none ∧ g.base.get? a = none) ∧ ∀ j, j ≠ i → ∀ a ∈ as, a ∉ fp j) (dis : ∀ j e, j ≠ i → ρ[j]? = some (.own e) → ∀ a ∈ as, a ∉ fp j) :
    Rel g F sc h' (ρ.set i c) (fun j => if j = i then as else fp j) := by
  have hlt : i < ρ.length := by rw [R.len]; rw [List.getElem?_eq_some_iff] at hx; exact hx.1
  have hi : (ρ.set i c)[i]? = some c := by rw [List.getElem?_set_self hlt]
  have hj : ∀ j, j ≠ i → (ρ.set i c)[j]? = ρ[j]? := fun j hne => List.getElem?_set_ne (Ne.symm hne)
  obtain ⟨d, v, hc, hv, hr⟩ := new
  refine ⟨fun b o e => k b o (R.stays b o e) fun q => ?_, fun b o e => ?_, FunFrames.data (fun b o e hd => ?_) R.frames, ns, R.hL, fun p hp => ⟨(R.cells p hp).1, (R.cells p hp).2.1, cells p hp⟩, R.cnd, R.ccov, (List.length_set ..).trans R.len, R.nd, fun j e he => ?_, fun j e => ?_, fun j e he => ?_⟩
  · rw [(hM b q).1.2] at e; cases e
  · have hb : ¬ M b := fun q => by rw [(hM b q).1.1] at e; cases e
    exact (R.held b o e).imp (fun q => k b o q hb) fun ⟨hd, sl, q⟩ => ⟨hd, sl, k b _ q hb⟩
  · by_cases hb : M b
    · exact (hM b hb).2 o e
    · exact ⟨o, k b o e hb, hd⟩
  · by_cases hne : j = i
    · subst hne
      rw [hi] at he
      have he' : e = d := by rcases hc with q | q <;> rcases he with p | p <;> rw [q] at p <;> cases p <;> rfl
      subst he'
      rw [if_pos rfl]
      exact ⟨x, v, hx, hv, hr⟩
    · rw [hj j hne] at he
      rw [if_neg hne]
      obtain ⟨y, w, hy, hv', hr'⟩ := R.vars j e he
      exact ⟨y, w, hy, oldv y w (slots_ne R.nd hx hy hne) hv', oldr j w e hne hr'⟩
  · by_cases hne : j = i
    · subst hne
      rw [hi] at e
      rcases hc with q | q
      · exact absurd (congrArg some q) (e d).1
      · exact absurd (congrArg some q) (e d).2
    · rw [hj j hne] at e
      rw [if_neg hne]; exact R.nofp j e
  · by_cases hne : j = i
    · subst hne
      rw [hi] at he
      injection he with he
      obtain ⟨q1, q2, q3⟩ := own e he
      simp only [if_true]
      exact ⟨q1, q2, fun k hk a ha => by rw [if_neg hk]; exact q3 k hk a ha⟩
    · rw [hj j hne] at he
      simp only [if_neg hne]
      obtain ⟨o1, o2, o3⟩ := R.own j e he
      refine ⟨o1, o2, fun k hk a ha => ?_⟩
      by_cases hki : k = i
      · rw [if_pos hki]; exact fun q => dis j e hne he a q ha
      · rw [if_neg hki]; exact o3 k hk a ha
theorem Rel.privOut (R : Rel g F sc h ρ fp) {b : Addr} (q : Priv F b) : F.H b = none ∧ g.base.get? b = none := by
  rcases q with rfl | ⟨p, hp, rfl⟩
  · exact ⟨R.hL, R.baseL⟩
  · exact ⟨(R.cells p hp).1, (R.cells p hp).2.1⟩
theorem Rel.put (R : Rel g F sc h ρ fp) {x : Str} {i : Nat} {v : Value} {d : D} {as : List Addr} {c : Cell} (hx : (slots sc)[i]? = some x) (S : Stored F sc h h' x v) (r : Rp h v d as) (hc : c = .val d ∨ c = .own d)
    (hown : ∀ j e, j ≠ i → ρ[j]? = some (.own e) → ∀ a ∈ as, a ∉ fp j) (hnew : c = .own d → as.Nodup ∧ (∀ a ∈ as, F.H a = none ∧ g.base.get? a = none) ∧ ∀ j, j ≠ i → ∀ a ∈ as, a ∉ fp j) :
    Rel g F sc h' (ρ.set i c) (fun j => if j = i then as else fp j) := by
  refine R.set (Priv F) hx S.keep (fun b hb => ⟨R.privOut hb, fun o e => ?_⟩) S.ns S.cells S.oth (fun j v d _ r => R.rpStay S.keep r) ⟨d, v, hc, S.is, R.rpStay S.keep r⟩ (fun e he => hnew ?_) hown
  · rcases hb with rfl | ⟨p, hp, rfl⟩
    · obtain ⟨m, o', es, ep, ho, hd', _⟩ := S.ns
      exact ⟨o', ho, fun vs q => by rw [hd'] at q; cases q⟩
    · obtain ⟨o', w, ho, hd'⟩ := S.cells p hp
      exact ⟨o', ho, fun vs q => by rw [hd'] at q; cases q⟩
  · rcases hc with q | q
    · rw [q] at he; cases he
    · exact q

theorem Rel.newH (R : Rel g F sc h ρ fp) {a : Addr} (e : h.get? a = none) : F.H a = none ∧ g.base.get? a = none := by
  constructor
  · cases hq : F.H a with
    | none => rfl
    | some o => rcases R.held a o hq with q | ⟨_, _, q⟩ <;> rw [e] at q <;> cases q
  · cases hq : g.base.get? a with
    | none => rfl
    | some o => have q := R.stays a o hq; rw [e] at q; cases q
theorem Rel.newFp (R : Rel g F sc h ρ fp) {a : Addr} (e : h.get? a = none) (j : Nat) : a ∉ fp j := fun q => (R.fp_there j a q).there e
theorem FgOk.made {f : Fg} {as : List Addr} (fo : FgOk ρ fp h f as) (h1 : f.sh = false) (h2 : f.u = []) : as.Nodup ∧ ∀ a ∈ as, h.get? a = none := by
  obtain ⟨q1, q2, _⟩ := fo.2 h1
  rw [h2] at q1 q2
  refine ⟨q2 List.nodup_nil, fun a ha => ?_⟩
  rcases q1 a ha with q | ⟨j, hj, _⟩
  · exact q
  · cases hj

theorem mem_of_look : ∀ {l : List (Str × Addr)} {u : Str} {k : Addr}, l.lookup u = some k → (u, k) ∈ l
  | [], _, _, e => by cases e
  | (z, w) :: r, u, k, e => by
    rw [List.lookup_cons] at e
    by_cases h : (u == z) = true
    · simp only [h] at e; cases e; rw [beq_iff_eq.mp h]; exact .head _
    · simp only [h] at e; exact .tail _ (mem_of_look e)

theorem cells_ne (nd : (F.cl.map (·.2)).Nodup) : ∀ {x y : Str} {c c' : Addr}, F.cl.lookup x = some c → F.cl.lookup y = some c' → y ≠ x → c' ≠ c := by
  have key : ∀ (l : List (Str × Addr)), (l.map (·.2)).Nodup → ∀ {x y : Str} {c c' : Addr}, l.lookup x = some c → l.lookup y = some c' → y ≠ x → c' ≠ c := by
    intro l
    induction l with
    | nil => intro _ x y c c' h; cases h
    | cons p r ih =>
      obtain ⟨z, w⟩ := p
      intro nd x y c c' hx hy hne
      simp only [List.map_cons, List.nodup_cons] at nd
      have memOf : ∀ {u : Str} {k : Addr}, r.lookup u = some k → k ∈ r.map (·.2) := by
        intro u k hk
        exact List.mem_map.mpr ⟨(u, k), mem_of_look hk, rfl⟩
      rw [List.lookup_cons] at hx hy
      by_cases h1 : (x == z) = true
      · simp only [h1] at hx
        cases hx
        by_cases h2 : (y == z) = true
        · exact absurd ((beq_iff_eq.mp h2).trans (beq_iff_eq.mp h1).symm) hne
        · simp only [h2] at hy
          intro q; subst q; exact nd.1 (memOf hy)
      · simp only [h1] at hx
        by_cases h2 : (y == z) = true
        · simp only [h2] at hy
          cases hy
          intro q; subst q; exact nd.1 (memOf hx)
        · simp only [h2] at hy
          exact ih nd.2 hx hy hne
  intro x y c c' h1 h2 h3
  exact key F.cl nd h1 h2 h3

theorem store0 {x : Str} {i : Nat} {v : Value} {R : Unit → Shared → Prop} {E : Value → Shared → Prop} (hkd : sc.kind = .function) (Rl : Rel g F sc s.heap ρ fp) (hk : sc.names.lookup x = some .local ∨ sc.names.lookup x = some .cell)
    (hR : ∀ h' tk, Stored F sc s.heap h' x v → R () { s with heap := h', toks := tk }) : wpAny (model g.p g.w) A (storeName (F.env sc) x v) R E s := by
  rcases hk with hk | hk
  · obtain ⟨m, hn⟩ := Rl.ns
    have hp : ((F.env sc).scope.kind == .class || ((F.env sc).scope.kind == .module && (F.env sc).locals != (F.env sc).globals)) = false := by
      show (sc.kind == .class || (sc.kind == .module && F.L != mainGlobals)) = false
      rw [hkd]; rfl
    refine wpAny_storeName_local hk hn (fun h' hn' hs => hR h' _ ?_) hp
    have keep : ∀ b o, s.heap.get? b = some o → ¬ Priv F b → h'.get? b = some o := fun b o e hb => (hs.2 b fun q => hb (.inl q)).trans e
    have hcl : ∀ p ∈ F.cl, p.2 ≠ F.L := fun p hp q => by
      obtain ⟨_, _, o, w, ho, hd⟩ := Rl.cells p hp
      obtain ⟨o', es, ep, ho', hd', _⟩ := hn
      rw [q, ho'] at ho; cases ho; rw [hd'] at hd; cases hd
    refine ⟨.inl ⟨hk, _, hn', by simp⟩, fun y w hne hv => ?_, keep, ⟨_, hn'⟩, fun p hp => ?_⟩
    · rcases hv with ⟨hl, m', hm', hv'⟩ | ⟨hl, c, o, h1, h2, h3⟩
      · refine .inl ⟨hl, _, hn', ?_⟩
        rw [if_neg hne]
        obtain ⟨o, es, ep, ho, hd, _, hf⟩ := hn
        obtain ⟨o', es', ep', ho', hd', _, hf'⟩ := hm'
        rw [show (F.env sc).locals = F.L from rfl, ho] at ho'
        cases ho'
        rw [hd] at hd'; cases hd'
        rw [← hf, hf', hv']
      · exact .inr ⟨hl, c, o, h1, (hs.2 c (hcl _ (mem_of_look h1))).trans h2, h3⟩
    · obtain ⟨_, _, o, w, ho, hd⟩ := Rl.cells p hp
      exact ⟨o, w, (hs.2 p.2 (hcl p hp)).trans ho, hd⟩
  · obtain ⟨c, hc⟩ := Rl.ccov x hk
    obtain ⟨_, _, o, v₀, ho, hd⟩ := Rl.cells _ (mem_of_look hc)
    refine wpAny_storeName_cell hkd hk hc ⟨o, ho, hd⟩ fun h' hn' hs => hR h' s.toks ?_
    obtain ⟨o', ho', hd'⟩ := hn'
    have keep : ∀ b o, s.heap.get? b = some o → ¬ Priv F b → h'.get? b = some o := fun b o e hb => (hs.2 b fun q => hb (.inr ⟨_, mem_of_look hc, q⟩)).trans e
    have hcL : c ≠ F.L := fun q => by
      obtain ⟨m, o2, es, ep, ho2, hd2, _⟩ := Rl.ns
      rw [← q, ho] at ho2; cases ho2; rw [hd] at hd2; cases hd2
    obtain ⟨m, hn⟩ := Rl.ns
    refine ⟨.inr ⟨hk, c, o', hc, ho', hd'⟩, fun y w hne hv => ?_, keep, ⟨m, hn.sameBut hs (Ne.symm hcL)⟩, fun p hp => ?_⟩
    · rcases hv with ⟨hl, m', hm', hv'⟩ | ⟨hl, c', o2, h1, h2, h3⟩
      · exact .inl ⟨hl, m', Heap.Ns.sameBut hm' hs (Ne.symm hcL), hv'⟩
      · exact .inr ⟨hl, c', o2, h1, (hs.2 c' (cells_ne Rl.cnd hc h1 hne)).trans h2, h3⟩
    · by_cases q : p.2 = c
      · rw [q]; exact ⟨o', _, ho', hd'⟩
      · obtain ⟨_, _, o2, w, ho2, hd2⟩ := Rl.cells p hp
        exact ⟨o2, w, (hs.2 p.2 q).trans ho2, hd2⟩

theorem store_rule {x : Str} {i : Nat} {v : Value} {R : Unit → Shared → Prop} {E : Value → Shared → Prop} (T : At fname g Φ n F sc A s ρ fp) (hk : sc.names.lookup x = some .local ∨ sc.names.lookup x = some .cell)
    (hR : ∀ h' tk, Stored F sc s.heap h' x v → R () { s with heap := h', toks := tk }) : wpAny (model g.p g.w) A (storeName (F.env sc) x v) R E s :=
  store0 (i := i) T.kind T.rel hk hR

theorem Rel.asg {s₀ : Shared} (R₀ : Rel g F sc s₀.heap ρ fp) (R : Rel g F sc h ρ fp) (x : Ext s₀.heap h) {y : Str} {i : Nat} {v : Value} {d : D} {f : Fg} {as : List Addr} (hx : (slots sc)[i]? = some y) (S : Stored F sc h h' y v) (r : Rp h v d as) (fo : FgOk ρ fp s₀.heap f as) :
    Rel g F sc h' (Mine.asg ρ i d f) (fun j => if j = i then as else fp j) := by
  unfold Mine.asg
  split
  · rename_i hi
    have e := r.imm hi
    subst e
    exact R.put hx S r (.inl rfl) (fun _ _ _ _ _ ha => (nomatch ha)) fun q => (nomatch q)
  · split
    · rename_i hf
      obtain ⟨nd, fresh⟩ := fo.made hf.1 hf.2
      exact R.put hx S r (.inr rfl) (fun j _ _ _ a ha => R₀.newFp (fresh a ha) j) fun _ => ⟨nd, fun a ha => R₀.newH (fresh a ha), fun j _ a ha => R₀.newFp (fresh a ha) j⟩
    · refine (R.dem f.u).put hx S r (.inl rfl) (fun j e _ hj a ha => ?_) fun q => (nomatch q)
      have := (dem_get f.u ρ j).1 e hj
      exact fo.1 j e this.1 this.2 a ha

theorem sem_assign {x : Str} {p pos : Pos} {e : Expr} {a : X} {i : Nat} (hx : (slots sc)[i]? = some x) (hk : sc.names.lookup x = some .local ∨ sc.names.lookup x = some .cell) (hn : plainE e = true) (he : SemE fname sc e a) :
    SemS fname sc (.Assign [.Name x p] e pos) (.assign i a) := by
  intro g Φ n F A s ρ fp Q Z R E T h P
  exact wpAny_Assign_Name (he g Φ n F A s ρ fp _ _ E T h fun v s₁ d f as hq st r fo => store_rule (i := i) (T.step st) hk fun h' tk S =>
    P.next hq (st.later.trans ⟨_, _, rfl⟩) (Rel.asg T.rel (T.step st).rel st.ext hx S r fo)) ((plain_all hn).swap _ _ _)

theorem no_inter (hk : sc.kind = .function) : interactive (F.env sc) = false := by
  show (sc.kind == .module && _) = false
  rw [hk]; rfl
theorem not_interactive (T : At fname g Φ n F sc A s ρ fp) : interactive (F.env sc) = false := no_inter T.kind

theorem sem_expr {e : Expr} {a : X} {pos : Pos} (hn : plainE e = true) (he : SemE fname sc e a) (hx : SemXE fname sc e a) : SemS fname sc (.Expr e pos) (.expr a) := by
  intro g Φ n F A s ρ fp Q Z R E T h P
  rcases orX_inv h with h | h
  · exact wpAny_Expr_any (hx g Φ n F A s ρ fp Z _ E T h P.err) (not_interactive T) ((plain_all hn).swap _ _ _)
  · exact wpAny_Expr_any (he g Φ n F A s ρ fp _ _ E T h fun v s₁ d f as hq st r fo => P.next hq st.later (T.step st).rel) (not_interactive T) ((plain_all hn).swap _ _ _)

theorem sem_if {t : Expr} {b o : List Stmt} {x : X} {y z : Ss} {pos : Pos} (ht : SemT fname sc t x) (hx : SemXT fname sc t x) (hb : SemSs fname sc b y) (ho : SemSs fname sc o z) : SemS fname sc (.If t b o pos) (.ite x y z) := by
  intro g Φ n F A s ρ fp Q Z R E T h P
  rcases orX_inv h with h | h
  · exact wpAny_If (hx g Φ n F A s ρ fp Z _ E T h P.err)
  · refine wpAny_If (ht g Φ n F A s ρ fp (fun r => br r (xSs Φ Z y Q ρ) (xSs Φ Z z Q ρ)) _ E T h fun r s₁ hk st => ?_)
    cases r
    · exact ho g Φ n F A s₁ ρ fp Q Z R E (T.step st) hk (P.after st.later)
    · exact hb g Φ n F A s₁ ρ fp Q Z R E (T.step st) hk (P.after st.later)

theorem sem_ret {e : Expr} {a : X} {pos : Pos} (he : SemE fname sc e a) (hx : SemXE fname sc e a) : SemS fname sc (.Return (some e) pos) (.ret a) := by
  intro g Φ n F A s ρ fp Q Z R E T h P
  rcases orX_inv h with h | h
  · exact wpAny_Return_some (hx g Φ n F A s ρ fp Z _ E T h P.err)
  · refine wpAny_Return_some (he g Φ n F A s ρ fp _ _ E T h fun v s₁ d f as hq st r fo => P.nor _ (.ret v) s₁ _ fp hq ⟨v, as, rfl, r, fun hfr => ?_⟩ st.later (T.step st).rel)
    have hfr' : f.sh = false ∧ f.u.Nodup := by simpa using hfr
    obtain ⟨q1, q2, q3⟩ := fo.2 hfr'.1
    refine ⟨q2 hfr'.2, fun a ha => ?_⟩
    rcases q1 a ha with q | ⟨j, hj, q⟩
    · exact (T.rel.newH q).1
    · obtain ⟨d', hd'⟩ := q3 j hj
      exact ((T.rel.own j d' hd').2.1 a q).1

theorem sem_snil : SemSs fname sc [] .nil := fun g Φ n F A s ρ fp Q Z R E T h P => wpAny_execs_nil (P.next h (.refl s) T.rel)
theorem At.rel' (T : At fname g Φ n F sc A s ρ fp) {ρ' : Vars} {fp' : Nat → List Addr} (R : Rel g F sc s'.heap ρ' fp') : At fname g Φ n F sc A s' ρ' fp' := ⟨T.gd, T.fns, T.named, T.exc, T.kind, T.plain, T.room, R⟩
theorem sem_scons {st : Stmt} {r : List Stmt} {x : S} {y : Ss} (hs : SemS fname sc st x) (hr : SemSs fname sc r y) : SemSs fname sc (st :: r) (.cons x y) := by
  intro g Φ n F A s ρ fp Q Z R E T h P
  refine wpAny_execs_cons (hs g Φ n F A s ρ fp _ Z _ E T h ⟨P.exc, fun fl fl' s' ρ' fp' hq hf hl hrel => ?_, P.err⟩)
  cases fl with
  | next =>
    have hf' : fl' = .next := hf
    subst hf'
    exact hr g Φ n F A s' ρ' fp' Q Z R E (T.rel' hrel) hq (P.after hl)
  | ret d fr =>
    have hf' := hf
    obtain ⟨v, as, rfl, _⟩ := hf'
    exact P.nor _ _ _ _ _ hq hf hl hrel
theorem sem_never_s {st : List Stmt} : SemSs fname sc st (.cons .never .nil) := fun g Φ n F A s ρ fp Q Z R E T h P => h.elim
end
end Mine
set_option Elab.async false
set_option maxRecDepth 100000
set_option linter.unusedVariables false
namespace Mine
open PySem PySem.Calls PyProof.Rows

section
variable {fname : Nat → Str} {g : Gx} {Φ : Calls} {n : Nat} {F : Fm} {sc : Scope} {A : Around} {s s' : Shared} {ρ : Vars} {fp : Nat → List Addr} {h h' : Heap}

theorem append_heap {l : Addr} {x : Value} {o : Obj} {vs : Array Value} {k : Nat} {Q E : Value → Shared → Prop} (ho : s.heap.get? l = some o) (hc : o.cls = .type "list") (hd : o.data = .seq vs k) (hz : vs.size ≤ sizeLine)
    (hQ : Q .none { s with heap := s.heap.update l (Obj.mapSeq (·.push x)) }) : wpAny (model g.p g.w) A (call (.builtin "list.append") [.ref l, x]) Q E s := by
  refine wpAny_call_entry slot_list_append ⟨o, ho, hc⟩ entry_list_append ?_ (args_list_append _ _)
  show wpAny _ _ (updateSeq l (·.push x) >>= fun _ => ret .none) _ _ s
  exact wpAny_bind (wpAny_updateSeq ho hd (wpAny_pure ⟨.none, rfl, hQ⟩) hz (by simp; omega))

theorem Rel.mutate (R : Rel g F sc h ρ fp) {i : Nat} {a : Addr} {as as' : List Addr} {xs xs' : List D} {vs' : Array Value} (hi : ρ[i]? = some (.own (.list xs))) (hf : fp i = a :: as)
    (hs : Heap.SameBut a h h') (ho : SeqO h' "list" a vs') (r : Rps h vs'.toList xs' as')
    (hnd : (a :: as').Nodup) (hH : ∀ b ∈ as', F.H b = none ∧ g.base.get? b = none) (hdis : ∀ j, j ≠ i → ∀ b ∈ as', b ∉ fp j) :
    Rel g F sc h' (ρ.set i (.own (.list xs'))) (fun j => if j = i then a :: as' else fp j) := by
  obtain ⟨o1, o2, o3⟩ := R.own i _ hi
  obtain ⟨x, v, hx, hv, rv⟩ := R.vars i _ (.inr hi)
  have hva : v = .ref a := by
    obtain ⟨b, _, _, e1, e2, _⟩ := rv
    rw [hf] at e2; injection e2 with e2; rw [e1, e2]
  rw [hf] at o1 o2 o3
  obtain ⟨vb, kb, slb, eb, _⟩ := R.fp_there i a (by rw [hf]; exact .head _)
  have hpr : ¬ Priv F a := fun q => R.privData q eb vb kb rfl
  have hLa : F.L ≠ a := fun q => hpr (.inl q.symm)
  have hca : ∀ p ∈ F.cl, p.2 ≠ a := fun p hp q => hpr (.inr ⟨p, hp, q.symm⟩)
  have k : ∀ b o, h.get? b = some o → ¬ b = a → h'.get? b = some o := fun b o e hb => (hs.2 b hb).trans e
  have sb : StayBut (· = a) h h' := ⟨fun b o e hb => .inl (k b o e hb), fun b o hb e => .inl (by
    rw [show b = a from hb, eb] at e; cases e; rfl)⟩
  have vs_ok : ∀ y w, VarIs (F.env sc) h y w → VarIs (F.env sc) h' y w := by
    rintro y w (⟨hl, m, hm, hv⟩ | ⟨hl, c, o2, h1, h2, h3⟩)
    · exact .inl ⟨hl, m, Heap.Ns.sameBut hm hs hLa, hv⟩
    · exact .inr ⟨hl, c, o2, h1, k c o2 h2 (hca _ (mem_of_look h1)), h3⟩
  have dis : ∀ j, j ≠ i → ∀ b ∈ a :: as', b ∉ fp j := fun j hj b hb => by
    rcases List.mem_cons.mp hb with rfl | hb
    · exact o3 j hj b (.head _)
    · exact hdis j hj b hb
  refine R.set (· = a) hx k (fun b hb => ⟨by rw [hb]; exact o2 a (.head _), fun o e => ?_⟩) ?_ (fun p hp => ?_) (fun y v _ => vs_ok y v) (fun j v d hj r => r.stay sb fun b hb q => ?_)
    ⟨.list xs', v, .inr rfl, vs_ok x v hv, ?_⟩ (fun d _ => ⟨hnd, fun b hb => ?_, dis⟩) (fun j e hj _ => dis j hj)
  · rw [hb]; obtain ⟨_, _, ho', _⟩ := ho; exact ⟨_, ho', fun vs q => nomatch q⟩
  · obtain ⟨m, hm⟩ := R.ns; exact ⟨m, hm.sameBut hs hLa⟩
  · obtain ⟨_, _, o2, w, c3, c4⟩ := R.cells p hp
    exact ⟨o2, w, k _ _ c3 (hca p hp), c4⟩
  · rw [show b = a from q] at hb; exact o3 j hj a (.head _) hb
  · rw [hva]
    refine .list ho (r.stay sb fun b hb q => ?_)
    rw [show b = a from q] at hb
    exact (List.nodup_cons.mp hnd).1 hb
  · rcases List.mem_cons.mp hb with rfl | hb
    · exact o2 b (.head _)
    · exact hH b hb

theorem load_k {x : Str} {v : Value} {pos : Pos} {Q E : Value → Shared → Prop} (hk : sc.kind = .function) (hv : VarIs (F.env sc) s.heap x v) (hd : (x == ("__debug__" : Str)) = false) (h : Q v s) : wpAny (model g.p g.w) A (eval (.Name x pos) (F.env sc)) Q E s := by
  rcases hv with ⟨hl, m, hn, hm⟩ | ⟨hl, c, o, h1, h2, h3⟩
  · exact wpAny_Name (wpAny_loadName_local hk hl hn hm h) hd
  · exact wpAny_Name (wpAny_loadName_cell hk hl h1 ⟨o, h2, h3⟩ h) hd
theorem load_var {x : Str} {v : Value} {pos : Pos} {Q E : Value → Shared → Prop} (T : At fname g Φ n F sc A s ρ fp) (hv : VarIs (F.env sc) s.heap x v) (hd : (x == ("__debug__" : Str)) = false) (h : Q v s) : wpAny (model g.p g.w) A (eval (.Name x pos) (F.env sc)) Q E s := load_k T.kind hv hd h

theorem seq_update {a : Addr} {vs : Array Value} {f : Array Value → Array Value} (o : SeqO h "list" a vs) (hz : (f vs).size ≤ sizeLine) : SeqO (h.update a (Obj.mapSeq f)) "list" a (f vs) := by
  obtain ⟨k, sl, e, _⟩ := o
  have ho' := Heap.get?_update_self (Obj.mapSeq f) e rfl
  exact ⟨_, sl, ho', hz⟩

theorem sem_append {x : Str} {p apos pos epos : Pos} {e : Expr} {a : X} {i : Nat} (hx : (slots sc)[i]? = some x) (hd : (x == ("__debug__" : Str)) = false) (hl : (apos.endLine == pos.line) = true) (hs : plainE e = true) (he : SemE fname sc e a) :
    SemS fname sc (.Expr (.Call (.Attribute (.Name x p) "append" apos) [e] [] pos) epos) (.append i a) := by
  intro g Φ n F A s ρ fp Q Z R E T h P
  obtain ⟨xs, hi, h⟩ := ownL_inv h
  · obtain ⟨y, v, hy, hv, r⟩ := T.rel.vars i _ (.inr hi)
    rw [hx] at hy; cases hy
    refine wpAny_Expr_any ?_ (not_interactive T) rfl
    refine wpAny_Call_append rfl ?_ hl ?_ ?_
    · rw [starEach_cons hs]; rfl
    · rw [starEach_cons hs]; rfl
    · obtain ⟨b, vs, en, sl, as', rfl, hfp, e1, sz, it⟩ := r.list_inv
      refine load_var T hv hd ⟨b, vs, rfl, ⟨_, en, e1, rfl, rfl, rfl⟩, he g Φ n F A s ρ fp _ _ E T h fun w s₁ d f bs hk st rw' fo => ?_⟩
      obtain ⟨hsh, hu, hz, hQ⟩ := hk
      obtain ⟨sl', e1'⟩ := st.ext.soft e1
      have hz' : vs.size + 1 ≤ sizeLine := by rw [← Array.length_toList, it.length]; exact hz
      refine append_heap e1' rfl rfl sz ?_
      obtain ⟨nb, fresh⟩ := fo.made hsh hu
      obtain ⟨o1, o2, o3⟩ := T.rel.own i _ hi
      rw [hfp] at o1 o2 o3
      obtain ⟨n1, n2⟩ := List.nodup_cons.mp o1
      have R₂ := (T.step st).rel.mutate hi hfp (Heap.SameBut.update _ _ _) (seq_update (f := (·.push w)) ⟨_, _, e1', sz⟩ (by simpa using hz')) (xs' := xs ++ [d]) (as' := as' ++ (bs ++ []))
        (by rw [Array.toList_push]; exact Rps.append (it.ext st.ext) (.cons rw' .nil)) ?_ (fun a ha => ?_) (fun j hj a ha => ?_)
      · exact P.next hQ (st.later.trans ⟨_, _, rfl⟩) R₂
      · rw [List.append_nil]
        refine List.nodup_cons.mpr ⟨fun q => ?_, List.nodup_append.mpr ⟨n2, nb, fun a ha a' ha' hab => ?_⟩⟩
        · rcases List.mem_append.mp q with q | q
          · exact n1 q
          · exact T.rel.newFp (fresh b q) i (by rw [hfp]; exact .head _)
        · subst hab; exact T.rel.newFp (fresh a ha') i (by rw [hfp]; exact .tail _ ha)
      · rw [List.append_nil] at ha
        rcases List.mem_append.mp ha with ha | ha
        · exact o2 a (.tail _ ha)
        · exact T.rel.newH (fresh a ha)
      · rw [List.append_nil] at ha
        rcases List.mem_append.mp ha with ha | ha
        · exact o3 j hj a (.tail _ ha)
        · exact T.rel.newFp (fresh a ha) j
end
end Mine
set_option Elab.async false
set_option maxRecDepth 100000
set_option linter.unusedVariables false
namespace Mine
open PySem PySem.Calls PyProof.Rows

theorem upd_freed (h : Heap) (a : Addr) : (h.update a fun o => { o with data := .freed }).get? a = none := by
  cases hq : (h.update a fun o => { o with data := .freed }).get? a with
  | none => rfl
  | some o =>
    have q := Heap.get?_some_iff.mp hq
    obtain ⟨objs, l⟩ := h
    simp only [Heap.update, Array.getElem?_modify, if_true] at q
    cases hx : objs[a]? with
    | none => rw [hx] at q; simp at q
    | some o' => rw [hx] at q; simp at q; rw [← q.1] at q; simp [Obj.isFreed] at q
theorem strip_of {h : Heap} : ∀ {l : List Addr} {b : Addr} {o : Obj}, (strip h l).get? b = some o → h.get? b = some o ∧ b ∉ l
  | [], b, o, e => ⟨e, fun q => (nomatch q)⟩
  | a :: l, b, o, e => by
    by_cases hab : a = b
    · subst hab; rw [strip, upd_freed] at e; cases e
    · rw [strip, Heap.get?_update_other _ _ hab] at e
      obtain ⟨h1, h2⟩ := strip_of e
      exact ⟨h1, fun q => by rcases List.mem_cons.mp q with q | q; exact hab q.symm; exact h2 q⟩
theorem strip_to {h : Heap} : ∀ {l : List Addr} {b : Addr} {o : Obj}, h.get? b = some o → b ∉ l → (strip h l).get? b = some o
  | [], b, o, e, _ => e
  | a :: l, b, o, e, hn => by
    rw [strip, Heap.get?_update_other _ _ (fun q => hn (by rw [q]; exact .head _))]
    exact strip_to e fun q => hn (.tail _ q)

section
variable {fname : Nat → Str} {g : Gx} {Φ : Calls} {n : Nat} {F : Fm} {sc : Scope} {A : Around} {s s' : Shared} {ρ : Vars} {fp : Nat → List Addr} {h h' : Heap}

theorem raise_rule {x : Str} {C : Addr} {m : Str} {k : Nat} {np p cpos pos : Pos} {Q : Flow → Shared → Prop} {E : Value → Shared → Prop} (T : At fname g Φ n F sc A s ρ fp) (O : IsExc g x C) (hx : sc.names.lookup x = some .globalImplicit) (hd : (x == ("__debug__" : Str)) = false)
    (hz : m.cps.size ≤ sizeLine) (hE : ∀ s₂ h' e vs, Step g s s₂ → Heap.MadeExcOf s₂.heap h' e (.ref C) vs → E (.ref e) { s₂ with heap := h' }) :
    wpAny (model g.p g.w) A (exec (.Raise (some (.Call (.Name x np) [.Constant (.str m) k p] [] cpos)) none pos) (F.env sc)) Q E s := by
  have O' := O.own.own
  obtain ⟨tl, N, nm, q, bs, hdct, sn, sub, ab, col, dd, k0, k1, k2, k3, k5, mN, hC, hN, hni, Tl⟩ := O'.obj
  refine wpAny_Raise_call_subT (C := C) (nm := nm) (q := q) (N := N) (bs := bs) (bm := tl) (hdct := hdct) (sn := sn) (sub := sub) (ab := ab) (col := col) (dd := dd) (k0 := k0) (k1 := k1) (k2 := k2) (k3 := k3) (k5 := k5)
    PySem.F.excBase_ValueError (mN := mN) (Tl.hasType PySem.F.excBase_ValueError.hasBase) T.room.handled rfl hni (Name_function_global T.kind hx (loadGlobal_global (T.gd.glb.keeps T.rel.stays) O'.bound ⟨rfl, ?_⟩) hd)
  have st : ∀ b o, g.base.get? b = some o → s.heap.get? b = some o := T.rel.stays
  refine Calls.evalArgs_plain (args_cons (wpAny_Constant_str (args_nil ?_)) (starEach_cons rfl))
  exact ⟨rfl, by show 1 ≤ sizeLine; decide, st _ _ hC, hN.keeps st, Tl.keeps st, fun h' e hm => hE _ h' e _ (T.here.toks _) hm⟩

end

theorem gone_of {g : Gx} {l : List Env} {h : Heap} {b : Addr} {o : Obj} (e : (gone g l h).get? b = some o) : h.get? b = some o ∧ b ∉ l.filterMap (·.frame) ∧ ((∃ o', g.base.get? b = some o') ∨ ∃ vs, o.data = .fields vs) := by
  obtain ⟨h1, h2⟩ := strip_of e
  rw [List.mem_append, not_or] at h2
  refine ⟨h1, h2.1, ?_⟩
  by_cases hb : (g.base.get? b).isNone = true
  · right
    by_cases hf : ∃ vs, o.data = .fields vs
    · exact hf
    · refine absurd (List.mem_filter.mpr ⟨List.mem_range.mpr (Heap.lt_size h1), ?_⟩) h2.2
      rw [hb, h1]
      simp only [Bool.true_and]
      split
      · rename_i vs q; exact absurd ⟨vs, q⟩ hf
      · rfl
  · left
    cases hq : g.base.get? b with
    | none => rw [hq] at hb; simp at hb
    | some o' => exact ⟨o', rfl⟩
theorem gone_fields {g : Gx} {l : List Env} {h : Heap} {b : Addr} {o : Obj} {vs : Array Value} (e : h.get? b = some o) (hd : o.data = .fields vs) (hb : b ∉ l.filterMap (·.frame)) : (gone g l h).get? b = some o := by
  refine strip_to e ?_
  rw [List.mem_append, not_or]
  refine ⟨hb, fun q => ?_⟩
  have := (List.mem_filter.mp q).2
  rw [e] at this
  simp [hd] at this
theorem gone_base {g : Gx} {l : List Env} {h : Heap} {b : Addr} {o : Obj} (e : g.base.get? b = some o) (k : g.base.StaysIn h) (hb : b ∉ l.filterMap (·.frame)) : (gone g l h).get? b = some o := by
  refine strip_to (k b o e) ?_
  rw [List.mem_append, not_or]
  refine ⟨hb, fun q => ?_⟩
  have := (List.mem_filter.mp q).2
  rw [e] at this
  simp at this
theorem gone_ext {g : Gx} {l : List Env} {h h' : Heap} (k : (gone g l h).StaysIn h') (u : h.UpToSlots h') (fr : h.FunFrames g.base l) : Ext h h' := by
  intro b o e
  by_cases hf : ∃ vs, o.data = .fields vs
  · obtain ⟨vs, hd⟩ := hf
    refine .inl (k b o (gone_fields e hd fun q => ?_))
    obtain ⟨_, o', e', hn⟩ := fr.mem q
    rw [e] at e'; cases e'; exact hn vs hd
  · have hn : ∀ vs, o.data ≠ .fields vs := fun vs q => hf ⟨vs, q⟩
    exact .inr ⟨hn, u b o e hn⟩
theorem gone_stays {g : Gx} {l : List Env} {h h' : Heap} (k : (gone g l h).StaysIn h') (ks : g.base.StaysIn h) (fr : h.FunFrames g.base l) : g.base.StaysIn h' := fun b o e => k b o (gone_base e ks fun q => by
  have := (fr.mem q).1; rw [e] at this; cases this)
section
variable {M : Model} {A : Around} {E : Value → Shared → Prop} {s : Shared} {base : Heap} {env : Env} {outer : List Env} {L e : Addr} {cls : Value}

theorem fly_of {a0 : Value} {l : List Env} {h : Heap} (x : Heap.FlyingW base l e cls a0 h) : FlyAt base l e cls h := ⟨x.1, x.2.1, x.2.2.1, a0, _, x.2.2.2.at⟩

theorem fly_flight {l : List Env} {fr : Option Addr} {Q : Unit → Shared → Prop} (x : FlyAt base l e cls s.heap) (h : ∀ h', FlyAt base l e cls h' → s.heap.UpToSlots h' → Q () { s with heap := h' }) : wpAny M A (setFlight (.ref e) fr) Q E s := by
  obtain ⟨hkb, hen, hl, a0, fl, oe, vs, T, oT, ts, he, hcls, hd, h1, hnT, hTe, hT, hdT, h3⟩ := x
  have hsz3 : 3 < ts.size := (Array.getElem?_eq_some_iff.mp h3).1
  have other : ∀ v : Value, ∀ b, b ≠ T → (s.heap.update T (Obj.mapFields (·.setIfInBounds 3 v))).get? b = s.heap.get? b := fun v b hb => Heap.get?_update_other _ _ (Ne.symm hb)
  have noRecord : ∀ b o, s.heap.get? b = some o → (∀ vs, o.data ≠ .fields vs) → b ≠ T := fun b o hb hnf q => by
    rw [q, hT] at hb; injection hb with hb; subst hb; exact hnf ts hdT
  unfold setFlight
  refine wpAny_bind (wpAny_field he hd h1 ?_)
  rw [if_pos (show (Value.ref T != Value.none) = true from by simp)]
  refine wpAny_setField hT hdT hsz3 (h _ ⟨fun b o hbo => (other _ b fun q => by rw [q, hnT] at hbo; cases hbo).trans (hkb b o hbo), hen, hl.of_keeps fun b o hb hnf => ⟨o, (other _ b (noRecord b o hb hnf)).trans hb, rfl⟩, a0, (fr.elim Value.none fun f => rawInt f), ?_⟩ fun b o hb hnf => ⟨o.slots, (other _ b (noRecord b o hb hnf)).trans hb⟩)
  exact ⟨oe, vs, T, _, _, (other _ e (Ne.symm hTe)).trans he, hcls, hd, h1, hnT, hTe, Heap.get?_update_self _ hT (Obj.isFreed_of_fields (Obj.data_mapFields hdT _)), Obj.data_mapFields hdT _, by simp [hsz3]⟩

theorem fly_note {Q : Unit → Shared → Prop} (hfr : A.frames = some (env :: outer)) (hf : env.frame = some L) (x : FlyAt base (env :: outer) e cls s.heap) (h : ∀ h', FlyAt base (env :: outer) e cls h' → s.heap.UpToSlots h' → Q () { s with heap := h' }) : wpAny M A (noteFrame (.ref e) env) Q E s := by
  have x' := x
  obtain ⟨hkb, hen, hl, a0, fl, oe, vs, T, oT, ts, he, ⟨hcls, h0⟩, hd, h1, hnT, hTe, hT, hdT, h3⟩ := x
  subst hcls
  unfold noteFrame
  simp only [hf]
  refine wpAny_bind (wpAny_field he hd h1 ?_)
  rw [if_pos (show (Value.ref T != Value.none) = true from by simp)]
  refine wpAny_bind (wpAny_field hT hdT h3 ?_)
  by_cases hc : (fl == rawInt L) = true
  · rw [if_pos hc]
    exact wpAny_pure (h s.heap x' (.refl _))
  · rw [if_neg hc]
    refine wpAny_bind (wpAny_setField hT hdT (Array.getElem?_eq_some_iff.mp h3).1 ?_)
    have other : ∀ b, b ≠ T → (s.heap.update T (Obj.mapFields (·.setIfInBounds 3 Value.none))).get? b = s.heap.get? b := fun b hb => Heap.get?_update_other _ _ (Ne.symm hb)
    have noRecord : ∀ b o, s.heap.get? b = some o → (∀ vs, o.data ≠ .fields vs) → b ≠ T := fun b o hb hnf q => by
      rw [q, hT] at hb; injection hb with hb; subst hb; exact hnf ts hdT
    refine wpAny_entryW hfr (hl.of_keeps fun b o hb hnf => ⟨o, (other b (noRecord b o hb hnf)).trans hb, rfl⟩) hf ((other e (Ne.symm hTe)).trans he)
      (fun b o hbo => (other b fun q => by rw [q, hnT] at hbo; cases hbo).trans (hkb b o hbo)) hen hd (Array.getElem?_eq_some_iff.mp h1).1 h0
      fun h' ⟨x1, x2, x3, x4⟩ => h h' ⟨x1, hen, x2, a0, _, x3⟩ fun b o hb hnf => x4 b o ((other b (noRecord b o hb hnf)).trans hb) hnf

theorem made_note {h₀ : Heap} {args : List Value} {Q : Unit → Shared → Prop} (hfr : A.frames = some (env :: outer)) (hf : env.frame = some L) (hkb : base.StaysIn h₀) (hl : h₀.FunFrames base (env :: outer)) (hx : Heap.MadeExcOf h₀ s.heap e cls args)
    (h : ∀ h', FlyAt base (env :: outer) e cls h' → s.heap.UpToSlots h' → Q () { s with heap := h' }) : wpAny M A (noteFrame (.ref e) env) Q E s := by
  obtain ⟨t, he, htn, ht⟩ := hx.there
  have fresh : ∀ b, h₀.get? b = none → base.get? b = none := fun b hb => by
    cases hq : base.get? b with
    | none => rfl
    | some o' => have := hkb b o' hq; rw [hb] at this; cases this
  unfold noteFrame
  simp only [hf]
  refine wpAny_bind (wpAny_field he rfl (x := .none) rfl ?_)
  rw [if_neg (by decide)]
  exact wpAny_entryW (a0 := .ref t) hfr (hl.of_keeps fun b o hb _ => ⟨o, hx.keeps b o hb, rfl⟩) hf he (fun b o hb => hx.keeps b o (hkb b o hb)) (fresh e hx.new) rfl (by show 1 < 6; decide) rfl
    fun h' ⟨x1, x2, x3, x4⟩ => h h' ⟨x1, fresh e hx.new, x2, _, _, x3⟩ x4

theorem fly_leave {Q : Unit → Shared → Prop} (hfr : A.frames = some (env :: outer)) (hf : env.frame = some L) (x : FlyAt base (env :: outer) e cls s.heap) (h : ∀ h' a0, Heap.FlyingW base outer e cls a0 h' → s.heap.UpToSlots h' → Q () { s with heap := h' }) : wpAny M A (leaving env (.ref e)) Q E s := by
  unfold leaving
  refine wpAny_bind (fly_note hfr hf x fun h₁ x₁ u₁ => ?_)
  obtain ⟨k1, k2, k3, a0, fl, k4⟩ := x₁
  refine wpAny_setFlight_noneW k1 k3 k4 fun h₂ j1 j2 j3 j4 => h h₂ a0 ⟨j1, k2, j2.2.2, j3⟩ (u₁.trans fun b o e hn => ⟨o.slots, j4 b o e hn⟩)

theorem fly_head {l : List Env} {Q : Value → Shared → Prop} (x : FlyAt base l e cls s.heap) (h : ∀ T, Q (.ref T) s) : wpAny M A (field (.ref e) 1) Q E s := by
  obtain ⟨hkb, hen, hl, a0, fl, oe, vs, T, oT, ts, he, hcls, hd, h1, hnT, hTe, hT, hdT, h3⟩ := x
  exact wpAny_field he hd h1 (h T)
theorem fly_back {l : List Env} (x : FlyAt base l e cls s.heap) (h : ∀ h', FlyAt base l e cls h' → s.heap.UpToSlots h' → E (.ref e) { s with heap := h' }) : cameBackBy M A env E (.ref e) s := by
  unfold cameBackBy
  refine wpAny_bind (fly_head x fun T => ?_)
  rw [if_neg (show ¬ ((Value.ref T == Value.none) = true) from by simp)]
  exact fly_flight (Q := fun _ s'' => E (.ref e) s'') x h
theorem fly_pass {l : List Env} {α : Type} {Q : α → Shared → Prop} {w : String} (x : FlyAt base l e cls s.heap) (h : ∀ h', FlyAt base l e cls h' → s.heap.UpToSlots h' → E (.ref e) { s with heap := h' }) : wpAny M A (PySem.passOn w (.ref e) env : Sem α) Q E s := by
  unfold PySem.passOn
  refine wpAny_bind (fly_head x fun T => ?_)
  rw [if_neg (show ¬ ((Value.ref T == Value.none) = true) from by simp)]
  exact wpAny_bind (fly_flight x fun h' x' u' => wpAny_throw (h h' x' u'))
end

section
variable {fname : Nat → Str} {g : Gx} {Φ : Calls} {n : Nat} {F : Fm} {sc : Scope} {A : Around} {s s' : Shared} {ρ : Vars} {fp : Nat → List Addr} {h h' : Heap}
noncomputable def FlewF (g : Gx) (F : Fm) (sc : Scope) (s s' : Shared) (e C : Addr) : Prop :=
  ∃ s₂ ρ' fp', Later s s₂ ∧ Rel g F sc s₂.heap ρ' fp' ∧ Later s₂ s' ∧ FlyAt (gone g (F.env sc :: F.outer) s₂.heap) (F.env sc :: F.outer) e (.ref C) s'.heap ∧ s₂.heap.UpToSlots s'.heap
theorem FlewF.fly {e C : Addr} (x : FlewF g F sc s s' e C) : ∃ base l, FlyAt base l e (.ref C) s'.heap ∧ ∀ h', FlyAt base l e (.ref C) h' → s'.heap.UpToSlots h' → FlewF g F sc s { s' with heap := h' } e C := by
  obtain ⟨s₂, ρ', fp', l1, R, l2, hf, hu⟩ := x
  refine ⟨_, _, hf, fun h' x' u' => ⟨s₂, ρ', fp', l1, R, ?_, x', hu.trans u'⟩⟩
  obtain ⟨h₂, tk₂, e2⟩ := l2
  exact ⟨h', s'.toks, by rw [e2]⟩
theorem gone_in {l : List Env} (b : Addr) (o : Obj) (e : (gone g l h).get? b = some o) : h.get? b = some o := (gone_of e).1
theorem frames_to {b₁ b₂ : Heap} : ∀ {l : List Env}, h.FunFrames b₁ l → (∀ b ∈ l.filterMap (·.frame), b₂.get? b = none) → h.FunFrames b₂ l
  | [], _, _ => trivial
  | env :: l, fr, hs => by
    obtain ⟨hk, ⟨L, o, hf, hn, ho, hd⟩, hr⟩ := fr
    refine ⟨hk, ⟨L, o, hf, hs L (by rw [List.filterMap_cons, hf]; exact .head _), ho, hd⟩, frames_to hr fun b hb => hs b ?_⟩
    rw [List.filterMap_cons, hf]; exact .tail _ hb
theorem gone_at {l : List Env} {b : Addr} (hb : b ∈ l.filterMap (·.frame)) : (gone g l h).get? b = none := by
  cases hq : (gone g l h).get? b with
  | none => rfl
  | some o => exact absurd hb (gone_of hq).2.1

theorem flew_note {e C : Addr} {Q : Unit → Shared → Prop} {E : Value → Shared → Prop} (hfr : A.frames = some (F.env sc :: F.outer)) (x : Flew g F sc s s' e C)
    (hQ : ∀ h', FlewF g F sc s { s' with heap := h' } e C → Q () { s' with heap := h' }) : wpAny (model g.p g.w) A (noteFrame (.ref e) (F.env sc)) Q E s' := by
  obtain ⟨s₂, ρ', fp', l1, R, l2, hm | ⟨hf, hu⟩⟩ := x
  · obtain ⟨vs, hm⟩ := hm
    refine made_note (base := gone g (F.env sc :: F.outer) s₂.heap) hfr rfl gone_in (frames_to R.frames fun b hb => gone_at hb) hm fun h' x' u' => ?_
    have hu : s₂.heap.UpToSlots h' := (Heap.UpToSlots.of_keeps hm.keeps).trans u'
    obtain ⟨h₂, tk₂, e2⟩ := l2
    exact hQ h' ⟨s₂, ρ', fp', l1, R, ⟨h', s'.toks, by rw [e2]⟩, x', hu⟩
  · refine fly_note hfr rfl hf fun h' x' u' => ?_
    obtain ⟨h₂, tk₂, e2⟩ := l2
    exact hQ h' ⟨s₂, ρ', fp', l1, R, ⟨h', s'.toks, by rw [e2]⟩, x', hu.trans u'⟩

theorem noX_no {x : X} {Z : Nat → Prop} (hx : noX x = true) (h : xE Φ ρ Z x) : False := by cases x <;> first | exact h | cases hx
theorem xe_no {e : Expr} {x : X} (hx : noX x = true) : SemXE fname sc e x := fun g Φ n F A s ρ fp Z Q E T h hE => (noX_no hx h).elim
theorem xt_no {e : Expr} {x : X} (hx : noX x = true) : SemXT fname sc e x := fun g Φ n F A s ρ fp Z Q E T h hE => (noX_no hx h).elim
theorem call_raises {x : Str} {np pos : Pos} {e : Expr} {es : List Expr} {xs : Xs} {f : Nat} {Z : Nat → Prop} {Q E : Value → Shared → Prop} (T : At fname g Φ n F sc A s ρ fp) (hx : sc.names.lookup x = some .globalImplicit) (hn : fname f = x) (hf : f < 500) (hne : x ≠ Str.empty) (hd : (x == ("__debug__" : Str)) = false)
    (hs : plainE e = true) (ha : SemL fname sc (e :: es) xs) (h : wL Φ ρ xs fun ds _ => Φ (500 + f) ds fun d _ => ∃ c : Nat, d = .int (c : Int) ∧ Z c)
    (hE : ∀ c C ex a0 s₁ s', Z c → IsExc g (fname c) C → Step g s s₁ → Later s₁ s' → Heap.FlyingW (gone g (F.env sc :: F.outer) s₁.heap) (F.env sc :: F.outer) ex (.ref C) a0 s'.heap → s₁.heap.UpToSlots s'.heap → E (.ref ex) s') :
    wpAny (model g.p g.w) A (eval (.Call (.Name x np) (e :: es) [] pos) (F.env sc)) Q E s := by
  obtain ⟨fa, o, fd, hmg, hb, hdat⟩ := T.named f (by omega) (by rw [hn]; exact hne)
  rw [hn] at hmg
  refine wpAny_Call_ofName (Name_function_global T.kind hx (loadGlobal_global (T.gd.glb.keeps T.rel.stays) hmg ?_) hd)
  refine callWith_def hdat (ha g Φ n F A s ρ fp pos _ _ E T h fun vs s₁ ds f' as hk st r fo => ⟨st.stays _ _ hb, ?_⟩) (starEach_cons hs)
  have q := T.fns _ _ _ hk
  unfold Spec at q
  rw [if_neg (by omega), if_pos (by omega)] at q
  obtain ⟨c', C, fa', ⟨c, hc, hZ⟩, O, q⟩ := q
  have hcc : c' = c := by injection hc with hc; omega
  subst hcc
  have e := q.named
  rw [show 500 + f - 500 = f by omega, hn, hmg] at e
  cases e
  exact q.run A s₁ vs as _ C Q E T.room st.stays (T.step st).rel.frames r O fun ex a0 s' hl hfl hup => hE _ C ex a0 s₁ s' hZ O st hl hfl hup
theorem call_flies {x : Str} {np pos : Pos} {e : Expr} {es : List Expr} {xs : Xs} {f : Nat} (hx : sc.names.lookup x = some .globalImplicit) (hn : fname f = x) (hf : f < 500) (hne : x ≠ Str.empty) (hd : (x == ("__debug__" : Str)) = false)
    (hs : plainE e = true) (ha : SemL fname sc (e :: es) xs) : SemXE fname sc (.Call (.Name x np) (e :: es) [] pos) (.call f xs) := fun g Φ n F A s ρ fp Z Q E T h hE =>
  call_raises T hx hn hf hne hd hs ha h fun c C ex a0 s₁ s' hZ O st hl hfl hup => hE _ C ex s' hZ O ⟨s₁, ρ, fp, st.later, (T.step st).rel, hl, .inr ⟨fly_of hfl, hup⟩⟩

theorem xt_of {e : Expr} {x : X} (hx : SemXE fname sc e x) (hp : ∀ env whole, isTrue e env whole = (do let v ← whole; standAt e.pos; holding [v] (truthy v))) : SemXT fname sc e x := by
  intro g Φ n F A s ρ fp Z Q E T h hE
  exact wpAny_isTrue_value (hx g Φ n F A s ρ fp Z _ E T h hE) (hp _ _)
theorem xe_not {e : Expr} {x : X} {pos : Pos} (hx : SemXE fname sc e x) : SemXE fname sc (.UnaryOp .Not e pos) (.not x) := by
  intro g Φ n F A s ρ fp Z Q E T h hE
  exact wpAny_UnaryOp (hx g Φ n F A s ρ fp Z _ E T h hE)
theorem xt_not {e : Expr} {x : X} {pos : Pos} (hx : SemXT fname sc e x) : SemXT fname sc (.UnaryOp .Not e pos) (.not x) := by
  intro g Φ n F A s ρ fp Z Q E T h hE
  exact wpAny_isTrue_Not (hx g Φ n F A s ρ fp Z _ E T h hE)

theorem sem_raise {x : Str} {m : Str} {k : Nat} {np p cpos pos : Pos} {c : Nat} (hx : sc.names.lookup x = some .globalImplicit) (hn : fname c = x) (hd : (x == ("__debug__" : Str)) = false) (hz : m.cps.size ≤ sizeLine) :
    SemS fname sc (.Raise (some (.Call (.Name x np) [.Constant (.str m) k p] [] cpos)) none pos) (.raise c) := by
  intro g Φ n F A s ρ fp Q Z R E T h P
  have h' : Z c := h
  obtain ⟨C, O⟩ := P.exc c h'
  have O' := O
  rw [hn] at O'
  exact raise_rule T O' hx hd hz fun s₂ h₁ e vs st hm => P.err c C e _ h' O ⟨s₂, ρ, fp, st.later, (T.step st).rel, ⟨h₁, s₂.toks, rfl⟩, .inl ⟨vs, hm⟩⟩
end
end Mine
set_option Elab.async false
set_option maxRecDepth 100000
set_option linter.unusedVariables false
namespace Mine
open PySem PySem.Calls PyProof.Rows

section
variable {fname : Nat → Str} {g : Gx} {Φ : Calls} {n : Nat} {F : Fm} {sc : Scope} {A : Around} {s s' : Shared} {ρ : Vars} {fp : Nat → List Addr} {h h' : Heap}

theorem sem_while {t : Expr} {b : List Stmt} {x : X} {y : Ss} {pos : Pos} (ht : SemT fname sc t x) (hb : SemSs fname sc b y) : SemS fname sc (.While t b [] pos) (.whil x y) := by
  intro g Φ n F A s ρ fp Q Z R E T h P
  obtain ⟨I, ⟨k, hk⟩, hI⟩ := h
  refine wpAny_While (codeAny_whileLoop (fun k s' => ∃ σ fp', I k σ ∧ Later s s' ∧ Rel g F sc s'.heap σ fp') (fun k s' hs => ?_) k ⟨ρ, fp, hk, .refl s, T.rel⟩)
  obtain ⟨σ, fp', hσ, hl, hrel⟩ := hs
  have T' := T.rel' hrel
  refine ht g Φ n F A s' σ fp' (fun r => br r (xSs Φ (fun _ => False) y (lpost (fun τ => ∃ m, m < k ∧ I m τ) Q) σ) (Q .next σ)) _ _ T' (hI k σ hσ) fun r s₁ hr st => ?_
  cases r
  · exact wpAny_execs_nil (P.next hr (hl.trans st.later) (T'.step st).rel)
  · refine hb g Φ n F A s₁ σ fp' _ (fun _ => False) _ _ (T'.step st) hr ⟨fun _ z => z.elim, fun fl fl' s₂ ρ₂ fp₂ hq hf hl₂ hr₂ => ?_, fun _ _ _ _ z => z.elim⟩
    have hl₃ := hl.trans (st.later.trans hl₂)
    cases fl with
    | next =>
      have hf' : fl' = .next := hf
      subst hf'
      obtain ⟨m, hm, hIm⟩ := hq; exact ⟨m, hm, ρ₂, fp₂, hIm, hl₃, hr₂⟩
    | ret d fr =>
      have hf' := hf
      obtain ⟨v, as, rfl, _⟩ := hf'
      exact P.nor _ _ _ _ _ hq hf hl₃ hr₂

theorem Rel.fieldsBut (R : Rel g F sc h ρ fp) {M : Addr → Prop} (hI : ∀ b, M b → ∃ o vs, h.get? b = some o ∧ o.data = .fields vs) (hM : ∀ b, M b → F.H b = none ∧ g.base.get? b = none)
    (k : ∀ b o, ¬ M b → h.get? b = some o → h'.get? b = some o) : Rel g F sc h' ρ fp := by
  have kn : ∀ b o, h.get? b = some o → (∀ vs, o.data ≠ .fields vs) → h'.get? b = some o := fun b o e hd => k b o (fun q => by
    obtain ⟨oI, vI, eI, dI⟩ := hI _ q
    rw [eI] at e; cases e; exact hd _ dI) e
  have sb : StayBut M h h' := ⟨fun b o e hb => .inl (k b o hb e), fun b o hb e => .inr (.inl (by
    obtain ⟨oI, vI, eI, dI⟩ := hI _ hb
    rw [eI] at e; cases e; exact ⟨_, dI⟩))⟩
  have nsk : ∀ {m}, h.Ns F.L m → h'.Ns F.L m := fun hn => by
    obtain ⟨o, es, ep, ho, hd, r⟩ := hn
    exact ⟨o, es, ep, kn _ _ ho (fun vs q => by rw [hd] at q; cases q), hd, r⟩
  refine ⟨fun b o e => k b o (fun q => ?_) (R.stays b o e), fun b o e => ?_, FunFrames.data (fun b o e hd => ⟨o, kn b o e hd, hd⟩) R.frames, ?_, R.hL, fun p hp => ?_, R.cnd, R.ccov, R.len, R.nd, fun i d e => ?_, R.nofp, R.own⟩
  · rw [(hM b q).2] at e; cases e
  · have hb : ¬ M b := fun q => by rw [(hM b q).1] at e; cases e
    exact (R.held b o e).imp (k b o hb) fun ⟨hd, sl, q⟩ => ⟨hd, sl, k b _ hb q⟩
  · obtain ⟨m, hm⟩ := R.ns; exact ⟨m, nsk hm⟩
  · obtain ⟨c1, c2, o, w, c3, c4⟩ := R.cells p hp
    exact ⟨c1, c2, o, w, kn _ _ c3 (fun vs q => by rw [c4] at q; cases q), c4⟩
  · obtain ⟨y, v, hy, hv, r⟩ := R.vars i d e
    refine ⟨y, v, hy, ?_, r.stay sb fun a ha q => ?_⟩
    · rcases hv with ⟨hl, m, hm, hv⟩ | ⟨hl, c, o, h1, h2, h3⟩
      · exact .inl ⟨hl, m, nsk hm, hv⟩
      · exact .inr ⟨hl, c, o, h1, kn _ _ h2 (fun vs q => by rw [h3] at q; cases q), h3⟩
    · obtain ⟨vs, m, sl, e, _⟩ := r.mem a ha
      obtain ⟨oI, vI, eI, dI⟩ := hI _ q
      rw [eI] at e; cases e; cases dI

noncomputable def Mut (F : Fm) (ρ : Vars) (fp : Nat → List Addr) (b : Addr) : Prop := Priv F b ∨ ∃ j d, ρ[j]? = some (.own d) ∧ b ∈ fp j

theorem Rel.mutH (R : Rel g F sc h ρ fp) {b : Addr} (hm : Mut F ρ fp b) : F.H b = none := by
  rcases hm with (rfl | ⟨p, hp, rfl⟩) | ⟨j, d, hj, hb⟩
  · exact R.hL
  · exact (R.cells p hp).1
  · exact ((R.own j d hj).2.1 b hb).1
theorem Rel.freeze (R : Rel g F sc h ρ fp) : ∃ H', (∀ b o, H' b = some o ↔ h.get? b = some o ∧ ¬ Mut F ρ fp b) ∧ (∀ b, H' b = none → F.H b = none) ∧ Rel g { F with H := H' } sc h ρ fp := by
  classical
  refine ⟨fun b => if Mut F ρ fp b then none else h.get? b, fun b o => ?_, fun b hb => ?_, ?_⟩
  · by_cases hm : Mut F ρ fp b
    · simp [hm]
    · simp [hm]
  · by_cases hm : Mut F ρ fp b
    · exact R.mutH hm
    · simp only [hm, if_false] at hb
      cases hq : F.H b with
      | none => rfl
      | some o => rcases R.held b o hq with e | ⟨_, _, e⟩ <;> rw [hb] at e <;> cases e
  · refine ⟨R.stays, fun b o e => ?_, R.frames, R.ns, ?_, fun p hp => ?_, R.cnd, R.ccov, R.len, R.nd, R.vars, R.nofp, fun i d e => ?_⟩
    · by_cases hm : Mut F ρ fp b
      · simp [hm] at e
      · simp only [hm, if_false] at e; exact .inl e
    · exact if_pos (.inl (.inl rfl))
    · obtain ⟨c1, c2, c3⟩ := R.cells p hp
      exact ⟨if_pos (.inl (.inr ⟨p, hp, rfl⟩)), c2, c3⟩
    · obtain ⟨o1, o2, o3⟩ := R.own i d e
      exact ⟨o1, fun a ha => ⟨if_pos (.inr ⟨i, d, e, ha⟩), (o2 a ha).2⟩, o3⟩

theorem Rel.thaw {H' : Addr → Option Obj} (R : Rel g { F with H := H' } sc h ρ fp) (hH : ∀ b, H' b = none → F.H b = none) (hh : ∀ b o, F.H b = some o → ∃ o', H' b = some o' ∧ (o' = o ∨ ((∀ vs, o.data ≠ .fields vs) ∧ ∃ sl, o' = { o with slots := sl }))) : Rel g F sc h ρ fp := by
  refine ⟨R.stays, fun b o e => ?_, R.frames, R.ns, hH _ R.hL, fun p hp => ?_, R.cnd, R.ccov, R.len, R.nd, R.vars, R.nofp, fun i d e => ?_⟩
  · obtain ⟨o', e', ho⟩ := hh b o e
    rcases ho with rfl | ⟨hd, sl, rfl⟩
    · exact R.held b _ e'
    · rcases R.held b _ e' with q | ⟨_, sl', q⟩
      · exact .inr ⟨hd, sl, q⟩
      · exact .inr ⟨hd, sl', q⟩
  · obtain ⟨c1, c2, c3⟩ := R.cells p hp
    exact ⟨hH _ c1, c2, c3⟩
  · obtain ⟨o1, o2, o3⟩ := R.own i d e
    exact ⟨o1, fun a ha => ⟨hH _ (o2 a ha).1, (o2 a ha).2⟩, o3⟩

structure Source (g : Gx) (A : Around) (I : Addr) (ds : List D) (St : Nat → Heap → Prop) (Z : List Addr) : Prop where
  there : ∀ k h, St k h → ∀ b, b = I → ∃ o vs, h.get? b = some o ∧ o.data = .fields vs
  lists : ∀ k h, St k h → ∀ z ∈ Z, ∃ o vs n, h.get? z = some o ∧ o.data = .seq vs n
  frame : ∀ k h h' (M : Addr → Prop), St k h → StayBut M h h' → ¬ M I → (∀ z ∈ Z, ¬ M z) → St k h'
  item : ∀ k (s : Shared) (Q : Option Value → Shared → Prop) (E : Value → Shared → Prop) (d : D), ds[k]? = some d → St k s.heap →
    (∀ v h' tk as, Rp h' v d as → (∀ a ∈ as, a ∈ Z) → St (k + 1) h' → (∀ b o, b ≠ I → s.heap.get? b = some o → h'.get? b = some o) → Q (some v) { s with heap := h', toks := tk }) →
    wpAny (model g.p g.w) A (pyNext (.ref I)) Q E s
  done : ∀ (s : Shared) (Q : Option Value → Shared → Prop) (E : Value → Shared → Prop), St ds.length s.heap →
    (∀ h' tk, (∀ b o, b ≠ I → s.heap.get? b = some o → h'.get? b = some o) → Q none { s with heap := h', toks := tk }) → wpAny (model g.p g.w) A (pyNext (.ref I)) Q E s

theorem Rel.privFields (R : Rel g F sc h ρ fp) {b : Addr} (hb : Priv F b) {o : Obj} (e : h.get? b = some o) : ∀ vs, o.data ≠ .fields vs := by
  intro vs hd
  rcases hb with rfl | ⟨p, hp, rfl⟩
  · obtain ⟨m, o', es, ep, ho, hd', _⟩ := R.ns
    rw [e] at ho; cases ho; rw [hd] at hd'; cases hd'
  · obtain ⟨_, _, o', v, ho, hd'⟩ := R.cells p hp
    rw [e] at ho; cases ho; rw [hd] at hd'; cases hd'
theorem turn_rule {J : Addr → Prop} {Z : List Addr} {St : Heap → Prop} {body : List Stmt} {y : Ss} {Q' : Vars → Prop} {Q : Fl → Vars → Prop} {Z' : Nat → Prop} {R R' : Flow → Shared → Prop} {E : Value → Shared → Prop} {s₀ : Shared} (T : At fname g Φ n F sc A s ρ fp) (hl : Later s₀ s)
    (hJ : ∀ b, J b → ∃ o vs, s.heap.get? b = some o ∧ o.data = .fields vs) (hZ : ∀ z ∈ Z, ∃ o vs m, s.heap.get? z = some o ∧ o.data = .seq vs m)
    (frame : ∀ h' (M : Addr → Prop), StayBut M s.heap h' → (∀ b, J b → ¬ M b) → (∀ z ∈ Z, ¬ M z) → St h') (hown : ∀ j d, ρ[j]? = some (.own d) → ∀ z ∈ Z, z ∉ fp j)
    (hbody : SemSs fname sc body y) (hw : xSs Φ Z' y (lpost Q' Q) ρ) (P : Po fname g F sc s₀ Q Z' R E) (hR' : ∀ v s', R (.ret v) s' → R' (.ret v) s')
    (again : ∀ s₄ ρ₄ fp₄, Q' ρ₄ → Later s₀ s₄ → Rel g F sc s₄.heap ρ₄ fp₄ → St s₄.heap → (∀ j d, ρ₄[j]? = some (.own d) → ∀ z ∈ Z, z ∉ fp₄ j) → R' .next s₄) :
    wpAny (model g.p g.w) A (execs body (F.env sc)) R' (notedBy (model g.p g.w) A (F.env sc) fun e s' => cameBackBy (model g.p g.w) A (F.env sc) E e s') s := by
  have R₂ := T.rel
  obtain ⟨H', hH1, hH2, R₃⟩ := R₂.freeze
  have T₃ : At fname g Φ n { F with H := H' } sc A s ρ fp := ⟨T.gd, T.fns, T.named, T.exc, T.kind, T.plain, T.room, R₃⟩
  have thaw : ∀ {h ρ fp}, Rel g { F with H := H' } sc h ρ fp → Rel g F sc h ρ fp := fun R => R.thaw hH2 fun b o e => by
    have hnm : ¬ Mut F ρ fp b := fun q => by rw [R₂.mutH q] at e; cases e
    rcases R₂.held b o e with q | ⟨hd, sl, q⟩
    · exact ⟨o, (hH1 b o).mpr ⟨q, hnm⟩, .inl rfl⟩
    · exact ⟨_, (hH1 b _).mpr ⟨q, hnm⟩, .inr ⟨hd, sl, rfl⟩⟩
  refine hbody g Φ n { F with H := H' } A _ _ fp _ Z' _ _ T₃ hw ⟨P.exc, fun fl fl' s₄ ρ₄ fp₄ hq hf hl₄ hr₄ => ?_, fun c C e s'' hz O x => ?_⟩
  · cases fl with
    | ret d fr =>
      obtain ⟨v, bs, rfl, hb1, hb2⟩ := hf
      exact hR' _ _ (P.nor _ _ _ _ _ hq ⟨v, bs, rfl, hb1, fun q => ⟨(hb2 q).1, fun a ha => hH2 a ((hb2 q).2 a ha)⟩⟩ (hl.trans hl₄) (thaw hr₄))
    | next =>
      have hf' : fl' = .next := hf
      subst hf'
      have hnJ : ∀ b, J b → ¬ Mut F ρ fp b := by
        rintro b hb (q | ⟨j, d, hj, q⟩)
        · obtain ⟨o, vs, e, hd⟩ := hJ b hb
          exact R₂.privFields q e vs hd
        · obtain ⟨vs, m, sl, e, _⟩ := R₂.fp_there j b q
          obtain ⟨o', vs', e', hd'⟩ := hJ b hb
          rw [e] at e'; cases e'; cases hd'
      have hnZ : ∀ z ∈ Z, ¬ Mut F ρ fp z := by
        rintro z hz (q | ⟨j, d, hj, q⟩)
        · obtain ⟨o, vs, m, e, hd⟩ := hZ z hz
          exact R₂.privData q e vs m hd
        · exact hown j d hj z hz q
      refine again s₄ ρ₄ fp₄ hq (hl.trans hl₄) (thaw hr₄) (frame _ (Mut F ρ fp) ⟨fun b o e hb => hr₄.held b o ((hH1 b o).mpr ⟨e, hb⟩), fun b o hb e => ?_⟩ hnJ hnZ) fun j d hj z hz q => ?_
      · rcases hb with q | ⟨j, d, hj, q⟩
        · exact R₂.privTame q e
        · obtain ⟨vs, m, sl, e', _⟩ := R₂.fp_there j b q
          rw [e] at e'; cases e'
          exact .inl rfl
      · obtain ⟨o, vs, m, e, _⟩ := hZ z hz
        have e' : H' z = none := ((hr₄.own j d hj).2.1 z q).1
        rw [(hH1 z o).mpr ⟨e, hnZ z hz⟩] at e'; cases e'
  · show wpAny _ _ (noteFrame (.ref e) (F.env sc)) _ _ _
    refine flew_note (F := { F with H := H' }) T₃.room.frames x fun h₁ x₁ => ?_
    obtain ⟨base, l, xf, hx₂⟩ := x₁.fly
    refine fly_back xf fun h₂ x₂ u₂ => ?_
    obtain ⟨s₂, ρ', fp'', l1, R₂, l2, hf, hu⟩ := hx₂ h₂ x₂ u₂
    exact P.err c C e _ hz O ⟨s₂, ρ', fp'', hl.trans l1, thaw R₂, l2, .inr ⟨hf, hu⟩⟩

theorem Rel.asgC (R : Rel g F sc h ρ fp) {y : Str} {i : Nat} {v : Value} {d : D} {f : Fg} {as : List Addr} (hx : (slots sc)[i]? = some y) (S : Stored F sc h h' y v) (r : Rp h v d as)
    (h1 : ∀ j e, ρ[j]? = some (.own e) → j ∉ f.u → ∀ a ∈ as, a ∉ fp j)
    (h2 : f.sh = false → f.u = [] → as.Nodup ∧ (∀ a ∈ as, F.H a = none ∧ g.base.get? a = none) ∧ ∀ j, ∀ a ∈ as, a ∉ fp j) :
    Rel g F sc h' (Mine.asg ρ i d f) (fun j => if j = i then as else fp j) := by
  unfold Mine.asg
  split
  · rename_i hi
    have e := r.imm hi
    subst e
    exact R.put hx S r (.inl rfl) (fun _ _ _ _ _ ha => (nomatch ha)) fun q => (nomatch q)
  · split
    · rename_i hf
      obtain ⟨q1, q2, q3⟩ := h2 hf.1 hf.2
      exact R.put hx S r (.inr rfl) (fun j _ _ _ => q3 j) fun _ => ⟨q1, q2, fun j _ => q3 j⟩
    · refine (R.dem f.u).put hx S r (.inl rfl) (fun j e _ hj a ha => ?_) fun q => (nomatch q)
      have := (dem_get f.u ρ j).1 e hj
      exact h1 j e this.1 this.2 a ha
theorem asg_own {j i : Nat} {d e : D} {f : Fg} (hl : i < ρ.length) (hj : (asg ρ i d f)[j]? = some (.own e)) : (j ≠ i ∧ ρ[j]? = some (.own e)) ∨ (j = i ∧ f.sh = false ∧ f.u = [] ∧ imm d = false) := by
  unfold asg at hj
  by_cases hji : j = i
  · subst hji
    split at hj
    · rw [List.getElem?_set_self hl] at hj; cases hj
    · split at hj
      · rename_i h1 h2; exact .inr ⟨rfl, h2.1, h2.2, by simpa using h1⟩
      · rw [List.getElem?_set_self (by rw [(dem_get f.u ρ 0).2.2.2]; exact hl)] at hj; cases hj
  · refine .inl ⟨hji, ?_⟩
    split at hj
    · rwa [List.getElem?_set_ne (Ne.symm hji)] at hj
    · split at hj
      · rwa [List.getElem?_set_ne (Ne.symm hji)] at hj
      · rw [List.getElem?_set_ne (Ne.symm hji)] at hj
        exact ((dem_get f.u ρ j).1 e hj).1

theorem for_rule {I : Addr} {ds : List D} {St : Nat → Heap → Prop} {Z : List Addr} {x : Str} {p : Pos} {i : Nat} {body : List Stmt} {y : Ss} {Inv : Nat → Vars → Prop} {Q : Fl → Vars → Prop} {Z' : Nat → Prop} {R : Flow → Shared → Prop} {E : Value → Shared → Prop} {s₀ : Shared}
    (Sr : Source g A I ds St Z) (T : At fname g Φ n F sc A s ρ fp) (hl0 : Later s₀ s) (hI : Inv 0 ρ) (st : St 0 s.heap) (hdis : ∀ j d, ρ[j]? = some (.own d) → ∀ z ∈ Z, z ∉ fp j) (hH : F.H I = none) (hB : g.base.get? I = none)
    (hx : (slots sc)[i]? = some x) (hk : sc.names.lookup x = some .local ∨ sc.names.lookup x = some .cell) (hbody : SemSs fname sc body y)
    (hturn : ∀ k σ d, ds[k]? = some d → Inv k σ → xSs Φ Z' y (lpost (Inv (k + 1)) Q) (asg σ i d ⟨true, []⟩))
    (hend : ∀ σ, Inv ds.length σ → Q .next σ) (P : Po fname g F sc s₀ Q Z' R E) :
    codeAny (model g.p g.w) A (.forLoop (.Name x p) (.ref I) body [] (F.env sc)) (fun r s' => match r with | .ok f => R f s' | .error e => cameBackBy (model g.p g.w) A (F.env sc) E e s') s := by
  refine codeAny_forLoop (fun m s' => ∃ k σ fp', m = ds.length - k ∧ k ≤ ds.length ∧ Inv k σ ∧ Later s₀ s' ∧ Rel g F sc s'.heap σ fp' ∧ St k s'.heap ∧ ∀ j d, σ[j]? = some (.own d) → ∀ z ∈ Z, z ∉ fp' j)
    (fun m s' hs => ?_) ds.length ⟨0, ρ, fp, rfl, Nat.zero_le _, hI, hl0, T.rel, st, hdis⟩
  obtain ⟨k, σ, fp', rfl, hkl, hσ, hl, hrel, hst, hds⟩ := hs
  have hM : ∀ b, b = I → F.H b = none ∧ g.base.get? b = none := fun b hb => hb ▸ ⟨hH, hB⟩
  rcases Nat.lt_or_eq_of_le hkl with hlt | rfl
  · have hd : ds[k]? = some ds[k] := List.getElem?_eq_getElem hlt
    refine Sr.item k s' _ _ ds[k] hd hst fun v h₁ tk as rv hz hst₁ hkeep => ?_
    have R₁ := hrel.fieldsBut (Sr.there k _ hst) hM hkeep
    refine wpAny_assign_Name (store_rule (i := i) (T.rel' (s' := { s' with heap := h₁, toks := tk }) R₁) hk fun h₂ tk₂ S => ?_)
    have R₂ := R₁.asgC (f := ⟨true, []⟩) hx S rv (fun j d hj _ a ha q => hds j d hj a (hz a ha) q) (fun q => (nomatch q))
    have hst₂ := Sr.frame _ _ _ _ hst₁ (R₁.stayBut S.keep) (fun q => by
      obtain ⟨o, vs, e, hd⟩ := Sr.there _ _ hst₁ I rfl
      exact R₁.privFields q e vs hd) (fun z hz q => by
      obtain ⟨o, vs, m, e, hd⟩ := Sr.lists _ _ hst₁ z hz
      exact R₁.privData q e vs m hd)
    refine turn_rule (J := (· = I)) (St := St (k + 1)) (Z := Z) (Q' := Inv (k + 1)) (T.rel' (s' := { s' with heap := h₂, toks := tk₂ }) R₂) (hl.trans ⟨_, _, rfl⟩) (Sr.there _ _ hst₂) (Sr.lists _ _ hst₂)
      (fun h' M sb h1 h2 => Sr.frame _ _ _ M hst₂ sb (h1 I rfl) h2) (fun j d hj z hz => ?_) hbody (hturn k σ ds[k] hd hσ) P (fun _ _ r => r)
      fun s₄ ρ₄ fp₄ hi hl₅ R₄ hst₄ ho => ⟨ds.length - (k + 1), by omega, k + 1, ρ₄, fp₄, rfl, hlt, hi, hl₅, R₄, hst₄, ho⟩
    rcases asg_own (by rw [hrel.len]; exact (List.getElem?_eq_some_iff.mp hx).1) hj with ⟨hne, ho⟩ | ⟨_, q, _⟩
    · simp only [if_neg hne]; exact hds j d ho z hz
    · cases q
  · refine Sr.done s' _ _ hst fun h₁ tk hkeep => ?_
    exact wpAny_execs_nil (P.next (s' := { s' with heap := h₁, toks := tk }) (hend σ hσ) (hl.trans ⟨_, _, rfl⟩) (hrel.fieldsBut (Sr.there _ _ hst) hM hkeep))
end
end Mine
set_option Elab.async false
set_option maxRecDepth 100000
set_option linter.unusedVariables false
namespace Mine
open PySem PySem.Calls PyProof.Rows

section
variable {fname : Nat → Str} {g : Gx} {Φ : Calls} {n : Nat} {F : Fm} {sc : Scope} {A : Around} {s s' : Shared} {ρ : Vars} {fp : Nat → List Addr} {h h' : Heap}

theorem StayBut.fields {M : Addr → Prop} (sb : StayBut M h h') {b : Addr} {o : Obj} (e : h.get? b = some o) (hb : ¬ M b) {vs} (hd : o.data = .fields vs) : h'.get? b = some o := by
  rcases sb.1 b o e hb with q | ⟨q, _⟩
  · exact q
  · exact absurd hd (q vs)

theorem stay_iter {I : Addr} {o : Obj} {vs} (e : h.get? I = some o) (hd : o.data = .fields vs) (k : ∀ b o, b ≠ I → h.get? b = some o → h'.get? b = some o) : StayBut (· = I) h h' :=
  ⟨fun b o e hb => .inl (k b o hb e), fun b o' hb e' => .inr (.inl ⟨_, by
    rw [show b = I from hb, e] at e'; cases e'; exact hd⟩)⟩

theorem Rp.iter {I : Addr} {o : Obj} {vs} (e : h.get? I = some o) (hd : o.data = .fields vs) (k : ∀ b o, b ≠ I → h.get? b = some o → h'.get? b = some o) {v d as} (r : Rp h v d as) : Rp h' v d as :=
  r.stay (stay_iter e hd k) fun a ha q => by
    obtain ⟨vs', m, sl, e', _⟩ := r.mem a ha
    rw [show a = I from q, e] at e'; cases e'; cases hd

theorem Source.list (hh : A.handled = none) {I l : Addr} {ds : List D} {as : List Addr} : Source g A I ds (fun k h => h.IsListIter I l k ∧ Rp h (.ref l) (.list ds) (l :: as)) (l :: as) where
  there := fun k h st b hb => let ⟨o, e, _, d⟩ := st.1; ⟨o, _, hb ▸ e, d⟩
  lists := fun k h st z hz => let ⟨vs, m, _, e, _⟩ := st.2.mem z hz; ⟨_, vs, m, e, rfl⟩
  frame := fun k h h' M st sb hI hz => by
    obtain ⟨⟨o, e, c, d⟩, r⟩ := st
    exact ⟨⟨o, sb.fields e hI d, c, d⟩, r.stay sb hz⟩
  item := fun k s Q E d hd st hQ => by
    obtain ⟨hit, r⟩ := st
    obtain ⟨oI, eI, cI, dI⟩ := id hit
    obtain ⟨_, vs, en, sl, _, e0, e0', e1, sz, it⟩ := r.list_inv
    cases e0; cases e0'
    obtain ⟨u, cs, hu, ru, hsub⟩ := it.get _ _ hd
    refine wpAny_pyNext_list_item hit ⟨_, e1, rfl, en, rfl⟩ (x := u) (by rw [← Array.getElem?_toList]; exact hu) fun h' hit' hs => ?_
    have kp : ∀ b o, b ≠ I → s.heap.get? b = some o → h'.get? b = some o := fun b o hb e => (hs.2 b hb).trans e
    exact hQ u h' s.toks cs (ru.iter eI dI kp) (fun a ha => .tail _ (hsub.subset ha)) ⟨hit', r.iter eI dI kp⟩ kp
  done := fun s Q E st hQ => by
    obtain ⟨hit, r⟩ := st
    obtain ⟨_, vs, en, sl, _, e0, _, e1, sz, it⟩ := r.list_inv
    cases e0
    exact wpAny_pyNext_list_end hh hit ⟨_, e1, rfl, en, rfl⟩ (by rw [← Array.getElem?_toList, List.getElem?_eq_none (by rw [it.length]; exact Nat.le_refl _)]) fun h' he => hQ h' s.toks fun b o hb e => he b o hb e

theorem Source.back (hh : A.handled = none) {I l : Addr} {ds : List D} {as : List Addr} : Source g A I ds.reverse (fun k h => k ≤ ds.length ∧ h.IsRevIter I l ((ds.length : Int) - 1 - k) ∧ Rp h (.ref l) (.list ds) (l :: as)) (l :: as) where
  there := fun k h st b hb => let ⟨o, e, _, d⟩ := st.2.1; ⟨o, _, hb ▸ e, d⟩
  lists := fun k h st z hz => let ⟨vs, m, _, e, _⟩ := st.2.2.mem z hz; ⟨_, vs, m, e, rfl⟩
  frame := fun k h h' M st sb hI hz => by
    obtain ⟨hk, ⟨o, e, c, d⟩, r⟩ := st
    exact ⟨hk, ⟨o, sb.fields e hI d, c, d⟩, r.stay sb hz⟩
  item := fun k s Q E d hd st hQ => by
    obtain ⟨hk, hit, r⟩ := st
    obtain ⟨oI, eI, cI, dI⟩ := id hit
    have hlt : k < ds.length := by
      rw [List.getElem?_eq_some_iff] at hd; simpa using hd.1
    have hd' : ds[ds.length - 1 - k]? = some d := by
      rw [List.getElem?_reverse hlt] at hd; exact hd
    have ei : (ds.length : Int) - 1 - k = ((ds.length - 1 - k : Nat) : Int) := by omega
    rw [ei] at hit
    obtain ⟨_, vs, en, sl, _, e0, e0', e1, sz, it⟩ := r.list_inv
    cases e0; cases e0'
    obtain ⟨u, cs, hu, ru, hsub⟩ := it.get _ _ hd'
    refine wpAny_pyNext_rev_item hit ⟨_, e1, rfl, en, rfl⟩ (x := u) (by rw [← Array.getElem?_toList]; exact hu) fun h' hit' hs => ?_
    have kp : ∀ b o, b ≠ I → s.heap.get? b = some o → h'.get? b = some o := fun b o hb e => (hs.2 b hb).trans e
    have e2 : ((ds.length - 1 - k : Nat) : Int) - 1 = (ds.length : Int) - 1 - ((k + 1 : Nat) : Int) := by omega
    rw [e2] at hit'
    exact hQ u h' s.toks cs (ru.iter eI dI kp) (fun a ha => .tail _ (hsub.subset ha)) ⟨hlt, hit', r.iter eI dI kp⟩ kp
  done := fun s Q E st hQ => by
    obtain ⟨hk, hit, r⟩ := st
    have e : (ds.length : Int) - 1 - (ds.reverse.length : Nat) = -1 := by simp; omega
    rw [e] at hit
    exact wpAny_pyNext_rev_end hh hit fun h' he => hQ h' s.toks fun b o hb e => he b o hb e

theorem Source.range (hh : A.handled = none) {I : Addr} {a c : Int} {m : Nat} : Source g A I ((List.range m).map fun (k : Nat) => .int (a + k * c)) (fun k h => IsRangeIter h I (a + (k : Nat) * c) ((m : Int) - (k : Nat)) c) [] where
  there := fun k h st b hb => ⟨_, _, hb ▸ st, rfl⟩
  lists := fun k h st z hz => by cases hz
  frame := fun k h h' M st sb hI hz => sb.fields st hI rfl
  item := fun k s Q E d hd st hQ => by
    have hlt : k < m := by
      rw [List.getElem?_eq_some_iff] at hd; simpa using hd.1
    have e0 : d = .int (a + k * c) := by
      rw [List.getElem?_map, List.getElem?_range hlt] at hd
      simpa using hd.symm
    subst e0
    refine wpAny_pyNext_range_item st (by omega) fun h' hit hs => ?_
    have e1 : a + ((k + 1 : Nat) : Int) * c = a + (k : Int) * c + c := by push_cast; rw [Int.add_mul, Int.one_mul, Int.add_assoc]
    have e2 : (m : Int) - ((k + 1 : Nat) : Int) = (m : Int) - (k : Int) - 1 := by push_cast; omega
    refine hQ _ h' _ [] (.int _ _) (fun _ h => (nomatch h)) ?_ fun b o hb e => (hs.2 b hb).trans e
    rw [e1, e2]; exact hit
  done := fun s Q E st hQ => wpAny_pyNext_range_end hh st (by simp) fun h' he => hQ h' s.toks fun b o hb e => he b o hb e

theorem Source.text (hh : A.handled = none) {I : Addr} {x : Str} {t : Tok} {ty : String} (hty : ty = "str_ascii_iterator" ∨ ty = "str_iterator") : Source g A I (x.cps.toList.map fun c => .str (Mine.st [c])) (fun k h => h.IsStrIter I ty x t k) [] where
  there := fun k h st b hb => let ⟨o, e, _, d⟩ := st; ⟨o, _, hb ▸ e, d⟩
  lists := fun k h st z hz => by cases hz
  frame := fun k h h' M st sb hI hz => by
    obtain ⟨o, e, c, d⟩ := st
    exact ⟨o, sb.fields e hI d, c, d⟩
  item := fun k s Q E d hd st hQ => by
    rw [List.getElem?_map, Option.map_eq_some_iff] at hd
    obtain ⟨c, hc, rfl⟩ := hd
    have hc' : x.cps[k]? = some c := by simpa using hc
    have go : ∀ h', h'.IsStrIter I ty x t (k + 1) → Heap.SameBut I s.heap h' → Q (some (.str ⟨#[c]⟩ s.toks)) { s with heap := h', toks := s.toks + 1 } := fun h' hit hs =>
      hQ _ h' _ [] (.str _ _ (by show 1 ≤ sizeLine; decide)) (fun _ h => (nomatch h)) hit fun b o hb e => (hs.2 b hb).trans e
    rcases hty with rfl | rfl
    · exact wpAny_pyNext_ascii_item st hc' go
    · exact wpAny_pyNext_wide_item st hc' go
  done := fun s Q E st hQ => by
    rcases hty with rfl | rfl
    · exact wpAny_pyNext_ascii_end hh st (by simp) fun h' he => hQ h' s.toks fun b o hb e => he b o hb e
    · exact wpAny_pyNext_wide_end hh st (by simp) fun h' he => hQ h' s.toks fun b o hb e => he b o hb e

theorem At.newIter (T : At fname g Φ n F sc A s ρ fp) : F.H s.heap.objs.size = none ∧ g.base.get? s.heap.objs.size = none := T.rel.newH (fresh_size s.heap)

theorem At.dem (T : At fname g Φ n F sc A s ρ fp) (u : List Nat) : At fname g Φ n F sc A s (dem ρ u) fp := T.rel' (T.rel.dem u)
theorem FgOk.demd {f : Fg} {as : List Addr} (fo : FgOk ρ fp h f as) : ∀ j d, (Mine.dem ρ f.u)[j]? = some (.own d) → ∀ z ∈ as, z ∉ fp j := fun j d hj z hz =>
  have q := (dem_get f.u ρ j).1 d hj
  fo.1 j d q.1 q.2 z hz

theorem sem_for_items {x : Str} {p pos : Pos} {i : Nat} {it : Expr} {a : X} {body : List Stmt} {y : Ss} (hx : (slots sc)[i]? = some x) (hk : sc.names.lookup x = some .local ∨ sc.names.lookup x = some .cell) (hset : plainE it = true)
    (he : SemE fname sc it a) (hb : SemSs fname sc body y) : SemS fname sc (.For (.Name x p) it body [] pos) (.loop i (.items a) y) := by
  intro g Φ n F A s ρ fp Q Z R E T h P
  refine wpAny_For (he g Φ n F A s ρ fp _ _ E T h fun v s₁ d f as hk' st r fo => ?_) ((plain_all hset).fold _)
  rcases on_inv hk' with ⟨_, _, q⟩ | ⟨ds, rfl, Inv, h0, ht, hend⟩ | ⟨x', rfl, Inv, h0, ht, hend⟩
  · exact q.elim
  · obtain ⟨l, vs, en, sl, as', rfl, rfl, e1, sz, itm⟩ := r.list_inv
    have T₁ := (T.step st).dem f.u
    refine wpAny_pyIter_list ⟨_, e1, rfl, en, rfl⟩ ?_
    have st₂ := st.push { cls := .type "list_iterator", data := .fields #[.ref l, .int 0 0] }
    exact for_rule (Source.list T.room.handled (l := l) (ds := ds) (as := as')) ((T.step st₂).dem f.u) st₂.later h0 ⟨⟨_, Heap.get?_push_size _ rfl, rfl, rfl⟩, r.ext (Ext.push _ _)⟩ fo.demd T₁.newIter.1 T₁.newIter.2 hx hk hb ht hend P
  · obtain ⟨t, rfl, _, z⟩ := r.str_inv
    have T₁ := T.step st
    have key : ∀ ty, (ty = "str_ascii_iterator" ∨ ty = "str_iterator") → codeAny (model g.p g.w) A (.forLoop (.Name x p) (.ref s₁.heap.objs.size) body [] (F.env sc)) (fun r s' => match r with | .ok f => R f s' | .error e => cameBackBy (model g.p g.w) A (F.env sc) E e s') { s₁ with heap := s₁.heap.push { cls := .type ty, data := .fields #[.str x' t, .int 0 0] } } := by
      intro ty hty
      have st₂ := st.push { cls := .type ty, data := .fields #[.str x' t, .int 0 0] }
      exact for_rule (Source.text T.room.handled (x := x') (t := t) hty) (T.step st₂) st₂.later h0 ⟨_, Heap.get?_push_size _ rfl, rfl, rfl⟩ (fun _ _ _ z hz => (nomatch hz)) T₁.newIter.1 T₁.newIter.2 hx hk hb ht hend P
    cases ha : x'.cps.all (· < 128)
    · exact wpAny_pyIter_wide ha (key "str_iterator" (.inr rfl))
    · exact wpAny_pyIter_ascii ha (key "str_ascii_iterator" (.inl rfl))

theorem sem_for_back {x : Str} {p np cp pos : Pos} {i : Nat} {it : Expr} {a : X} {body : List Stmt} {y : Ss} (hx : (slots sc)[i]? = some x) (hk : sc.names.lookup x = some .local ∨ sc.names.lookup x = some .cell)
    (hr : sc.names.lookup ("reversed" : Str) = some .globalImplicit) (hs : plainE it = true) (he : SemE fname sc it a) (hb : SemSs fname sc body y) :
    SemS fname sc (.For (.Name x p) (.Call (.Name "reversed" np) [it] [] cp) body [] pos) (.loop i (.back a) y) := by
  intro g Φ n F A s ρ fp Q Z R E T h P
  refine wpAny_For (typ1 (id := "reversed") T hr rfl (by decide) hs he h fun v s₁ d f as hk' st r fo => ?_) (fun _ => rfl)
  obtain ⟨ds, rfl, Inv, h0, ht, hend⟩ := onL_inv hk'
  · obtain ⟨l, vs, en, sl, as', rfl, rfl, e1, sz, itm⟩ := r.list_inv
    have T₁ := (T.step st).dem f.u
    have hl : vs.size = ds.length := by rw [← Array.length_toList, itm.length]
    refine call_reversed_list ⟨_, e1, rfl, en, rfl⟩ ?_
    have st₂ := st.push (revObj l ((vs.size : Int) - 1))
    have hit : (s₁.heap.push (revObj l ((vs.size : Int) - 1))).IsRevIter s₁.heap.objs.size l ((vs.size : Int) - 1) := ⟨_, Heap.get?_push_size _ rfl, rfl, rfl⟩
    refine wpAny_pyIter_revIter (s := { s₁ with heap := s₁.heap.push (revObj l ((vs.size : Int) - 1)) }) hit ?_
    have T₂ := (T.step st₂).dem f.u
    refine for_rule (Source.back T.room.handled (l := l) (ds := ds) (as := as')) T₂ st₂.later h0 ⟨Nat.zero_le _, ?_, r.ext (Ext.push _ _)⟩ fo.demd T₁.newIter.1 T₁.newIter.2 hx hk hb ht hend P
    rw [hl] at hit ⊢; simpa using hit

theorem sem_for_range {x : Str} {p np cp pos : Pos} {i : Nat} {it : Expr} {a : X} {body : List Stmt} {y : Ss} (hx : (slots sc)[i]? = some x) (hk : sc.names.lookup x = some .local ∨ sc.names.lookup x = some .cell)
    (hr : sc.names.lookup ("range" : Str) = some .globalImplicit) (hs : plainE it = true) (he : SemE fname sc it a) (hb : SemSs fname sc body y) :
    SemS fname sc (.For (.Name x p) (.Call (.Name "range" np) [it] [] cp) body [] pos) (.loop i (.range a) y) := by
  intro g Φ n F A s ρ fp Q Z R E T h P
  refine wpAny_For (typ1 (id := "range") T hr rfl (by decide) hs he h fun v s₁ d f as hk' st r fo => ?_) (fun _ => rfl)
  obtain ⟨m, rfl, hlo, hhi, Inv, h0, ht, hend⟩ := onI_inv hk'
  · obtain ⟨t, rfl, _⟩ := r.int_inv
    have hlo' : m < 2 ^ 62 := hlo
    have hhi' : -(2 ^ 62) ≤ m := hhi
    refine call_range_1 ?_
    have st₁ := (st.push { cls := .type "range", data := .fields #[.int 0 s₁.toks, .int m t, .int 1 (s₁.toks + 1)] }).toks (s₁.toks + 1 + 1)
    refine wpAny_pyIter_range (IsRange.new ..) (small_one (by decide) (by decide) hhi' hlo') ?_
    rw [rangeSize_one]
    have T₁ := T.step st₁
    have st₂ := st₁.push { cls := .type "range_iterator", data := .fields #[rawInt 0, rawInt (if 0 < m then m - 0 else 0), rawInt 1] }
    have T₂ := T.step st₂
    have eds : ((List.range m.toNat).map fun (k : Nat) => PyData.int k) = (List.range m.toNat).map fun (k : Nat) => .int (0 + k * 1) := by
      apply List.map_congr_left; intro k _; simp
    rw [eds] at ht hend
    refine for_rule (Source.range T.room.handled (a := 0) (c := 1) (m := m.toNat)) T₂ st₂.later h0 ?_ (fun _ _ _ _ hz => (nomatch hz)) T₁.newIter.1 T₁.newIter.2 hx hk hb ht hend P
    have em : (if 0 < m then m - 0 else 0) = ((m.toNat : Nat) : Int) := by split <;> omega
    rw [em]
    simpa using (Heap.get?_push_size (s₁.heap.push { cls := .type "range", data := .fields #[.int 0 s₁.toks, .int m t, .int 1 (s₁.toks + 1)] }) (o := { cls := .type "range_iterator", data := .fields #[rawInt 0, rawInt ((m.toNat : Nat) : Int), rawInt 1] }) rfl)

theorem small_down {a : Int} (ha : -(2 ^ 62) ≤ a) (ha' : a < 2 ^ 62) : Builtin.Range.small a (-1) (-1) = true ∧ Builtin.Range.rangeSize a (-1) (-1) = ((a + 1).toNat : Nat) := by
  have e : Builtin.Range.rangeSize a (-1) (-1) = ((a + 1).toNat : Nat) := by
    unfold Builtin.Range.rangeSize
    simp only [show ¬ ((-1 : Int) > 0) by decide, if_false, Int.neg_neg, Int.ediv_one]
    split <;> omega
  refine ⟨?_, e⟩
  unfold Builtin.Range.small
  rw [e]
  simp only [Builtin.Range.rangeFitsLong, Bool.and_eq_true, Bool.or_eq_true, decide_eq_true_eq, beq_iff_eq, show ¬ ((-1 : Int) > 0) by decide, if_false]
  omega

theorem sem_for_down {x : Str} {p np cp pos : Pos} {i : Nat} {it : Expr} {a : X} {body : List Stmt} {y : Ss} {k1 k2 : Nat} {q1 q2 q3 q4 : Pos} (hx : (slots sc)[i]? = some x) (hk : sc.names.lookup x = some .local ∨ sc.names.lookup x = some .cell)
    (hr : sc.names.lookup ("range" : Str) = some .globalImplicit) (hs : plainE it = true) (he : SemE fname sc it a) (hb : SemSs fname sc body y) :
    SemS fname sc (.For (.Name x p) (.Call (.Name "range" np) [it, .UnaryOp .USub (.Constant (.int 1) k1 q1) q2, .UnaryOp .USub (.Constant (.int 1) k2 q3) q4] [] cp) body [] pos) (.loop i (.down a) y) := by
  intro g Φ n F A s ρ fp Q Z R E T h P
  refine wpAny_For ?_ (fun _ => rfl)
  refine wpAny_Call_ofName (blt_name (v := .type "range") T hr rfl (by decide) (callWith_type1 (args_cons (he g Φ n F A s ρ fp _ _ E T h fun v s₁ d f as hk' st r fo => ?_) (starEach_cons hs)) (starEach_cons hs) rfl))
  refine args_cons (wpAny_UnaryOp (wpAny_Constant_int (PySem.P.neg_int ?_))) rfl
  refine args_cons (wpAny_UnaryOp (wpAny_Constant_int (PySem.P.neg_int (args_nil ?_)))) rfl
  obtain ⟨m, rfl, hlo, hhi, Inv, h0, ht, hend⟩ := onI_inv hk'
  · obtain ⟨t, rfl, _⟩ := r.int_inv
    have hlo' : m < 2 ^ 62 := hlo
    have hhi' : -(2 ^ 62) ≤ m := hhi
    have st₀ := st.toks (s₁.toks + 1 + 1 + 1 + 1)
    refine call_range_3 (by decide) ?_ (.inr (T.step st₀).pylong)
    obtain ⟨sm, sz⟩ := small_down hhi' hlo'
    have st₁ := st₀.push { cls := .type "range", data := .fields #[.int m t, .int (-1) (s₁.toks + 1), .int (-1) (s₁.toks + 1 + 1 + 1)] }
    refine wpAny_pyIter_range (IsRange.new ..) sm ?_
    rw [sz]
    have T₁ := T.step st₁
    have st₂ := st₁.push { cls := .type "range_iterator", data := .fields #[rawInt m, rawInt (((m + 1).toNat : Nat) : Int), rawInt (-1)] }
    have T₂ := T.step st₂
    have eds : ((List.range (m + 1).toNat).map fun (k : Nat) => PyData.int (m - k)) = (List.range (m + 1).toNat).map fun (k : Nat) => .int (m + k * (-1)) := by
      apply List.map_congr_left; intro k _; congr 1; omega
    rw [eds] at ht hend
    refine for_rule (Source.range T.room.handled (a := m) (c := -1) (m := (m + 1).toNat)) T₂ st₂.later h0 ?_ (fun _ _ _ _ hz => (nomatch hz)) T₁.newIter.1 T₁.newIter.2 hx hk hb ht hend P
    simpa using (Heap.get?_push_size (s₁.heap.push { cls := .type "range", data := .fields #[.int m t, .int (-1) (s₁.toks + 1), .int (-1) (s₁.toks + 1 + 1 + 1)] }) (o := { cls := .type "range_iterator", data := .fields #[rawInt m, rawInt (((m + 1).toNat : Nat) : Int), rawInt (-1)] }) rfl)

end
end Mine
set_option Elab.async false
set_option maxRecDepth 100000
set_option linter.unusedVariables false
namespace Mine
open PySem PySem.Calls PyProof.Rows

section
variable {fname : Nat → Str} {g : Gx} {Φ : Calls} {n : Nat} {F : Fm} {sc : Scope} {A : Around} {s s' : Shared} {ρ : Vars} {fp : Nat → List Addr} {h h' : Heap}

noncomputable def EnumSt (e it l : Addr) (ds : List D) (as : List Addr) (k : Nat) (h : Heap) : Prop :=
  (∃ old, IsEnum h e it k old) ∧ h.IsListIter it l k ∧ Rp h (.ref l) (.list ds) (l :: as)

theorem EnumSt.frame {e it l : Addr} {ds : List D} {as : List Addr} {k : Nat} {M : Addr → Prop} (st : EnumSt e it l ds as k h) (sb : StayBut M h h') (hj : ∀ b, (b = e ∨ b = it) → ¬ M b) (hz : ∀ z ∈ l :: as, ¬ M z) : EnumSt e it l ds as k h' := by
  obtain ⟨⟨old, x⟩, ⟨o, y, c, d⟩, r⟩ := st
  exact ⟨⟨old, sb.fields x (hj e (.inl rfl)) rfl⟩, ⟨o, sb.fields y (hj it (.inr rfl)) d, c, d⟩, r.stay sb hz⟩
theorem EnumSt.there {e it l : Addr} {ds : List D} {as : List Addr} {k : Nat} (st : EnumSt e it l ds as k h) : ∀ b, (b = e ∨ b = it) → ∃ o vs, h.get? b = some o ∧ o.data = .fields vs := by
  obtain ⟨⟨old, x⟩, ⟨o, y, c, d⟩, r⟩ := st
  rintro b (rfl | rfl)
  · exact ⟨_, _, x, rfl⟩
  · exact ⟨_, _, y, d⟩
theorem EnumSt.lists {e it l : Addr} {ds : List D} {as : List Addr} {k : Nat} (st : EnumSt e it l ds as k h) (z : Addr) (hz : z ∈ l :: as) : ∃ o vs n, h.get? z = some o ∧ o.data = .seq vs n := by
  obtain ⟨vs, m, _, e, _⟩ := st.2.2.mem z hz; exact ⟨_, vs, m, e, rfl⟩
theorem EnumSt.store {e it l : Addr} {ds : List D} {as : List Addr} {k : Nat} {x : Str} {v : Value} (R : Rel g F sc h ρ fp) (st : EnumSt e it l ds as k h) (S : Stored F sc h h' x v) : EnumSt e it l ds as k h' :=
  st.frame (R.stayBut S.keep) (fun b hb q => by
    obtain ⟨o, vs, e, hd⟩ := st.there b hb
    exact R.privFields q e vs hd) (fun z hz q => by
    obtain ⟨o, vs, m, e, hd⟩ := st.lists z hz
    exact R.privData q e vs m hd)

theorem enum_rule {e it l : Addr} {ds : List D} {as : List Addr} {x₁ x₂ : Str} {p₁ p₂ pt : Pos} {kk : Nat} {i j : Nat} {body : List Stmt} {y : Ss} {Inv : Nat → Vars → Prop} {Q : Fl → Vars → Prop} {Z : Nat → Prop} {R : Flow → Shared → Prop} {E : Value → Shared → Prop} {s₀ : Shared}
    (T : At fname g Φ n F sc A s ρ fp) (hl0 : Later s₀ s) (hI : Inv 0 ρ) (st : EnumSt e it l ds as 0 s.heap) (hdis : ∀ j d, ρ[j]? = some (.own d) → ∀ z ∈ l :: as, z ∉ fp j)
    (hM : ∀ b, (b = e ∨ b = it) → F.H b = none ∧ g.base.get? b = none) (hei : e ≠ it)
    (hx₁ : (slots sc)[i]? = some x₁) (hk₁ : sc.names.lookup x₁ = some .local ∨ sc.names.lookup x₁ = some .cell) (hx₂ : (slots sc)[j]? = some x₂) (hk₂ : sc.names.lookup x₂ = some .local ∨ sc.names.lookup x₂ = some .cell) (hbody : SemSs fname sc body y)
    (hturn : ∀ k σ d, ds[k]? = some d → Inv k σ → xSs Φ (fun _ => False) y (lpost (Inv (k + 1)) Q) (asg (asg σ i (.int k) ff) j d ⟨true, []⟩))
    (hend : ∀ σ, Inv ds.length σ → Q .next σ) (P : Po fname g F sc s₀ Q Z R E) :
    codeAny (model g.p g.w) A (.forLoop (.Tuple [.Name x₁ p₁, .Name x₂ p₂] kk pt) (.ref e) body [] (F.env sc)) (fun r s' => match r with | .ok f => R f s' | .error e => cameBackBy (model g.p g.w) A (F.env sc) E e s') s := by
  have hh := T.room.handled
  refine codeAny_forLoop_any (fun m s' => ∃ k σ fp', m = ds.length - k ∧ k ≤ ds.length ∧ Inv k σ ∧ Later s₀ s' ∧ Rel g F sc s'.heap σ fp' ∧ EnumSt e it l ds as k s'.heap ∧ ∀ j d, σ[j]? = some (.own d) → ∀ z ∈ l :: as, z ∉ fp' j)
    (fun m s' hs => ?_) ds.length ⟨0, ρ, fp, rfl, Nat.zero_le _, hI, hl0, T.rel, st, hdis⟩
  obtain ⟨k, σ, fp', rfl, hkl, hσ, hl, hrel, hst, hds⟩ := hs
  have hst' := hst
  obtain ⟨⟨old, he⟩, hit, r⟩ := hst'
  obtain ⟨_, vs, en, sl, _, q1, q2, e1, sz, itm⟩ := r.list_inv
  cases q1; cases q2
  rcases Nat.lt_or_eq_of_le hkl with hlt | rfl
  · have hd : ds[k]? = some ds[k] := List.getElem?_eq_getElem hlt
    obtain ⟨u, cs, hu, ru, hsub⟩ := itm.get _ _ hd
    have hne : e ≠ s'.heap.objs.size := fun q => by
      obtain ⟨o, vs, e', _⟩ := hst.there e (.inl rfl)
      rw [q, fresh_size] at e'; cases e'
    refine wpAny_pyNext_enum_item he hit ⟨_, e1, rfl, en, rfl⟩ (x := u) (by rw [← Array.getElem?_toList]; exact hu) hei fun h₁ ho₁ hit₁ ht₁ hz₁ hk₁' => ?_
    refine wpAny_letOwnedTupleGo_enum ho₁ fun h₂ he₂ hs₂ => ?_
    replace hs₂ : Heap.SameBut e h₁ h₂ := hs₂
    have ht₂ : h₂.IsTuple s'.heap.objs.size #[.int k s'.toks, u] := ⟨_, (hs₂.2 _ (Ne.symm hne)).trans ht₁, rfl, _, rfl⟩
    refine wpAny_assign_Tuple hh ht₂ rfl rfl fun h₃ hx₃ => ?_
    replace hx₃ : Heap.ExtBut h₂.objs.size h₂ h₃ := hx₃
    have old₃ : ∀ b o, h₂.get? b = some o → h₃.get? b = some o := fun b o x => hx₃ b o (Nat.ne_of_lt (Heap.lt_size x)) x
    have kp : ∀ b o, ¬ (b = e ∨ b = it) → s'.heap.get? b = some o → h₃.get? b = some o := fun b o hb x =>
      old₃ b o ((hs₂.2 b fun q => hb (.inl q)).trans (hk₁' b o (fun q => hb (.inl q)) (fun q => hb (.inr q)) x))
    have R₃ := hrel.fieldsBut hst.there hM kp
    have sb₃ : StayBut (fun b => b = e ∨ b = it) s'.heap h₃ := ⟨fun b o e' hb => .inl (kp b o hb e'), fun b o hb e' => .inr (.inl (by
      obtain ⟨oI, vI, eI, dI⟩ := hst.there b hb
      rw [eI] at e'; cases e'; exact ⟨_, dI⟩))⟩
    have nz : ∀ z ∈ l :: as, ¬ (z = e ∨ z = it) := fun z hz q => by
      obtain ⟨o, vs, m, e', d'⟩ := hst.lists z hz
      obtain ⟨o', vs', e'', d''⟩ := hst.there z q
      rw [e'] at e''; cases e''; rw [d'] at d''; cases d''
    have ru₃ : Rp h₃ u ds[k] cs := ru.stay sb₃ fun a ha => nz a (.tail _ (hsub.subset ha))
    have hst₃ : EnumSt e it l ds as (k + 1) h₃ := by
      refine ⟨⟨u, old₃ e _ he₂⟩, ?_, r.stay sb₃ nz⟩
      obtain ⟨oi, yi, ci, di'⟩ := hit₁
      exact ⟨oi, old₃ it oi ((hs₂.2 it (Ne.symm hei)).trans yi), ci, di'⟩
    show wpAny _ A (do holding [u] (assign (.Name x₁ p₁) (F.env sc) (.int k s'.toks)); do holding [] (assign (.Name x₂ p₂) (F.env sc) u); pure ()) _ _ _
    refine wpAny_bind (wpAny_holding (wpAny_assign_Name (store_rule (i := i) (T.rel' (s' := { s' with heap := h₃, toks := s'.toks + 1 }) R₃) hk₁ fun h₄ tk₄ S₄ => ?_)))
    have R₄ := R₃.asgC (f := ff) hx₁ S₄ (.int (k : Int) s'.toks) (fun _ _ _ _ _ ha => (nomatch ha)) (fun _ _ => ⟨List.nodup_nil, fun _ ha => (nomatch ha), fun _ _ ha => (nomatch ha)⟩)
    have hds₄ : ∀ q d, (asg σ i (.int k) ff)[q]? = some (.own d) → ∀ z ∈ l :: as, z ∉ (if q = i then [] else fp' q) := by
      intro q d hq z hz
      rcases asg_own (by rw [hrel.len]; exact (List.getElem?_eq_some_iff.mp hx₁).1) hq with ⟨hne, ho⟩ | ⟨_, _, _, hi⟩
      · rw [if_neg hne]; exact hds q d ho z hz
      · cases hi
    refine wpAny_bind (wpAny_holding (wpAny_assign_Name (store_rule (i := j) (T.rel' (s' := { s' with heap := h₄, toks := tk₄ }) R₄) hk₂ fun h₅ tk₅ S₅ => wpAny_pure ?_)))
    have R₅ := R₄.asgC (f := ⟨true, []⟩) hx₂ S₅ (R₃.rpStay S₄.keep ru₃) (fun q d hq _ a ha q' => hds₄ q d hq a (.tail _ (hsub.subset ha)) q') (fun hs => (nomatch hs))
    have hst₅ := (hst₃.store R₃ S₄).store R₄ S₅
    refine turn_rule (J := fun b => b = e ∨ b = it) (St := EnumSt e it l ds as (k + 1)) (Z := l :: as) (Q' := Inv (k + 1)) (Z' := fun _ => False) (T.rel' (s' := { s' with heap := h₅, toks := tk₅ }) R₅) (hl.trans ⟨_, _, rfl⟩) hst₅.there hst₅.lists
      (fun h' M sb h1 h2 => hst₅.frame sb h1 h2) (fun q d hq z hz => ?_) hbody (hturn k σ ds[k] hd hσ) ⟨fun _ z => z.elim, P.nor, fun _ _ _ _ z => z.elim⟩ (fun _ _ r => r)
      fun s₄ ρ₄ fp₄ hi hl₅ R₄ hst₄ ho => ⟨ds.length - (k + 1), by omega, k + 1, ρ₄, fp₄, rfl, hlt, hi, hl₅, R₄, hst₄, ho⟩
    rcases asg_own (by rw [R₄.len]; exact (List.getElem?_eq_some_iff.mp hx₂).1) hq with ⟨hne, ho⟩ | ⟨_, hs, _⟩
    · simp only [if_neg hne]
      exact hds₄ q d ho z hz
    · cases hs
  · refine wpAny_pyNext_enum_end hh he hit ⟨_, e1, rfl, en, rfl⟩ (by rw [← Array.getElem?_toList, List.getElem?_eq_none (by rw [itm.length]; exact Nat.le_refl _)]) fun h₁ hkeep => ?_
    exact wpAny_execs_nil (P.next (s' := { s' with heap := h₁ }) (hend σ hσ) (hl.trans ⟨h₁, s'.toks, rfl⟩) (hrel.fieldsBut hst.there hM fun b o hb e => hkeep b o (fun q => hb (.inr q)) e))

theorem sem_for_enum {x₁ x₂ : Str} {p₁ p₂ pt np cp pos : Pos} {kk i j : Nat} {it : Expr} {a : X} {body : List Stmt} {y : Ss} (hx₁ : (slots sc)[i]? = some x₁) (hk₁ : sc.names.lookup x₁ = some .local ∨ sc.names.lookup x₁ = some .cell)
    (hx₂ : (slots sc)[j]? = some x₂) (hk₂ : sc.names.lookup x₂ = some .local ∨ sc.names.lookup x₂ = some .cell)
    (hr : sc.names.lookup ("enumerate" : Str) = some .globalImplicit) (hs : plainE it = true) (he : SemE fname sc it a) (hb : SemSs fname sc body y) :
    SemS fname sc (.For (.Tuple [.Name x₁ p₁, .Name x₂ p₂] kk pt) (.Call (.Name "enumerate" np) [it] [] cp) body [] pos) (.enum i j a y) := by
  intro g Φ n F A s ρ fp Q Z R E T h P
  refine wpAny_For (typ1 (id := "enumerate") T hr rfl (by decide) hs he h fun v s₁ d f as hk' st r fo => ?_) (fun _ => rfl)
  obtain ⟨ds, rfl, Inv, h0, ht, hend⟩ := onL_inv hk'
  obtain ⟨l, vs, en, sl, as', rfl, rfl, e1, sz, itm⟩ := r.list_inv
  refine call_enumerate_list ⟨_, e1, rfl, en, rfl⟩ fun h₂ hen hit hsz keep => wpAny_pyIter_enum hen ?_
  have st₂ : Step g s { s₁ with heap := h₂ } := st.keep keep s₁.toks
  refine enum_rule (as := as') ((T.step st₂).dem f.u) st₂.later h0 ⟨⟨_, hen⟩, hit, r.ext (.of_keep keep)⟩ fo.demd (fun b hb => (T.step st).rel.newH (Heap.get?_none_of_le ?_)) (Nat.succ_ne_self _) hx₁ hk₁ hx₂ hk₂ hb ht hend P
  rcases hb with rfl | rfl
  · exact Nat.le_succ _
  · exact Nat.le_refl _

theorem Rps.rev {vs ds as} (r : Rps h vs ds as) : ∃ bs, Rps h vs.reverse ds.reverse bs ∧ List.Perm bs as := by
  refine Rps.ind (N := fun vs ds as => ∃ bs, Rps h vs.reverse ds.reverse bs ∧ List.Perm bs as) ⟨[], .nil, .nil⟩ (fun v d ws ds as bs x _ ih => ?_) r
  obtain ⟨cs, h1, h2⟩ := ih
  refine ⟨cs ++ (as ++ []), ?_, ?_⟩
  · rw [List.reverse_cons, List.reverse_cons]
    exact Rps.append h1 (.cons x .nil)
  · rw [List.append_nil]
    exact (List.perm_append_comm).trans (List.Perm.append_left as h2)

theorem reverse_heap {l : Addr} {o : Obj} {vs : Array Value} {k : Nat} {pos : Pos} {Q E : Value → Shared → Prop} (ho : s.heap.get? l = some o) (hc : o.cls = .type "list") (hd : o.data = .seq vs k) (hz : vs.size ≤ sizeLine)
    (hQ : Q .none { s with heap := s.heap.update l (Obj.mapSeq (·.reverse)) }) : wpAny (model g.p g.w) A (callWith pos (.builtin "list.reverse") [.ref l] [] []) Q E s := by
  refine Calls.callWith_builtin rfl (PySem.evalArgs_none ?_)
  refine wpAny_call_entry PySem.F.slot_list_reverse ⟨o, ho, hc⟩ PySem.F.entry_list_reverse ?_ (PySem.F.args_list_reverse_1 _)
  show wpAny _ _ (updateSeq l (·.reverse) >>= fun _ => ret .none) _ _ s
  exact wpAny_bind (wpAny_updateSeq ho hd (wpAny_pure ⟨.none, rfl, hQ⟩) hz (by simp; omega))

theorem sem_reverse {x : Str} {p apos pos epos : Pos} {i : Nat} (hx : (slots sc)[i]? = some x) (hd : (x == ("__debug__" : Str)) = false) (hl : (apos.endLine == pos.line) = true) :
    SemS fname sc (.Expr (.Call (.Attribute (.Name x p) "reverse" apos) [] [] pos) epos) (.reverse i) := by
  intro g Φ n F A s ρ fp Q Z R E T h P
  obtain ⟨xs, hi, h⟩ := ownL_inv h
  obtain ⟨y, v, hy, hv, r⟩ := T.rel.vars i _ (.inr hi)
  rw [hx] at hy; cases hy
  obtain ⟨b, vs, en, sl, as', rfl, hfp, e1, sz, it⟩ := r.list_inv
  refine wpAny_Expr_any (wpAny_Call_method0_late rfl hl (load_var T hv hd ⟨"list", "list.reverse", PySem.F.plainAttrs_list, PySem.F.slot_list_reverse, PySem.F.type_list_reverse, ⟨_, e1, rfl⟩, fun a e => by cases e; exact ⟨_, e1, rfl⟩, ?_⟩)) (not_interactive T) rfl
  refine reverse_heap e1 rfl rfl sz ?_
  obtain ⟨o1, o2, o3⟩ := T.rel.own i _ hi
  rw [hfp] at o1 o2 o3
  obtain ⟨bs, r1, r2⟩ := it.rev
  exact P.next h ⟨_, _, rfl⟩ (T.rel.mutate hi hfp (Heap.SameBut.update _ _ _) (seq_update (f := (·.reverse)) ⟨_, _, e1, sz⟩ (by rw [Array.size_reverse]; exact sz)) (xs' := xs.reverse) (by rw [Array.toList_reverse]; exact r1)
    ((List.Perm.cons b r2).nodup_iff.mpr o1) (fun a ha => o2 a (.tail _ (r2.mem_iff.mp ha))) (fun j hj a ha => o3 j hj a (.tail _ (r2.mem_iff.mp ha))))
end
end Mine
set_option Elab.async false
set_option maxRecDepth 100000
set_option linter.unusedVariables false
namespace Mine
open PySem PySem.Calls PyProof.Rows

theorem swapped_ok {x y : Str} {px py tp vp : Pos} {k k' : Nat} {a b : Expr} {env : Env} (hk : env.scope.kind = .function) (hx : env.kindOf x = some .local) (hy : env.kindOf y = some .local) (hl : (py.line == px.line) = true) (hne : x ≠ y)
    (ha : (a.ctorIdx == 22) = false) (hb : (b.ctorIdx == 22) = false) (hf : ([a, b].all (foldedForSure 8)) = false) (hc : ([a, b].all (constantsAlone 8)) = false) :
    swappedStores [.Tuple [.Name x px, .Name y py] k tp] (.Tuple [a, b] k' vp) env = pure (some [x, y]) := by
  have hbk : (env.blockKind != .function) = false := by unfold Env.blockKind; rw [hk]; rfl
  have e1 : (env.kindOf x == some .local && (px.line == px.line)) = true := by rw [hx]; exact beq_self_eq_true _
  have e2 : (env.kindOf y == some .local && (py.line == px.line)) = true := by rw [hy, hl]; rfl
  have hs : ∀ f : Expr → Bool, (∀ e, f e = (e.ctorIdx == 22)) → ¬ ([a, b].any f) = true := fun f h q => by
    rw [List.any_cons, List.any_cons, h, h, ha, hb] at q; exact Bool.false_ne_true q
  have hd : ¬ (([x, y] : List Str).length != 2 || ([x, y] : List Str).eraseDups.length != ([x, y] : List Str).length) = true := by
    have q : (y == x) = false := beq_eq_false_iff_ne.mpr (Ne.symm hne)
    simp [List.eraseDups_cons, q]
  show (ite _ _ _ : Sem _) = _
  rw [if_neg (by show ¬ (env.blockKind != .function) = true; rw [hbk]; decide)]
  rw [if_neg (hs _ ?st)]
  case st => intro e; cases e <;> rfl
  have hn : ∀ (f : Expr → Option Str), f (.Name x px) = (if (env.kindOf x == some .local && (px.line == px.line)) = true then some x else none) → f (.Name y py) = (if (env.kindOf y == some .local && (py.line == px.line)) = true then some y else none) → List.filterMap f [.Name x px, .Name y py] = [x, y] := fun f h1 h2 => by
    rw [List.filterMap_cons, h1, if_pos e1]
    show x :: List.filterMap f [.Name y py] = _
    rw [List.filterMap_cons, h2, if_pos e2]; rfl
  show ((fun names : List Str => (ite ((names.length != 2 || names.eraseDups.length != names.length) = true) _ _ : Sem _)) (List.filterMap _ [Expr.Name x px, Expr.Name y py])) = _
  rw [hn _ rfl rfl]
  show (ite _ _ _ : Sem _) = _
  rw [if_neg hd, if_neg (by rw [hf]; decide)]
  show (ite _ _ _ : Sem _) = _
  rw [if_neg (by rw [hc]; decide)]

section
variable {fname : Nat → Str} {g : Gx} {Φ : Calls} {n : Nat} {F : Fm} {sc : Scope} {A : Around} {s s' : Shared} {ρ : Vars} {fp : Nat → List Addr} {h h' : Heap}

theorem two_line (v w : Value) : ([v, w] : List Value).length ≤ sizeLine := by show 2 ≤ sizeLine; decide

theorem put_new {h₀ : Heap} {x : Str} {i : Nat} {v : Value} {d : D} {as : List Addr} (R₀ : Rel g F sc h₀ ρ fp) (nd : as.Nodup) (fr : ∀ a ∈ as, h₀.get? a = none) {ρ' : Vars} {fp' : Nat → List Addr} (R : Rel g F sc h ρ' fp') (hx : (slots sc)[i]? = some x) (S : Stored F sc h h' x v) (r : Rp h v d as)
    (hd : ∀ j, ∀ a ∈ as, a ∉ fp' j) : Rel g F sc h' (Mine.asg ρ' i d ff) (fun j => if j = i then as else fp' j) :=
  R.asgC (f := ff) hx S r (fun j _ _ _ => hd j) fun _ _ => ⟨nd, fun a ha => R₀.newH (fr a ha), hd⟩

theorem sem_pair {x y : Str} {px py tp vp pos : Pos} {k k' : Nat} {ea eb : Expr} {a b : X} {i j : Nat} (hx : (slots sc)[i]? = some x) (hy : (slots sc)[j]? = some y) (hkx : sc.names.lookup x = some .local) (hky : sc.names.lookup y = some .local)
    (hl : (py.line == px.line) = true) (hne : x ≠ y) (hsa : plainE ea = true) (hsb : plainE eb = true) (hta : (ea.ctorIdx == 22) = false) (htb : (eb.ctorIdx == 22) = false) (hf : ([ea, eb].all (foldedForSure 8)) = false) (hc : ([ea, eb].all (constantsAlone 8)) = false)
    (ha : SemE fname sc ea a) (hb : SemE fname sc eb b) : SemS fname sc (.Assign [.Tuple [.Name x px, .Name y py] k tp] (.Tuple [ea, eb] k' vp) pos) (.pair i j a b) := by
  intro g Φ n F A s ρ fp Q Z R E T h P
  refine Assign_Tuple_swapped (names := [x, y]) ?_ rfl (swapped_ok (env := F.env sc) T.kind hkx hky hl hne hta htb hf hc)
  refine wpAny_Tuple ?_
  refine args_cons (ha g Φ n F A s ρ fp _ _ E T h fun v s₁ d f as hk st r fo => args_cons (hb g Φ n F A s₁ ρ fp _ _ E (T.step st) hk fun w s₂ d' f' bs hk' st' r' fo' => args_nil ⟨two_line v w, ?_⟩) (starEach_cons hsb)) (starEach_cons hsa)
  obtain ⟨q1, q2, q3, q4, hQ⟩ := hk'
  obtain ⟨nda, fra⟩ := fo.made q1 q2
  obtain ⟨ndb, frb⟩ := fo'.made q3 q4
  have st₂ := (st.trans st').push { cls := .type "tuple", data := .seq #[v, w] }
  have ht : IsTup (s₂.heap.push { cls := .type "tuple", data := .seq #[v, w] }) s₂.heap.objs.size #[v, w] := ⟨_, Heap.get?_push_size _ rfl, rfl, 0, rfl⟩
  show wpAny (model g.p g.w) A (unpackItems (.ref s₂.heap.objs.size) (#[v, w] : Array Value).size none) _ E { s₂ with heap := s₂.heap.push { cls := .type "tuple", data := .seq #[v, w] } }
  refine unpackItems_tuple (s := { s₂ with heap := s₂.heap.push { cls := .type "tuple", data := .seq #[v, w] } }) T.room.handled ht fun h' hext => ?_
  have kp : ∀ b o, (s₂.heap.push { cls := .type "tuple", data := .seq #[v, w] }).get? b = some o → h'.get? b = some o := fun b o e => hext b o (fun q => by
    have := Heap.lt_size e; rw [q] at this; exact Nat.lt_irrefl _ this) e
  have st₃ := st₂.keep kp s₂.toks
  have kp' : Ext s₂.heap h' := (Ext.push _ _).trans (.of_keep kp)
  have T₃ := T.step st₃
  show wpAny _ A (do holding [v] (bindName (F.env sc) y w); assignInOrder [fun v => bindName (F.env sc) x v] [v]) _ E _
  refine wpAny_bind (wpAny_holding (bindName_ (store_rule (i := j) T₃ (.inl hky) fun h₄ tk₄ S₄ => ?_)))
  have R₄ := put_new T.rel ndb (fun a ha => st.ext.fresh (frb a ha)) T₃.rel hy S₄ (r'.ext kp') fun j' a ha => T.rel.newFp (st.ext.fresh (frb a ha)) j'
  show wpAny _ A (do holding [] (bindName (F.env sc) x v); assignInOrder [] []) _ E _
  refine wpAny_bind (wpAny_holding (bindName_ (store_rule (i := i) (T.rel' (s' := { s₂ with heap := h₄, toks := tk₄ }) R₄) (.inl hkx) fun h₅ tk₅ S₅ => wpAny_pure ?_)))
  refine P.next hQ (st₃.later.trans (Later.trans ⟨h₄, tk₄, rfl⟩ ⟨h₅, tk₅, rfl⟩)) (put_new T.rel nda fra R₄ hx S₅ (T₃.rel.rpStay S₄.keep ((r.ext st'.ext).ext kp')) fun j' a ha => ?_)
  by_cases hj : j' = j
  · rw [if_pos hj]; exact fun q => r.there a ha (frb a q)
  · rw [if_neg hj]; exact T.rel.newFp (fra a ha) j'
end
end Mine
set_option Elab.async false
set_option maxRecDepth 100000
set_option linter.unusedVariables false
namespace Mine
open PySem PySem.Calls PyProof.Rows

theorem Rps.fps {h : Heap} {vs ds as} (r : Rps h vs ds as) : ∃ fp : Nat → List Addr, (∀ i d, ds[i]? = some d → ∃ v, vs[i]? = some v ∧ Rp h v d (fp i)) ∧ ∀ i, ds.length ≤ i → fp i = [] := by
  refine Rps.ind (N := fun vs ds _ => ∃ fp : Nat → List Addr, (∀ i d, ds[i]? = some d → ∃ v, vs[i]? = some v ∧ Rp h v d (fp i)) ∧ ∀ i, ds.length ≤ i → fp i = []) ⟨fun _ => [], ⟨fun i d e => (nomatch e), fun _ _ => rfl⟩⟩ (fun v d ws ds as bs x _ ih => ?_) r
  obtain ⟨fp, h1, h2⟩ := ih
  refine ⟨fun i => Nat.casesOn i as fp, fun i d e => ?_, fun i hi => ?_⟩
  · cases i with
    | zero => injection e with e; subst e; exact ⟨_, rfl, x⟩
    | succ i => exact h1 i d e
  · cases i with
    | zero => exact absurd hi (Nat.not_succ_le_zero _)
    | succ i => exact h2 i (Nat.le_of_succ_le_succ hi)

theorem bindL_skip {k : Str → Option NameKind} {x : Str} : ∀ (r : List (Str × Value)) (m : Str → Option Value), x ∉ r.map (·.1) → bindL k r m x = m x
  | [], _, _ => rfl
  | (n, v) :: r, m, h => by
    simp only [List.map_cons, List.mem_cons, not_or] at h
    rw [bindL, bindL_skip r _ h.2]
    split
    · exact if_neg h.1
    · rfl
theorem bindC_skip {k : Str → Option NameKind} {x : Str} : ∀ (r : List (Str × Value)) (m : Str → Option Value), x ∉ r.map (·.1) → bindC k r m x = m x
  | [], _, _ => rfl
  | (n, v) :: r, m, h => by
    simp only [List.map_cons, List.mem_cons, not_or] at h
    rw [bindC, bindC_skip r _ h.2]
    split
    · rfl
    · exact if_neg h.1
theorem bindL_look {k : Str → Option NameKind} {x : Str} {v : Value} (hk : k x = some .local) : ∀ (r : List (Str × Value)) (m : Str → Option Value), (r.map (·.1)).Nodup → (x, v) ∈ r → bindL k r m x = some v
  | [], _, _, h => nomatch h
  | (n, w) :: r, m, nd, h => by
    simp only [List.map_cons, List.nodup_cons] at nd
    rcases List.mem_cons.mp h with e | h
    · cases e
      rw [bindL, bindL_skip r _ nd.1, if_pos hk, if_pos rfl]
    · rw [bindL]; exact bindL_look hk r _ nd.2 h
theorem bindC_look {k : Str → Option NameKind} {x : Str} {v : Value} (hk : k x = some .cell) : ∀ (r : List (Str × Value)) (m : Str → Option Value), (r.map (·.1)).Nodup → (x, v) ∈ r → bindC k r m x = some v
  | [], _, _, h => nomatch h
  | (n, w) :: r, m, nd, h => by
    simp only [List.map_cons, List.nodup_cons] at nd
    rcases List.mem_cons.mp h with e | h
    · cases e
      rw [bindC, bindC_skip r _ nd.1, if_neg (by rw [hk]; decide), if_pos rfl]
    · rw [bindC]; exact bindC_look hk r _ nd.2 h
theorem look_some {x : Str} : ∀ {l : List (Str × Addr)}, x ∈ l.map (·.1) → ∃ c, l.lookup x = some c
  | [], h => nomatch h
  | (n, c) :: l, h => by
    rw [List.lookup_cons]
    by_cases q : (x == n) = true
    · simp only [q]; exact ⟨c, rfl⟩
    · simp only [q]
      refine look_some ?_
      rw [List.map_cons] at h
      rcases List.mem_cons.mp h with e | h
      · exact absurd (by rw [e]; simp) q
      · exact h

structure FnAt (fname : Nat → Str) (g : Gx) (f k m : Nat) (fa : Addr) (name : Str) (params : Arguments) (stmts : List Stmt) (sc : Scope) (pm cd doc : Value) (o : Obj) : Prop where
  named : g.mg (fname f) = some (.ref fa)
  at' : g.base.get? fa = some o
  data : o.data = .func (docDef name params stmts sc pm cd doc)
  code : g.base.CodeRec cd name
  plain : sc.isGenerator = false ∧ sc.isCoroutine = false ∧ sc.kind = .function
  cells : ((cellsFrom 0 sc.names []).map (·.1)).Nodup ∧ ∀ x, sc.names.lookup x = some .cell → x ∈ (cellsFrom 0 sc.names []).map (·.1)
  xs : (slots sc).Nodup ∧ (slots sc).length = m ∧ k ≤ m ∧ (slots sc).take k = params.args.map (·.arg)
  loc : ∀ x ∈ (slots sc).take k, sc.names.lookup x = some .local ∨ sc.names.lookup x = some .cell
  bind : ∀ vs : List Value, vs.length = k → bindArgs (docDef name params stmts sc pm cd doc) ⟨vs, []⟩ = pure ((params.args.map (·.arg)).zip vs)

theorem fn_enter {fname : Nat → Str} {g : Gx} {n f k m : Nat} {ds : List D} {fa : Addr} {name : Str} {params : Arguments} {stmts : List Stmt} {sc : Scope} {pm cd doc : Value} {o : Obj} (G : Gd g)
    (T : FnAt fname g f k m fa name params stmts sc pm cd doc o) (hlen : ds.length = k) {A : Around} {s : Shared} {vs : List Value} {as : List Addr} {outer : List Env} {R : Result → Shared → Prop}
    (room : Room A (n + 1) outer) (stays : g.base.StaysIn s.heap) (frames : s.heap.FunFrames g.base outer) (r : Rps s.heap vs ds as)
    (hb : ∀ (F : Fm) (fp : Nat → List Addr) (h₁ : Heap) (tk : Nat), F.outer = outer → F.H = s.heap.get? → F.L = s.heap.objs.size → Room (A.deeper (F.env sc)) n (F.env sc :: outer) → Rel g F sc h₁ (startVars ds m) fp →
      wpAny (model g.p g.w) (A.deeper (F.env sc)) (execs stmts (F.env sc)) (fun f s' => R (.ok (.ret (match f with | .ret v => v | _ => .none))) s')
        (fun e s' => wpAny (model g.p g.w) (A.deeper (F.env sc)) (leaving (F.env sc) e) (fun _ s'' => R (.error e) s'') (fun e' s'' => R (.error e') s'') s') { s with heap := h₁, toks := tk }) :
    codeAny (model g.p g.w) A (.call (.ref fa) ⟨vs, []⟩) R s := by
  have hvl : vs.length = k := r.length.trans hlen
  obtain ⟨hnd, hsl, hkm, hpar⟩ := T.xs
  have cnames : (cellsFrom (s.heap.objs.size + 1) sc.names []).map (·.1) = (cellsFrom 0 sc.names []).map (·.1) := cellsFrom_names sc.names _ _ _ _ rfl
  have ccov : ∀ x, sc.names.lookup x = some .cell → ∃ c, (cellsFrom (s.heap.objs.size + 1) sc.names []).lookup x = some c := fun x hx => look_some (by rw [cnames]; exact T.cells.2 x hx)
  refine (call_cells (by have := room.depth; omega) (stays _ _ T.at') T.data (G.nolimit.keeps stays) (T.code.keeps stays) (T.bind vs hvl) ?_ ?_ T.plain.2.1 T.plain.1 T.plain.2.2)
  · intro x hx
    have : x.1 ∈ params.args.map (·.arg) := (List.of_mem_zip hx).1
    rw [← hpar] at this
    rcases T.loc _ this with q | q
    · exact .inl q
    · obtain ⟨c, hc⟩ := ccov _ q
      exact .inr ⟨q, by rw [hc]; rfl⟩
  intro h₁ tk₁ Fr₁ Cl₁
  obtain ⟨fp, hf1, hf2⟩ := r.fps
  have hLfresh := fresh_size s.heap
  have keep : ∀ b o, s.heap.get? b = some o → h₁.get? b = some o := Fr₁.keep
  let F : Fm := { name := name, L := s.heap.objs.size, fa := fa, cd := cd, cl := cellsFrom (s.heap.objs.size + 1) sc.names [], outer := outer, H := s.heap.get? }
  have hns := Fr₁.ns
  have hbn : ∀ {a : Addr}, s.heap.get? a = none → g.base.get? a = none := fun {a} hn => by
    cases hq : g.base.get? a with
    | none => rfl
    | some o => have e := stays _ o hq; rw [hn] at e; cases e
  have hbL := hbn hLfresh
  have hstart : ∀ (i : Nat) (c : Cell), (startVars ds m)[i]? = some c → (i < k ∧ ∃ d, ds[i]? = some d ∧ c = .val d) ∨ (k ≤ i ∧ c = .unset) := by
    intro i c e
    unfold startVars at e
    by_cases hi : i < k
    · rw [List.getElem?_append_left (by simpa [hlen] using hi)] at e
      rw [List.getElem?_map] at e
      cases hd : ds[i]? with
      | none => rw [hd] at e; cases e
      | some d => rw [hd] at e; cases e; exact .inl ⟨hi, d, rfl, rfl⟩
    · rw [List.getElem?_append_right (by simp [hlen]; omega)] at e
      rw [List.getElem?_replicate] at e
      split at e
      · cases e; exact .inr ⟨by omega, rfl⟩
      · cases e
  have R : Rel g F sc h₁ (startVars ds m) fp := by
    refine ⟨fun b o e => keep b o (stays b o e), fun b o e => .inl (keep b o e), ⟨?_, ?_, ?_⟩, ⟨_, hns⟩, hLfresh, fun p hp => ?_, ?_, ?_, ?_, hnd, ?_, ?_, ?_⟩
    · show sc.kind ≠ .module; rw [T.plain.2.2]; decide
    · obtain ⟨oL, es, ep, e, hd, _⟩ := hns
      exact ⟨s.heap.objs.size, oL, rfl, hbL, e, fun vs q => by rw [hd] at q; cases q⟩
    · exact FunFrames.ext (.of_keep keep) frames
    · have hab := Cl₁.above p.1 p.2 hp
      have hno : s.heap.get? p.2 = none := Heap.get?_none_of_le (Nat.le_of_lt hab)
      refine ⟨hno, hbn hno, ?_⟩
      · obtain ⟨o, ho, hd⟩ := Cl₁.cell p.1 p.2 (lookup_of_mem_nodup (by rw [cnames]; exact T.cells.1) hp)
        exact ⟨o, _, ho, hd⟩
    · exact List.pairwise_map.mpr Cl₁.apart
    · exact ccov
    · rw [hsl]; unfold startVars; simp [hlen]; omega
    · intro i d hc
      rcases hc with hc | hc
      · rcases hstart i _ hc with ⟨hi, d', hd, e⟩ | ⟨_, e⟩
        · cases e
          obtain ⟨v, hv, rv⟩ := hf1 i d hd
          have hlt : i < (slots sc).length := by omega
          have hx : (slots sc)[i]? = some (slots sc)[i] := by simp [hlt]
          have hx' : ((slots sc).take k)[i]? = some (slots sc)[i] := by rw [List.getElem?_take, if_pos hi]; exact hx
          have hloc := T.loc _ (List.mem_of_getElem? hx')
          refine ⟨_, v, hx, ?_, rv.ext (.of_keep keep)⟩
          rw [hpar] at hx'
          have hnd' : (((params.args.map (·.arg)).zip vs).map (·.1)).Nodup := by
            rw [List.map_fst_zip (by rw [← hpar, hvl]; exact List.length_take_le _ _), ← hpar]; exact hnd.sublist (List.take_sublist _ _)
          have hmem : ((slots sc)[i], v) ∈ (params.args.map (·.arg)).zip vs := List.mem_iff_getElem?.mpr ⟨i, by rw [List.getElem?_zip_eq_some]; exact ⟨hx', hv⟩⟩
          rcases hloc with q | q
          · exact .inl ⟨q, _, hns, bindL_look (k := (F.env sc).kindOf) q _ _ hnd' hmem⟩
          · obtain ⟨c, hc⟩ := ccov _ q
            obtain ⟨o, ho, hd⟩ := Cl₁.cell _ c hc
            refine .inr ⟨q, c, o, hc, ho, ?_⟩
            rw [hd]; congr 1; exact bindC_look (k := (F.env sc).kindOf) q _ _ hnd' hmem
        · cases e
      · rcases hstart i _ hc with ⟨hi, d', hd, e⟩ | ⟨_, e⟩ <;> cases e
    · intro i hno
      by_cases hi : i < k
      · have hd : ds[i]? = some ds[i] := by simp [hlen, hi]
        have : (startVars ds m)[i]? = some (.val ds[i]) := by
          unfold startVars
          rw [List.getElem?_append_left (by simpa [hlen] using hi), List.getElem?_map, hd]; rfl
        exact absurd this (hno ds[i]).1
      · exact hf2 i (by omega)
    · intro i d hc
      rcases hstart i _ hc with ⟨hi, d', hd, e⟩ | ⟨_, e⟩ <;> cases e
  have room' : Room (A.deeper (F.env sc)) n (F.env sc :: outer) := by
    refine ⟨Around.frames_deeper room.frames, ?_, ?_, room.handled⟩
    · have := room.depth; show A.depth + 1 + n + 150 < _; omega
    · have := room.units; show A.units + 3 + 8 * n + 300 < _; omega
  exact hb F fp h₁ tk₁ rfl rfl rfl room' R


section
variable {fname : Nat → Str} {g : Gx} {Φ : Calls} {n : Nat} {sc : Scope} {f k m : Nat} {body : Ss} {ds : List D} {fa : Addr} {name : Str} {params : Arguments} {stmts : List Stmt} {pm cd doc : Value} {o : Obj}
theorem fn_run {Z : Nat → Prop} {K : D → Bool → Prop} (G : Gd g) (T : FnAt fname g f k m fa name params stmts sc pm cd doc o) (X : SemSs fname sc stmts body) (hΦ : ∀ f ds K, Φ f ds K → Spec fname g n f ds K)
    (hnm : ∀ f, f < 1000 → fname f ≠ Str.empty → ∃ fa o fd, g.mg (fname f) = some (.ref fa) ∧ g.base.get? fa = some o ∧ o.data = .func fd)
    (hex : ∀ c, 2000 ≤ c → c ≤ 2005 → ∃ C, IsExc g (fname c) C) (hlen : ds.length = k) (hw : xSs Φ Z body (retPost K) (startVars ds m)) (exc : ∀ c, Z c → ∃ C, IsExc g (fname c) C) {A : Around} {s : Shared} {vs : List Value} {as : List Addr} {outer : List Env} {Q E : Value → Shared → Prop}
    (room : Room A (n + 1) outer) (stays : g.base.StaysIn s.heap) (frames : s.heap.FunFrames g.base outer) (r : Rps s.heap vs ds as)
    (nor : ∀ v s' d fr bs, K d fr → Step g s s' → Rp s'.heap v d bs → (fr = true → bs.Nodup ∧ ∀ a ∈ bs, s.heap.get? a = none) → Q v s')
    (hE : ∀ c C e a0 s', Z c → IsExc g (fname c) C → Later s s' → Heap.FlyingW (gone g outer s.heap) outer e (.ref C) a0 s'.heap → s.heap.UpToSlots s'.heap → E (.ref e) s') :
    wpAny (model g.p g.w) A (call (.ref fa) vs) Q E s := by
  refine wpAny_call (fn_enter G T hlen room stays frames r fun F fp h₁ tk ho hH hL room' R => ?_)
  refine X g Φ n F _ _ _ fp _ Z _ _ ⟨G, hΦ, hnm, hex, T.plain.2.2, ⟨T.plain.1, T.plain.2.1⟩, ho ▸ room', R⟩ hw ⟨exc, fun fl fl' s' ρ' fp' hq hf hl hr => ?_, fun c' C' e s' hc O' x => ?_⟩
  · have hstep : Step g s s' := by
      obtain ⟨h', tk, rfl⟩ := hl
      exact ⟨h', tk, rfl, fun b o e => hr.held b o (by rw [hH]; exact e), hr.stays⟩
    cases fl with
    | next =>
      have hf' : fl' = .next := hf
      subst hf'
      exact nor _ _ _ _ [] hq hstep .none fun _ => ⟨List.nodup_nil, fun _ ha => (nomatch ha)⟩
    | ret d fr =>
      obtain ⟨v, bs, rfl, h1, h2⟩ := hf
      exact nor _ _ _ _ bs hq hstep h1 fun q => ⟨(h2 q).1, fun a ha => hH ▸ (h2 q).2 a ha⟩
  have hfresh : s.heap.get? s.heap.objs.size = none := fresh_size _
  obtain ⟨s₂, ρ', fp', l1, hr, l2, hx⟩ := x
  -- what stood at the start stands where it left
  have kb : (gone g outer s.heap).StaysIn s₂.heap := fun b o e => by
    obtain ⟨h1, h2, h3⟩ := gone_of e
    rcases hr.held b o (by rw [hH]; exact h1) with q | ⟨hn, sl, q⟩
    · exact q
    · rcases h3 with ⟨o', h3⟩ | ⟨vs, h3⟩
      · have e1 := stays b o' h3
        rw [h1] at e1; cases e1
        exact hr.stays b o h3
      · exact absurd h3 (hn vs)
  have hnL : ∀ b ∈ (F.env sc :: outer).filterMap (·.frame), (gone g outer s.heap).get? b = none := fun b hb => by
    cases hq : (gone g outer s.heap).get? b with
    | none => rfl
    | some o' =>
      obtain ⟨h1, h2, _⟩ := gone_of hq
      have hb' : b = F.L ∨ b ∈ outer.filterMap (·.frame) := by
        rw [List.filterMap_cons] at hb
        rcases List.mem_cons.mp hb with q | q
        · exact .inl q
        · exact .inr q
      rcases hb' with q | q
      · rw [q, hL, hfresh] at h1; cases h1
      · exact absurd q h2
  have ff := hr.frames
  rw [ho] at ff
  have upS : ∀ h'', s₂.heap.UpToSlots h'' → s.heap.UpToSlots h'' := fun h'' hu b o e hn => by
    rcases hr.held b o (by rw [hH]; exact e) with q | ⟨_, sl, q⟩
    · exact hu b o q hn
    · obtain ⟨sl', q'⟩ := hu b _ q hn
      exact ⟨sl', q'⟩
  have fin : ∀ h'' a0, Heap.FlyingW (gone g outer s.heap) outer e (.ref C') a0 h'' → s₂.heap.UpToSlots h'' → E (.ref e) { s' with heap := h'' } := fun h'' a0 hf hu => by
    refine hE c' C' e a0 _ hc O' ?_ hf (upS _ hu)
    obtain ⟨hh, tk', e1⟩ := l1.trans l2
    exact ⟨h'', tk', by rw [e1]⟩
  rcases hx with ⟨ws, hm⟩ | ⟨hf, hu⟩
  · exact wpAny_leaves_madeW (base := gone g outer s.heap) (h := s₂.heap) (Around.frames_deeper room.frames) rfl kb (frames_to ff hnL) hm fun h'' t hfl _ _ hup => fin h'' _ hfl ((Heap.UpToSlots.of_keeps hm.keeps).trans hup)
  · rw [ho] at hf
    have up : ∀ b o, (gone g outer s.heap).get? b = some o → (gone g (F.env sc :: outer) s₂.heap).get? b = some o := fun b o e => by
      have hb : b ∉ (F.env sc :: outer).filterMap (·.frame) := fun q => by rw [hnL b q] at e; cases e
      obtain ⟨_, _, h3⟩ := gone_of e
      have e2 := kb b o e
      rcases h3 with ⟨o', h3⟩ | ⟨vs, h3⟩
      · have e3 := hr.stays b o' h3
        rw [e2] at e3; cases e3
        exact gone_base h3 hr.stays hb
      · exact gone_fields e2 h3 hb
    have non : ∀ b, (gone g (F.env sc :: outer) s₂.heap).get? b = none → (gone g outer s.heap).get? b = none := fun b hb => by
      cases hq : (gone g outer s.heap).get? b with
      | none => rfl
      | some o => rw [up b o hq] at hb; cases hb
    refine fly_leave (Around.frames_deeper room.frames) rfl hf fun h'' a0 hfl hup => fin h'' a0 ?_ (hu.trans hup)
    obtain ⟨k1, k2, k3, oe, vs', T', oT, ts, he, hc, hd, h1, hnT, hTe, hT, hdT, h3⟩ := hfl
    exact ⟨fun b o e => k1 b o (up b o e), non _ k2, frames_to k3 fun b hb => gone_at hb, oe, vs', T', oT, ts, he, hc, hd, h1, non _ hnT, hTe, hT, hdT, h3⟩

theorem fn_has {sp : Sp} (G : Gd g) (T : FnAt fname g f k m fa name params stmts sc pm cd doc o) (X : SemSs fname sc stmts body) (hf : f < 500)
    (hnm : ∀ f, f < 1000 → fname f ≠ Str.empty → ∃ fa o fd, g.mg (fname f) = some (.ref fa) ∧ g.base.get? fa = some o ∧ o.data = .func fd) (hex : ∀ c, 2000 ≤ c → c ≤ 2005 → ∃ C, IsExc g (fname c) C) (exc : ∀ c ds, sp ds (.ex c) → 2000 ≤ c ∧ c ≤ 2005)
    (hy : Yes (Spec fname g n) body k m sp) : Has (Spec fname g (n + 1)) f sp := by
  constructor
  · intro ds P K hs hk
    obtain ⟨hl, hw⟩ := hy ds _ hs
    unfold Spec
    rw [if_neg (by omega), if_neg (by omega)]
    exact ⟨fa, T.named, ⟨o, _, T.at', T.data⟩, fun A s vs as outer Q E room stays frames r hQ => fn_run G T X (fun _ _ _ h => h) hnm hex hl hw (fun _ z => z.elim) room stays frames r (fun v s' d fr bs h => hQ v s' d fr bs (hk d fr h)) fun _ _ _ _ _ z => z.elim⟩
  · intro ds c K hs hk
    obtain ⟨hl, hw⟩ := hy ds _ hs
    obtain ⟨C, O⟩ := hex c (exc c ds hs).1 (exc c ds hs).2
    unfold Spec
    rw [if_neg (by omega), if_pos (by omega)]
    refine ⟨c, C, fa, hk, O, by rw [Nat.add_sub_cancel_left]; exact T.named, fun A s vs as outer C' Q E room stays frames r O' hE => fn_run G T X (fun _ _ _ h => h) hnm hex hl hw (fun c' hc => ⟨C, hc ▸ O⟩) room stays frames r (fun _ _ _ _ _ z => z.elim) fun c' C'' e a0 s' hc O'' hl hfl hup => hE e a0 s' hl ?_ hup⟩
    have hc' : c' = c := hc
    subst hc'
    have e1 := O''.own.own.bound
    have e2 := O'.own.own.bound
    rw [e1] at e2; cases e2; exact hfl
end
end Mine
set_option Elab.async false
set_option maxRecDepth 100000
set_option linter.unusedVariables false
namespace Mine
open PySem PySem.Calls PyProof.Rows

section
variable {fname : Nat → Str} {g : Gx} {Φ : Calls} {n : Nat} {F : Fm} {sc : Scope} {A : Around} {s s' : Shared} {ρ : Vars} {fp : Nat → List Addr} {h h' : Heap}

theorem Rel.forget (R : Rel g F sc h ρ fp) (i : Nat) : Rel g F sc h (ρ.set i .unset) (fun j => if j = i then [] else fp j) := by
  have hne : ∀ j, j ≠ i → (ρ.set i .unset)[j]? = ρ[j]? := fun j h => by simp [List.getElem?_set, Ne.symm h]
  have hi : ∀ d, (ρ.set i .unset)[i]? ≠ some (.val d) ∧ (ρ.set i .unset)[i]? ≠ some (.own d) := fun d => by
    rw [List.getElem?_set]; simp only [if_true]
    constructor <;> split <;> simp
  refine ⟨R.stays, R.held, R.frames, R.ns, R.hL, R.cells, R.cnd, R.ccov, by simpa using R.len, R.nd, fun j d e => ?_, fun j e => ?_, fun j d e => ?_⟩
  · by_cases hj : j = i
    · subst hj; rcases e with e | e
      · exact absurd e (hi d).1
      · exact absurd e (hi d).2
    · rw [hne j hj] at e; rw [if_neg hj]; exact R.vars j d e
  · by_cases hj : j = i
    · rw [if_pos hj]
    · rw [hne j hj] at e; rw [if_neg hj]; exact R.nofp j e
  · by_cases hj : j = i
    · subst hj; exact absurd e (hi d).2
    · rw [hne j hj] at e
      obtain ⟨o1, o2, o3⟩ := R.own j d e
      simp only [if_neg hj]
      refine ⟨o1, o2, fun k hk a ha q => ?_⟩
      by_cases hki : k = i
      · rw [if_pos hki] at q; cases q
      · rw [if_neg hki] at q; exact o3 k hk a ha q

theorem VarIs.same (R : Rel g F sc h ρ fp) {a : Addr} {vs : Array Value} {ty : String} (o : SeqO h ty a vs) (hs : Heap.SameBut a h h') {y : Str} {w : Value} (hv : VarIs (F.env sc) h y w) : VarIs (F.env sc) h' y w := by
  obtain ⟨k, sl, e, _⟩ := o
  have hpr : ¬ Priv F a := fun q => R.privData q e vs k rfl
  rcases hv with ⟨hl, m, hm, hv⟩ | ⟨hl, c, o2, h1, h2, h3⟩
  · exact .inl ⟨hl, m, Heap.Ns.sameBut hm hs (fun q => hpr (.inl q.symm)), hv⟩
  · exact .inr ⟨hl, c, o2, h1, (hs.2 c (fun q => hpr (.inr ⟨_, mem_of_look h1, q.symm⟩))).trans h2, h3⟩
theorem stay_list {a : Addr} {vs : Array Value} (o : SeqO h "list" a vs) (hs : Heap.SameBut a h h') : StayBut (· = a) h h' := by
  obtain ⟨k, sl, e, _⟩ := o
  exact ⟨fun b o e hb => .inl ((hs.2 b hb).trans e), fun b o' hb e' => .inl (by
    rw [show b = a from hb, e] at e'; cases e'; rfl)⟩

theorem seq_at {k n : Nat} (h : k < n) : seqIndex? (k : Int) n = some k := by
  unfold seqIndex?
  simp only [show ¬ ((k : Int) < 0) by omega, if_false]
  first | (rw [if_pos (by omega)]; simp) | (rw [if_neg (by omega)]; simp) | (simp; omega)

theorem tup_at {t : Addr} {vs : Array Value} {k kk : Nat} {x : Str} {p q sp : Pos} {u : Value} {Q E : Value → Shared → Prop} (T : At fname g Φ n F sc A s ρ fp) (hv : VarIs (F.env sc) s.heap x (.ref t)) (hd : (x == ("__debug__" : Str)) = false)
    (o : SeqO s.heap "tuple" t vs) (hu : vs[k]? = some u) (hk : k < 1000) (hQ : ∀ tk, Q u { s with toks := tk }) : wpAny (model g.p g.w) A (eval (.Subscript (.Name x p) (.Constant (.int (k : Int)) kk q) sp) (F.env sc)) Q E s := by
  obtain ⟨en, sl, e, _⟩ := o
  refine Subscript_ (load_var T hv hd (wpAny_Constant_int ?_))
  have hlt : k < vs.size := (Array.getElem?_eq_some_iff.mp hu).1
  refine tail_any (T := "tuple") ⟨_, e, rfl⟩ slot_tuple_getitem.lookup ?_ rfl
  exact PyProof.Rows.getItem_tuple (j := k) ⟨_, e, rfl, _, rfl⟩ (by omega) (by omega) (seq_at hlt) hu (hQ _)

noncomputable def isRung (x xp xf xs : Str) (p apos pos epos pp q sp pf ps pos2 ps' pp' q' sp' pos3 : Pos) (kk kk' : Nat) (r : List Stmt) : List Stmt :=
  .Expr (.Call (.Attribute (.Name x p) "append" apos) [.Subscript (.Name xp pp) (.Constant (.int 0) kk q) sp] [] pos) epos ::
  .Assign [.Name xf pf] (.Name xs ps) pos2 :: .Assign [.Name xs ps'] (.Subscript (.Name xp pp') (.Constant (.int 1) kk' q') sp') pos3 :: r

theorem sem_rung {x xp xf xs : Str} {p apos pos epos pp q sp pf ps pos2 ps' pp' q' sp' pos3 : Pos} {kk kk' : Nat} {r : List Stmt} {y : Ss} {st pr fi se : Nat}
    (hx : (slots sc)[st]? = some x) (hxp : (slots sc)[pr]? = some xp) (hxf : (slots sc)[fi]? = some xf) (hxs : (slots sc)[se]? = some xs)
    (hd : (x == ("__debug__" : Str)) = false) (hdp : (xp == ("__debug__" : Str)) = false) (hds : (xs == ("__debug__" : Str)) = false) (hl : (apos.endLine == pos.line) = true)
    (hkf : sc.names.lookup xf = some .local ∨ sc.names.lookup xf = some .cell) (hks : sc.names.lookup xs = some .local ∨ sc.names.lookup xs = some .cell)
    (h1 : st ≠ pr) (h2 : st ≠ fi) (h3 : st ≠ se) (h4 : pr ≠ fi) (h5 : pr ≠ se) (h6 : fi ≠ se) (hr : SemSs fname sc r y) :
    SemSs fname sc (isRung x xp xf xs p apos pos epos pp q sp pf ps pos2 ps' pp' q' sp' pos3 kk kk' r) (.cons (.rung st pr fi se) y) := by
  intro g Φ n F A s ρ fp Q Z R E T h P
  obtain ⟨ls, a, b, c, e1, e2, e3, hz, hQ⟩ := h
  obtain ⟨y1, v1, hy1, hv1, r1⟩ := T.rel.vars st _ (.inr e1)
  rw [hx] at hy1; cases hy1
  obtain ⟨y2, v2, hy2, hv2, r2⟩ := T.rel.vars pr _ (.inr e2)
  rw [hxp] at hy2; cases hy2
  have own1 := T.rel.own st _ e1
  have own2 := T.rel.own pr _ e2
  obtain ⟨la, lvs, las, rfl, hf1, lo, lit⟩ := r1
  obtain ⟨ta, tvs, rfl, to, va, ws, asa, bs, htl, hf2, ra, vb, ws', asb, cs', rfl, rfl, rb, rfl, rfl⟩ := r2
  rw [List.append_nil] at hf2
  rw [hf1] at own1
  rw [hf2] at own2
  have hva : tvs[0]? = some va := by rw [← Array.getElem?_toList, htl]; rfl
  have hvb : tvs[1]? = some vb := by rw [← Array.getElem?_toList, htl]; rfl
  obtain ⟨lk, lsl, le, lsz⟩ := id lo
  have hz' : (lvs.push va).size ≤ sizeLine := by rw [Array.size_push, ← Array.length_toList, lit.length]; exact hz
  refine wpAny_execs_cons (wpAny_Expr_any (wpAny_Call_append rfl rfl hl rfl (load_var T hv1 hd ⟨la, lvs, rfl, ⟨_, lk, le, rfl, rfl, rfl⟩, tup_at (k := 0) T hv2 hdp to hva (by decide) fun tk => append_heap (s := { s with toks := tk }) le rfl rfl lsz ?_⟩)) (not_interactive T) rfl)
  have hs := Heap.SameBut.update s.heap la (Obj.mapSeq (·.push va))
  have lo' := seq_update (f := (·.push va)) lo hz'
  -- the pair is let go
  have e1' : (ρ.set pr .unset)[st]? = some (.own (.list ls)) := by rw [List.getElem?_set_ne (Ne.symm h1)]; exact e1
  have dis21 : ∀ z ∈ asa ++ asb, z ∉ la :: las := fun z hz q => own2.2.2 st h1 z hz (by rw [hf1]; exact q)
  have nda := (List.nodup_append.mp own2.1)
  have R₁ := (T.rel.forget pr).mutate e1' (by simp only [if_neg h1]; exact hf1) hs lo' (xs' := ls ++ [a]) (as' := las ++ (asa ++ [])) (by rw [Array.toList_push]; exact Rps.append lit (.cons ra .nil)) ?_ (fun z hz => ?_) (fun j hj z hz => ?_)
  rotate_left
  · rw [List.append_nil]
    obtain ⟨n1, n2⟩ := List.nodup_cons.mp own1.1
    refine List.nodup_cons.mpr ⟨fun q => ?_, List.nodup_append.mpr ⟨n2, nda.1, fun z hz z' hz' hzz => ?_⟩⟩
    · rcases List.mem_append.mp q with q | q
      · exact n1 q
      · exact dis21 la (List.mem_append_left _ q) (.head _)
    · subst hzz; exact dis21 z (List.mem_append_left _ hz') (.tail _ hz)
  · rw [List.append_nil] at hz
    rcases List.mem_append.mp hz with hz | hz
    · exact own1.2.1 z (.tail _ hz)
    · exact own2.2.1 z (List.mem_append_left _ hz)
  · rw [List.append_nil] at hz
    by_cases hjp : j = pr
    · rw [if_pos hjp]; exact fun q => (nomatch q)
    · rw [if_neg hjp]
      rcases List.mem_append.mp hz with hz | hz
      · exact own1.2.2 j hj z (.tail _ hz)
      · exact own2.2.2 j hjp z (List.mem_append_left _ hz)
  have hv2' : VarIs (F.env sc) _ xp (.ref ta) := VarIs.same T.rel lo hs hv2
  have to' : SeqO _ "tuple" ta tvs := to.stay (stay_list lo hs) (fun q => by
    obtain ⟨_, _, te, _⟩ := to
    rw [show ta = la from q, le] at te; injection te with te; injection te with te; exact absurd te (by decide))
  have rb' : Rp _ vb b asb := rb.stay (stay_list lo hs) fun z hz q => dis21 z (List.mem_append_right _ hz) (by rw [show z = la from q]; exact .head _)
  clear lo lo' hs
  generalize s.heap.update la (Obj.mapSeq (·.push va)) = H₁ at *
  generalize hfp₁ : (fun j => if j = st then la :: (las ++ (asa ++ [])) else (fun j => if j = pr then [] else fp j) j) = fp₁ at R₁
  have hb₁ : ∀ j, ∀ z ∈ asb, z ∉ fp₁ j := fun j z hz q => by
    rw [← hfp₁] at q
    simp only [List.append_nil] at q
    by_cases hjt : j = st
    · rw [if_pos hjt] at q
      rcases List.mem_cons.mp q with q | q
      · exact dis21 z (List.mem_append_right _ hz) (by rw [q]; exact .head _)
      · rcases List.mem_append.mp q with q | q
        · exact dis21 z (List.mem_append_right _ hz) (.tail _ q)
        · exact nda.2.2 z q z hz rfl
    · rw [if_neg hjt] at q
      by_cases hjp : j = pr
      · rw [if_pos hjp] at q; cases q
      · rw [if_neg hjp] at q; exact own2.2.2 j hjp z (List.mem_append_right _ hz) q
  have e3' : ((ρ.set pr .unset).set st (.own (.list (ls ++ [a]))))[se]? = some (.own c) := by rw [List.getElem?_set_ne h3, List.getElem?_set_ne h5]; exact e3
  generalize (ρ.set pr .unset).set st (.own (.list (ls ++ [a]))) = ρ₁ at *
  obtain ⟨y3, v3, hy3, hv3, r3⟩ := R₁.vars se _ (.inr e3')
  rw [hxs] at hy3; cases hy3
  have own3 := R₁.own se _ e3'
  -- first = second
  have T₁ := T.rel' (s' := { s with heap := H₁, toks := tk }) R₁
  refine wpAny_execs_cons (wpAny_Assign_Name (load_var T₁ hv3 hds (store_rule (i := fi) T₁ hkf fun H₂ tk₂ S₂ => ?_)) rfl)
  have dis3 : ∀ j, ∀ z ∈ fp₁ se, z ∉ (if j = se then [] else fp₁ j) := fun j z hz q => by
    by_cases hjs : j = se
    · rw [if_pos hjs] at q; cases q
    · rw [if_neg hjs] at q; exact own3.2.2 j hjs z hz q
  have R₂ := (R₁.forget se).put hxf S₂ r3 (c := .own c) (.inr rfl) (fun j e hj he => dis3 j) (fun _ => ⟨own3.1, own3.2.1, fun j hj => dis3 j⟩)
  -- second = pair[1]
  refine wpAny_execs_cons (wpAny_Assign_Name (tup_at (k := 1) (T.rel' (s' := { s with heap := H₂, toks := tk₂ }) R₂) (S₂.oth _ _ (slots_ne R₁.nd hxf hxp h4) hv2') hdp (to'.stay (R₁.stayBut S₂.keep) fun q => by
    obtain ⟨_, _, te, _⟩ := to'
    exact R₁.privData q te _ _ rfl) hvb (by decide) fun tk₃ => ?_) rfl)
  refine store_rule (i := se) (T.rel' (s' := { s with heap := H₂, toks := tk₃ }) R₂) hks fun H₃ tk₄ S₃ => ?_
  have hdb : ∀ j, ∀ z ∈ asb, z ∉ (if j = fi then fp₁ se else (fun j => if j = se then [] else fp₁ j) j) := fun j z hz q => by
    by_cases hjf : j = fi
    · rw [if_pos hjf] at q; exact hb₁ se z hz q
    · rw [if_neg hjf] at q
      by_cases hjs : j = se
      · simp only [if_pos hjs] at q; cases q
      · simp only [if_neg hjs] at q; exact hb₁ j z hz q
  have R₃ := R₂.put hxs S₃ (R₁.rpStay S₂.keep rb') (c := .own b) (.inr rfl) (fun j e hj he => hdb j) (fun _ => ⟨nda.2.1, fun z hz => own2.2.1 z (List.mem_append_right _ hz), fun j _ => hdb j⟩)
  have eρ : (((ρ₁.set se .unset).set fi (.own c)).set se (.own b)) = (ρ₁.set fi (.own c)).set se (.own b) := by
    rw [List.set_comm _ _ (Ne.symm h6), List.set_set]
  rw [eρ] at R₃
  exact hr g Φ n F A { s with heap := H₃, toks := tk₄ } _ _ Q Z R E (T.rel' (s' := { s with heap := H₃, toks := tk₄ }) R₃) hQ (P.after ⟨H₃, tk₄, rfl⟩)
end
end Mine
set_option Elab.async false
set_option maxRecDepth 100000
set_option linter.unusedVariables false
namespace Mine
open PySem PySem.Calls PyProof.Rows

noncomputable def Kp (h h' : Heap) : Prop := ∀ b o, h.get? b = some o → h'.get? b = some o
theorem Kp.trans {h₁ h₂ h₃ : Heap} (x : Kp h₁ h₂) (y : Kp h₂ h₃) : Kp h₁ h₃ := fun b o e => y b o (x b o e)
noncomputable def clOf (env : Env) : List (Str × NameKind) → List (Str × Addr) → List (Str × Addr)
  | [], acc => acc
  | (n, k) :: r, acc => if (k == .free) = true then clOf env r ((n, (env.cells.lookup n).getD 0) :: acc) else clOf env r acc

theorem mem_free {y : Str} : ∀ {l : List (Str × NameKind)}, l.lookup y = some .free → (y, NameKind.free) ∈ l
  | [], q => by cases q
  | p :: l, q => by
    rw [List.lookup_cons] at q
    by_cases hq : (y == p.1) = true
    · simp only [hq, Option.some.injEq] at q; rw [eq_of_beq hq, ← q]; exact .head _
    · simp only [hq] at q; exact .tail _ (mem_free q)
theorem kp_refl (s : Shared) : Keeps s s := ⟨s.heap, s.toks, rfl, fun _ _ e => e⟩
theorem kp_toks {s s' : Shared} (h : Keeps s s') (tk : Nat) : Keeps s { s' with toks := tk } := by
  obtain ⟨h', tk', rfl, k⟩ := h; exact ⟨h', tk, rfl, k⟩
theorem look_free {env : Env} : ∀ {names : List (Str × NameKind)} {x : Str}, names.lookup x = some .free → env.scope.kind = .function → env.kindOf x = some .cell →
    (names.map fun (n, k) => if (k == NameKind.free && env.scope.kind == .function && env.kindOf n == some .cell) then (n, NameKind.cell) else (n, k)).lookup x = some .cell
  | [], _, h, _, _ => by simp at h
  | (n, k) :: r, x, h, hf, hc => by
    have ih := @look_free env r x
    show List.lookup x ((if (k == NameKind.free && env.scope.kind == .function && env.kindOf n == some .cell) = true then (n, NameKind.cell) else (n, k)) :: _) = _
    cases hx : x == n with
    | true =>
      simp only [List.lookup_cons, hx] at h
      cases h
      have e := eq_of_beq hx
      subst e
      rw [if_pos (by rw [hf, hc]; decide)]
      simp
    | false =>
      simp only [List.lookup_cons, hx] at h
      by_cases hq : (k == NameKind.free && env.scope.kind == .function && env.kindOf n == some .cell) = true
      · rw [if_pos hq]; simp only [List.lookup_cons, hx]; exact ih h hf hc
      · rw [if_neg hq]; simp only [List.lookup_cons, hx]; exact ih h hf hc

theorem closure_pure {env : Env} {scope : Scope} (h : ∀ p ∈ scope.names, p.2 = .free → ∃ c, env.cells.lookup p.1 = some c) : closureFor scope env = pure (clOf env scope.names []) := by
  have key : ∀ (names : List (Str × NameKind)) (acc : List (Str × Addr)), (∀ p ∈ names, p.2 = .free → ∃ c, env.cells.lookup p.1 = some c) →
      (forIn names acc (fun (x : Str × NameKind) (cs : List (Str × Addr)) => if (x.2 == .free) = true then (do let a ← cellOf env x.1; pure (ForInStep.yield ((x.1, a) :: cs)) : Sem _) else pure (ForInStep.yield cs))) = pure (clOf env names acc) := by
    intro names
    induction names with
    | nil => intro acc _; rfl
    | cons p r ih =>
      intro acc hp
      obtain ⟨n, k⟩ := p
      rw [List.forIn_cons]
      unfold clOf
      by_cases hk : (k == NameKind.free) = true
      · obtain ⟨c, hc⟩ := hp (n, k) (.head _) (eq_of_beq hk)
        simp only [hk, if_true, cellOf, hc, pure_bind, Option.getD_some]
        exact ih _ fun q hq => hp q (.tail _ hq)
      · simp only [hk, pure_bind]
        exact ih _ fun q hq => hp q (.tail _ hq)
  unfold closureFor
  have := key scope.names [] h
  simp only [bind_pure]
  exact this

theorem clOf_look {env : Env} {y : Str} {c : Addr} (hc : env.cells.lookup y = some c) : ∀ (names : List (Str × NameKind)) (acc : List (Str × Addr)), (∀ c', acc.lookup y = some c' → c' = c) → (acc.lookup y = some c ∨ (y, NameKind.free) ∈ names) → (clOf env names acc).lookup y = some c
  | [], acc, _, h => by
    rcases h with h | h
    · exact h
    · cases h
  | (n, k) :: r, acc, ha, h => by
    unfold clOf
    by_cases hk : (k == NameKind.free) = true
    · rw [if_pos hk]
      by_cases hn : (y == n) = true
      · have e := eq_of_beq hn
        subst e
        refine clOf_look hc r _ ?_ (.inl ?_)
        · intro c' q; rw [List.lookup_cons] at q; simp only [hn, hc, Option.getD_some, Option.some.injEq] at q; exact q.symm
        · rw [List.lookup_cons]; simp only [hn, hc, Option.getD_some]
      · refine clOf_look hc r _ ?_ ?_
        · intro c' q; rw [List.lookup_cons] at q; simp only [hn] at q; exact ha c' q
        · rcases h with h | h
          · left; rw [List.lookup_cons]; simp only [hn]; exact h
          · rcases List.mem_cons.mp h with q | q
            · cases q; exact absurd (by simp) hn
            · exact .inr q
    · rw [if_neg hk]
      refine clOf_look hc r acc ha ?_
      rcases h with h | h
      · exact .inl h
      · rcases List.mem_cons.mp h with q | q
        · cases q; exact absurd (by decide) hk
        · exact .inr q

theorem look_glob {env : Env} : ∀ {names : List (Str × NameKind)} {x : Str}, names.lookup x = some .globalImplicit →
    (names.map fun (n, k) => if (k == NameKind.free && env.scope.kind == .function && env.kindOf n == some .cell) then (n, NameKind.cell) else (n, k)).lookup x = some .globalImplicit
  | [], _, h => by simp at h
  | (n, k) :: r, x, h => by
    have ih := @look_glob env r x
    show List.lookup x ((if (k == NameKind.free && env.scope.kind == .function && env.kindOf n == some .cell) = true then (n, NameKind.cell) else (n, k)) :: _) = _
    cases hx : x == n with
    | true =>
      simp only [List.lookup_cons, hx] at h
      cases h
      simp [List.lookup_cons, hx]
    | false =>
      simp only [List.lookup_cons, hx] at h
      by_cases hc : (k == NameKind.free && env.scope.kind == .function && env.kindOf n == some .cell) = true
      · rw [if_pos hc]; simp only [List.lookup_cons, hx]; exact ih h
      · rw [if_neg hc]; simp only [List.lookup_cons, hx]; exact ih h

theorem cell_load {fname : Nat → Str} {g : Gx} {Φ : Calls} {n : Nat} {F : Fm} {sc scope : Scope} {A : Around} {s₀ s : Shared} {ρ : Vars} {fp : Nat → List Addr} {C : Addr} {y : Str} {pos : Pos} {i : Nat} {d : D} {Q E : Value → Shared → Prop}
    (T : At fname g Φ n F sc A s₀ ρ fp) (up : Kp s₀.heap s.heap) (hk : scope.kind = .function) (hi : (slots sc)[i]? = some y) (hy : scope.names.lookup y = some .free) (hc : sc.names.lookup y = some .cell) (hd : (y == ("__debug__" : Str)) = false)
    (hz : ρ[i]? = some (.val d)) (hQ : ∀ v, Rp s.heap v d (fp i) → Q v s) : wpAny (model g.p g.w) A (eval (.Name y pos) (compEnvC scope (clOf (F.env sc) scope.names []) C (F.env sc))) Q E s := by
  obtain ⟨c, hcl⟩ := T.rel.ccov y hc
  obtain ⟨y', v, hy', hv, r⟩ := T.rel.vars i _ (.inl hz)
  rw [hi] at hy'; cases hy'
  rcases hv with ⟨hl, _⟩ | ⟨hl, c', o, h1, h2, h3⟩
  · rw [show (F.env sc).kindOf y = sc.names.lookup y from rfl, hc] at hl; cases hl
  · rw [show (F.env sc).cells = F.cl from rfl, hcl] at h1; cases h1
    exact wpAny_Name (wpAny_loadName_cell hk (look_free hy T.kind hc) (clOf_look (env := F.env sc) hcl _ _ (fun _ q => by cases q) (.inr (mem_free hy))) ⟨o, up c o h2, h3⟩ (hQ v (r.ext (.of_keep up)))) hd

theorem rps_strs {h : Heap} : ∀ (l : List (Str × Tok)), (∀ p ∈ l.map (·.1), p.cps.size ≤ sizeLine) → Rps h (strValues l) ((l.map (·.1)).map .str) [] := by
  intro l
  induction l with
  | nil => exact fun _ => .nil
  | cons p l ih => exact fun hz => Rps.cons (as := []) (bs := []) (.str _ _ (hz _ (.head _))) (ih fun q hq => hz q (.tail _ hq))

section
variable {fname : Nat → Str} {g : Gx} {Φ : Calls} {n : Nat} {F : Fm} {sc : Scope} {A : Around} {s s' : Shared} {ρ : Vars} {fp : Nat → List Addr} {h h' : Heap}

theorem split_call {x : Str} {t u : Tok} {Q E : Value → Shared → Prop} (hx : x.length ≤ 5000) (hn : (Txt.split x ⟨#[46]⟩).length ≤ 5000)
    (hq : ∀ l tk, l.map (·.1) = Txt.split x ⟨#[46]⟩ → Q (.ref s.heap.objs.size) { s with heap := s.heap.push { cls := .type "list", data := .seq (strValues l).toArray }, toks := tk }) :
    wpAny (model g.p g.w) A (call (.builtin "str.split") [.str x t, .str ⟨#[46]⟩ u]) Q E s := by
  have hz : x.length ≤ sizeLine := Nat.le_trans hx (by decide)
  have hlen : (Txt.split x ⟨#[46]⟩).length ≤ sizeLine := Nat.le_trans hn (by decide)
  cases h1 : (decide (x.length < (⟨#[46]⟩ : Str).length) || decide (Builtin.Str.strKind x < Builtin.Str.strKind ⟨#[46]⟩))
  · cases hf : (Builtin.Str.occurrences x ⟨#[46]⟩ 0 x.length (x.length + 1)).isEmpty
    · have es : Txt.split x ⟨#[46]⟩ = Builtin.Str.partsBetween x (Builtin.Str.occurrences x ⟨#[46]⟩ 0 x.length (x.length + 1)) (⟨#[46]⟩ : Str).length := (if_neg (ne_true_of_eq_false h1)).trans (if_neg (ne_true_of_eq_false hf))
      refine call_meets PySem.F.slot_str_split (typeIs_str _ _ _) PySem.F.entry_str_split (PySem.F.args_str_split_2 _ _) (meets_str_split_sep x ⟨#[46]⟩ t u h1 rfl hf hz (by rw [← es]; exact hlen)) ?_
      show wants Q E _ { s with toks := _, heap := s.heap.push { cls := .type "list", data := .seq (strsFrom s.toks (Builtin.Str.partsBetween x (Builtin.Str.occurrences x ⟨#[46]⟩ 0 x.length (x.length + 1)) (⟨#[46]⟩ : Str).length)).toArray } }
      rw [strsFrom_eq]
      exact hq (numbered s.toks _) _ ((numbered_texts _ _).trans es.symm)
    · exact call_meets PySem.F.slot_str_split (typeIs_str _ _ _) PySem.F.entry_str_split (PySem.F.args_str_split_2 _ _) (meets_str_split_not_found x ⟨#[46]⟩ t u h1 rfl hf)
        (hq [(x, t)] s.toks ((if_neg (ne_true_of_eq_false h1)).trans (if_pos hf)).symm)
  · exact call_meets PySem.F.slot_str_split (typeIs_str _ _ _) PySem.F.entry_str_split (PySem.F.args_str_split_2 _ _) (meets_str_split_cannot_occur x ⟨#[46]⟩ t u h1)
      (hq [(x, t)] s.toks (if_pos h1).symm)

theorem text_method {o e : Expr} {name : Str} {id : String} {apos pos : Pos} {Q E : Value → Shared → Prop} {env : Env} (hbase : attributeBase o name env (eval o env) = eval o env) (hs : starEach [e] env = [(false, eval e env)]) (hline : (apos.endLine == pos.line) = true)
    (slot : Slot "str" name id) (ty : typeOf (.builtin id) = pure (.type "method_descriptor"))
    (h : wpAny (model g.p g.w) A (eval o env) (fun ov s₁ => ∃ x t, ov = .str x t ∧ wpAny (model g.p g.w) A (eval e env) (fun v s₂ => wpAny (model g.p g.w) A (call (.builtin id) [.str x t, v]) Q E s₂) E s₁) E s) :
    wpAny (model g.p g.w) A (eval (.Call (.Attribute o name apos) [e] [] pos) env) Q E s := by
  refine Call_method1 hbase hs hline (wpAny_mono h (fun ov s₁ h₁ => ?_) fun _ _ e => e)
  obtain ⟨x, t, rfl, h₁⟩ := h₁
  exact ⟨"str", id, PySem.F.plainAttrs_str, slot, ty, typeIs_str _ _ _, (fun _ e => nomatch e), Calls.callWith_builtin rfl (Calls.evalArgs_plain (Calls.spliced_cons (wpAny_mono h₁ (fun _ _ h₂ => Calls.spliced_nil h₂) fun _ _ e => e)))⟩

theorem sem_split {z : Str} {zp apos pos q : Pos} {kk : Nat} {a : X} (hline : (apos.endLine == pos.line) = true) (he : SemE fname sc (.Name z zp) a) :
    SemE fname sc (.Call (.Attribute (.Name z zp) "split" apos) [.Constant (.str ⟨#[46]⟩) kk q] [] pos) (.split a) := by
  intro g Φ n F A s ρ fp K Q E T h hQ
  refine text_method rfl rfl hline PySem.F.slot_str_split PySem.F.type_str_split (he g Φ n F A s ρ fp _ _ E T h fun v s₁ d f as hk st r fo => ?_)
  obtain ⟨x, rfl, h1, h2, h3, hk'⟩ := onS_inv hk
  obtain ⟨t, rfl, _⟩ := r.str_inv
  refine ⟨x, t, rfl, wpAny_Constant_str (split_call h1 h2 fun l tk hlm => ?_)⟩
  rw [← hlm] at h2 h3 hk'
  have r0 := rps_strs (h := s₁.heap) l fun p hp => Nat.le_trans (h3 p hp) (by decide)
  refine hQ _ _ _ _ [s₁.heap.objs.size] hk' ((st.push _).toks tk) (new_list r0 (by rw [r0.length, List.length_map]; exact Nat.le_trans h2 (by decide)) 0) ?_
  refine FgOk.new T.rel (fun _ => rfl) (fun b hb => ?_) (List.pairwise_singleton _ _)
  rw [List.mem_singleton.mp hb]
  exact st.ext.fresh (fresh_size _)

theorem ints_mem {vs : List Value} {ns : List Int} {as : List Addr} (r : Rps h vs (ns.map .int) as) : ∀ v ∈ vs, ∃ n t, v = .int n t ∧ n ∈ ns := by
  induction ns generalizing vs as with
  | nil => obtain ⟨rfl, _⟩ := r; exact fun _ hv => nomatch hv
  | cons n ns ih =>
    obtain ⟨v, ws, bs, cs, rfl, _, ⟨⟨t, rfl⟩, _⟩, r2⟩ := r
    intro v hv
    rcases List.mem_cons.mp hv with rfl | hv
    · exact ⟨n, t, rfl, .head _⟩
    · obtain ⟨n', t', e, hm⟩ := ih r2 v hv
      exact ⟨n', t', e, .tail _ hm⟩
theorem paired_strs {vs ys : List Value} (hF : Paired (fun (_ y : Value) => ∃ (x : Str) (t' : Tok), y = Value.str x t' ∧ x.length ≤ 10) vs ys) : ∃ l : List (Str × Tok), ys = strValues l ∧ l.length = vs.length ∧ ∀ x ∈ l.map (·.1), x.length ≤ 10 := by
  induction hF with
  | nil => exact ⟨[], rfl, rfl, fun _ h => nomatch h⟩
  | cons x y ih =>
    obtain ⟨x, t', e2, hx⟩ := x
    obtain ⟨l, e3, e4, e5⟩ := ih
    refine ⟨(x, t') :: l, by rw [e2, e3]; rfl, congrArg (· + 1) e4, fun z hz => ?_⟩
    rcases List.mem_cons.mp hz with rfl | hz
    · exact hx
    · exact e5 z hz
theorem sum_le {l : List Str} (h : ∀ x ∈ l, x.length ≤ 10) : (l.map (·.length)).sum ≤ l.length * 10 := by
  induction l with
  | nil => exact Nat.le_refl _
  | cons x l ih =>
    rw [List.map_cons, List.sum_cons, List.length_cons, Nat.succ_mul, Nat.add_comm]
    exact Nat.add_le_add (ih fun y hy => h y (.tail _ hy)) (h x (.head _))
theorem num_text {m : Int} (h0 : 0 ≤ m) (h : m < 10000000000) : (Str.ofString (toString m)).length ≤ 10 := by
  obtain ⟨k, rfl⟩ := Int.eq_ofNat_of_zero_le h0
  have h10 := digits10_le (k := 10) (n := k) (by decide) (by omega)
  show (Str.ofString (toString (k : Int))).cps.size ≤ 10
  rw [← Array.length_toList, PySem.W.KIN.signs_num, List.length_map]
  exact h10

theorem sem_join {x : Str} {np xp ecp px rp cp pos' cq apos pos : Pos} {kc : Nat} {it : Expr} {scope : Scope} {a : X} (hline : (apos.endLine == pos.line) = true) (hr : sc.names.lookup ("reversed" : Str) = some .globalImplicit) (hs : plainE it = true) (he : SemE fname sc it a)
    (hsk : scope.kind = .function) (hcell : ∀ y ∈ scope.names, y.2 ≠ .cell) (hfree : ∀ y ∈ scope.names, y.2 = .free → sc.names.lookup y.1 = some .cell)
    (hnames : ∀ y ∈ scope.names, y.2 = .local → scope.names.lookup y.1 = some .local) (hx : scope.names.lookup x = some .local) (hxd : (x == ("__debug__" : Str)) = false) (hg : scope.names.lookup ("str" : Str) = some .globalImplicit) :
    SemE fname sc (.Call (.Attribute (.Constant (.str ⟨#[46]⟩) kc cq) "join" apos) [.ListComp (.Call (.Name "str" np) [.Name x xp] [] ecp) [⟨.Name x px, .Call (.Name "reversed" rp) [it] [] cp, [], 0⟩] scope pos'] [] pos) (.joinS a) := by
  intro g Φ n F A s ρ fp K Q E T h hQ
  have hclos : closureFor scope (F.env sc) = pure (clOf (F.env sc) scope.names []) := closure_pure fun p hp hk => T.rel.ccov _ (hfree p hp hk)
  refine text_method rfl rfl hline PySem.F.slot_str_join PySem.F.type_str_join (wpAny_Constant_str ⟨_, _, rfl, ?_⟩)
  have T₀ : At fname g Φ n F sc A { s with toks := s.toks + 1 } ρ fp := T.step (T.here.toks _)
  refine wpAny_ListComp_free (fun _ => true) (fun (_ y : Value) => ∃ (x : Str) (t' : Tok), y = Value.str x t' ∧ x.length ≤ 10) hclos hcell hsk hnames hx ?_
  refine typ1 (id := "reversed") T₀ hr rfl (by decide) hs he h fun v s₁ d f as hk' st r fo => ?_
  obtain ⟨ds, rfl, ns, rfl, hnl, hnb, hk⟩ := onL_inv hk'
  obtain ⟨l, vs, en, sl, as', rfl, rfl, e1, sz, itm⟩ := r.list_inv
  have hvl : vs.size = ns.length := by rw [← Array.length_toList, itm.length, List.length_map]
  refine call_reversed_list ⟨_, e1, rfl, en, rfl⟩ ?_
  have hit : (s₁.heap.push (revObj l ((vs.size : Int) - 1))).IsRevIter s₁.heap.objs.size l ((vs.size : Int) - 1) := ⟨_, Heap.get?_push_size _ rfl, rfl, rfl⟩
  refine wpAny_pyIter_revIter (s := { s₁ with heap := s₁.heap.push (revObj l ((vs.size : Int) - 1)) }) hit ?_
  have hI : s₁.heap.get? s₁.heap.objs.size = none := fresh_size _
  have hlI : l ≠ s₁.heap.objs.size := fun q => by rw [q, hI] at e1; cases e1
  have eH : ∀ b o, s₁.heap.get? b = some o → (s₁.heap.push (revObj l ((vs.size : Int) - 1))).get? b = some o := fun b o e => Heap.get?_push_of_some _ e
  have zH : s₁.heap.objs.size < (s₁.heap.push (revObj l ((vs.size : Int) - 1))).objs.size := by rw [Heap.size_push]; exact Nat.lt_succ_self _
  generalize s₁.heap.push (revObj l ((vs.size : Int) - 1)) = H at *
  have upOf : ∀ {h' : Heap}, (∀ b o, b ∉ [s₁.heap.objs.size] → H.get? b = some o → h'.get? b = some o) → Kp s₁.heap h' := fun k b o e => k b o (fun q => by rw [List.mem_singleton.mp q, hI] at e; cases e) (eH b o e)
  refine ⟨s₁.heap.objs.size, _, _, vs.size, _, _, rfl, Walks.listRev T.room.handled _ l hlI vs, by rw [hvl]; exact Nat.le_trans hnl (by decide), ⟨Nat.zero_le _, by simpa using hit, ⟨_, eH _ _ e1, rfl, en, rfl⟩⟩, fun b hb => ?_, ⟨?_, ?_⟩, ?_⟩
  · rcases List.mem_cons.mp hb with rfl | hb
    · exact zH
    · rw [List.mem_singleton.mp hb]; exact Heap.lt_size (eH _ _ e1)
  · intro C i v s₃ m₃ E' hC hP hn hm hk htk
    exact wpAny_pure ⟨rfl, kp_refl s₃⟩
  · intro C i v s₃ m₃ E' hC hP hpv hn hm hk₃ htk
    have hv : v ∈ vs.toList := by
      have : vs.toList[vs.size - 1 - i]? = some v := by simpa using hP
      exact List.mem_of_getElem? this
    obtain ⟨m, t, rfl, hmem⟩ := ints_mem itm v hv
    obtain ⟨b0, b1⟩ := hnb m hmem
    have hst : g.base.StaysIn s₃.heap := fun b o e => upOf hk₃ b o (st.stays b o e)
    have bS := T.gd.blt ("str" : Str) (.type "str") rfl
    refine wpAny_Call_ofName (Name_function_global hsk (look_glob hg) (loadGlobal_builtin (T.gd.glb.keeps hst) bS.1 (T.gd.bns.keeps hst) bS.2 ?_) (by decide))
    refine callWith_type1 (args_cons (wpAny_Name (wpAny_loadName_local hsk (lookup_relabel_local hx) hn hm (args_nil ?_)) hxd) (starEach_cons rfl)) (starEach_cons rfl) rfl
    refine P.str_of_int ?_ ⟨⟨_, _, rfl, num_text b0 b1⟩, kp_toks (kp_refl s₃) _⟩
    by_cases h0 : m.natAbs = 0
    · rw [h0]; decide
    · refine (Nat.log2_lt h0).mpr (Nat.lt_trans (show m.natAbs < 2 ^ 64 by omega) ?_)
      exact Nat.pow_lt_pow_right (by decide) (by decide)
  · intro D h' tk ys vs' hD hl hpl hlen hP hF hk₃
    rw [List.filter_eq_self.mpr fun _ _ => rfl] at hF
    obtain ⟨lst, e3, e4, e5⟩ := paired_strs hF
    have hln : lst.length ≤ 1000 := by rw [e4, hlen, hvl]; exact hnl
    have hsum : ((lst.map (·.1)).map (·.length)).sum + (lst.map (·.1)).length * (⟨#[46]⟩ : Str).length ≤ 16777216 := by
      have := sum_le e5
      rw [List.length_map] at this ⊢
      show _ + _ * 1 ≤ _
      omega
    refine SC.join (l := lst) (by rw [← e3]; simpa using hl) rfl (joinOk_of hsum) fun t' k => ?_
    have q : Step g s s₁ := (T.here.toks (s.toks + 1)).trans st
    refine hQ _ _ _ _ [] (hk _) (q.keep (upOf hk₃) k) (.str _ _ ?_) .ff
    show (Builtin.Str.glued _ _).length ≤ sizeLine
    rw [StrLaws.glued_eq_join]
    exact Nat.le_trans (StrLaws.join_length_le _ _) hsum
end
end Mine
set_option Elab.async false
set_option maxRecDepth 100000
set_option linter.unusedVariables false
namespace Mine
open PySem PySem.Calls PyProof.Rows

theorem swaps_yes {el : Expr} {gs : List Comprehension} {scope : Scope} {pos py : Pos} {y : Str} {line : Nat} {env : Env} (hk : env.scope.kind = .function) (hy : env.kindOf y = some .local) (hl : (py.line == pos.line) = true)
    (ha : (scope.names.any fun p => p.1 == y && (p.2 == .local || p.2 == .cell)) = false) : swapsWith (.ListComp el gs scope pos) (some (.Name y py)) line env = pure true := by
  have hbk : (env.blockKind == .function) = true := by unfold Env.blockKind; rw [hk]; rfl
  show pure (env.blockKind == .function && env.kindOf y == some .local && py.line == pos.line && !(scope.names.any fun p => p.1 == y && (p.2 == .local || p.2 == .cell))) = _
  rw [hbk, hy, hl, ha]; rfl
theorem Ext.but {h₀ h h' : Heap} {a : Addr} (x : Ext h₀ h) (ha : h₀.get? a = none) (k : ∀ b o, b ≠ a → h.get? b = some o → h'.get? b = some o) : Ext h₀ h' := by
  intro b o e
  have hb : b ≠ a := fun q => by rw [q, ha] at e; cases e
  rcases x b o e with q | ⟨hd, sl, q⟩
  · exact .inl (k b o hb q)
  · exact .inr ⟨hd, sl, k b _ hb q⟩
theorem stays_but {base h h' : Heap} {a : Addr} (x : base.StaysIn h) (ha : base.get? a = none) (k : ∀ b o, b ≠ a → h.get? b = some o → h'.get? b = some o) : base.StaysIn h' := fun b o e =>
  k b o (fun q => by rw [q, ha] at e; cases e) (x b o e)
theorem frames_but {base h h' : Heap} {C : Addr} (k : ∀ b o, b ≠ C → h.get? b = some o → h'.get? b = some o) : ∀ {l : List Env}, h.FunFrames base l → C ∉ l.filterMap (·.frame) → h'.FunFrames base l
  | [], _, _ => trivial
  | env :: l, fr, hc => by
    obtain ⟨hk, ⟨L, o, hf, hn, ho, hd⟩, hr⟩ := fr
    rw [List.filterMap_cons, hf] at hc
    exact ⟨hk, ⟨L, o, hf, hn, k L o (fun q => hc (by rw [q]; exact .head _)) ho, hd⟩, frames_but k hr fun q => hc (.tail _ q)⟩
theorem FlyAt.down {b₁ b₂ h : Heap} {l : List Env} {e : Addr} {cls : Value} (up : ∀ b o, b₁.get? b = some o → b₂.get? b = some o) (hl : ∀ b ∈ l.filterMap (·.frame), b₁.get? b = none) (x : FlyAt b₂ l e cls h) : FlyAt b₁ l e cls h := by
  have non : ∀ b, b₂.get? b = none → b₁.get? b = none := fun b hb => by
    cases hq : b₁.get? b with
    | none => rfl
    | some o => rw [up b o hq] at hb; cases hb
  obtain ⟨k1, k2, k3, a0, fl, oe, vs, T, oT, ts, he, hc, hd, h1, hnT, r⟩ := x
  exact ⟨fun b o e => k1 b o (up b o e), non _ k2, frames_to k3 hl, a0, fl, oe, vs, T, oT, ts, he, hc, hd, h1, non _ hnT, r⟩
theorem FlyAt.but {base h h' : Heap} {l : List Env} {e C : Addr} {cls : Value} {m : Str → Option Value} (x : FlyAt base l e cls h) (hC : h.Ns C m) (hb : base.get? C = none) (hl : C ∉ l.filterMap (·.frame)) (k : ∀ b o, b ≠ C → h.get? b = some o → h'.get? b = some o) : FlyAt base l e cls h' := by
  obtain ⟨k1, k2, k3, a0, fl, oe, vs, T, oT, ts, he, hc, hd, h1, hnT, hTe, hT, hdT, h3⟩ := x
  obtain ⟨oC, es, ep, eC, dC, _⟩ := hC
  have ne : ∀ {b : Addr} {o : Obj} {vs : Array Value}, h.get? b = some o → o.data = .fields vs → b ≠ C := fun e1 e2 q => by
    rw [q, eC] at e1; cases e1; rw [dC] at e2; cases e2
  exact ⟨stays_but k1 hb k, k2, frames_but k k3 hl, a0, fl, oe, vs, T, oT, ts, k _ _ (ne he hd) he, hc, hd, h1, hnT, hTe, k _ _ (ne hT hdT) hT, hdT, h3⟩


theorem Rps.anywhere {h h' : Heap} {vs : List Value} {zs : List Int} {as : List Addr} (r : Rps h vs (zs.map .int) as) : Rps h' vs (zs.map .int) [] := by
  induction zs generalizing vs as with
  | nil => obtain ⟨rfl, _⟩ := r; exact .nil
  | cons z zs ih =>
    obtain ⟨v, ws, bs, cs, rfl, _, r1, r2⟩ := r
    exact Rps.cons (as := []) (bs := []) (r1.anywhere rfl) (ih r2)

section
variable {fname : Nat → Str} {g : Gx} {Φ : Calls} {n : Nat} {F : Fm} {sc : Scope} {A : Around} {s s' : Shared} {ρ : Vars} {fp : Nat → List Addr} {h h' : Heap}

theorem Rel.dictBut (R : Rel g F sc h ρ fp) {C : Addr} {m : Str → Option Value} (hC : h.Ns C m) (h1 : F.H C = none) (h2 : g.base.get? C = none) (h4 : C ∉ (F.env sc :: F.outer).filterMap (·.frame)) (k : ∀ b o, b ≠ C → h.get? b = some o → h'.get? b = some o) : Rel g F sc h' ρ fp := by
  obtain ⟨oC, es, ep, eC, dC, skC, _⟩ := hC
  have hL : F.L ≠ C := fun q => h4 (by rw [List.filterMap_cons]; show C ∈ F.L :: _; rw [q]; exact .head _)
  have ne : ∀ {b : Addr} {o : Obj}, h.get? b = some o → (∀ es ep, o.data ≠ .dict es ep) → b ≠ C := fun e hd q => by
    subst q; rw [eC] at e; cases e; exact hd _ _ dC
  have sb : StayBut (· = C) h h' := ⟨fun b o e hb => .inl (k b o hb e), fun b o hb e => .inr (.inr (.inr (by
    rw [show b = C from hb, eC] at e; cases e; exact ⟨_, _, dC, skC⟩)))⟩
  have rp : ∀ {v d as}, Rp h v d as → Rp h' v d as := fun r => r.stay sb fun a ha q => by
    obtain ⟨vs, m, sl, e, _⟩ := r.mem a ha
    exact ne e (fun es ep q' => nomatch q') q
  have nsk : ∀ {m}, h.Ns F.L m → h'.Ns F.L m := fun hn => by
    obtain ⟨o, es, ep, ho, hd, r⟩ := hn
    exact ⟨o, es, ep, k _ _ hL ho, hd, r⟩
  refine ⟨stays_but R.stays h2 k, fun b o e => ?_, frames_but k R.frames h4, ?_, R.hL, fun p hp => ?_, R.cnd, R.ccov, R.len, R.nd, fun i d e => ?_, R.nofp, R.own⟩
  · have hb : b ≠ C := fun q => by rw [q, h1] at e; cases e
    rcases R.held b o e with q | ⟨hd, sl, q⟩
    · exact .inl (k b o hb q)
    · exact .inr ⟨hd, sl, k b _ hb q⟩
  · obtain ⟨m, hm⟩ := R.ns; exact ⟨m, nsk hm⟩
  · obtain ⟨c1, c2, o, w, c3, c4⟩ := R.cells p hp
    exact ⟨c1, c2, o, w, k _ _ (ne c3 (fun es ep q => by rw [c4] at q; cases q)) c3, c4⟩
  · obtain ⟨y, v, hy, hv, r⟩ := R.vars i d e
    refine ⟨y, v, hy, ?_, rp r⟩
    rcases hv with ⟨hl, m, hm, hv⟩ | ⟨hl, c, o, h1, h2, h3⟩
    · exact .inl ⟨hl, m, nsk hm, hv⟩
    · exact .inr ⟨hl, c, o, h1, k _ _ (ne h2 (fun es ep q => by rw [h3] at q; cases q)) h2, h3⟩

theorem gone_up {s₁ : Shared} {l : List Env} (x : Ext s₁.heap h') (hs : g.base.StaysIn h') (b : Addr) (o : Obj) (e : (gone g l s₁.heap).get? b = some o) (hs₁ : g.base.StaysIn s₁.heap) : (gone g l h').get? b = some o := by
  obtain ⟨h1, h2, h3⟩ := gone_of e
  rcases h3 with ⟨o', h3⟩ | ⟨vs, h3⟩
  · have e1 := hs₁ b o' h3
    rw [h1] at e1; cases e1
    exact gone_base h3 hs h2
  · rcases x b o h1 with q | ⟨hn, _⟩
    · exact gone_fields q h3 h2
    · exact absurd h3 (hn vs)

structure CompOk (fname : Nat → Str) (sc scope : Scope) (fn x yb : Str) (f j : Nat) : Prop where
  hkind : scope.kind = .function
  hx : scope.names.lookup x = some .local
  hxd : (x == ("__debug__" : Str)) = false
  hfn : scope.names.lookup fn = some .globalImplicit
  hnm : fname f = fn
  hlt : f < 500
  hne : fn ≠ Str.empty
  hdf : (fn == ("__debug__" : Str)) = false
  hj : (slots sc)[j]? = some yb
  hyb : scope.names.lookup yb = some .free
  hcb : sc.names.lookup yb = some .cell
  hdb : (yb == ("__debug__" : Str)) = false

noncomputable def CompSt (g : Gx) (V : D → Int → Prop) (ws : List D) (I D C l : Addr) (s₁ : Shared) (k : Nat) (s' : Shared) : Prop :=
  Later s₁ s' ∧ Ext s₁.heap s'.heap ∧ g.base.StaysIn s'.heap ∧ s'.heap.IsListIter I l k ∧ (∃ m', s'.heap.Ns C m') ∧ ∃ ys, ∃ zs : List Int, SeqO s'.heap "list" D ys ∧ zs.length = k ∧ Rps s'.heap ys.toList (zs.map .int) [] ∧
    ∀ (t : Nat) (w : Mine.D) (z : Int), ws[t]? = some w → zs[t]? = some z → V w z

theorem comp_call {fn x yb : Str} {scope : Scope} {f j : Nat} {np cp p1 xp : Pos} {C : Addr} {bD w : D} {u : Value} {m : Str → Option Value} {P E : Value → Shared → Prop} (W : CompOk fname sc scope fn x yb f j) (T : At fname g Φ n F sc A s ρ fp) (hb : ρ[j]? = some (.val bD))
    (hns : s.heap.Ns C m) (hm : m x = some u) (ru : Rp s.heap u w [])
    (h : ∀ fa vs, g.mg fn = some (.ref fa) → Rps s.heap vs [bD, w] (fp j) → wpAny (model g.p g.w) A (call (.ref fa) vs) P E s) :
    wpAny (model g.p g.w) A (eval (.Call (.Name fn np) [.Name yb p1, .Name x xp] [] cp) (compEnvC scope (clOf (F.env sc) scope.names []) C (F.env sc))) P E s := by
  obtain ⟨fa, of, fd, hmg, hbf, hdatf⟩ := T.named f (Nat.lt_trans W.hlt (by decide)) (by rw [W.hnm]; exact W.hne)
  rw [W.hnm] at hmg
  refine wpAny_Call_ofName (Name_function_global W.hkind (look_glob W.hfn) (loadGlobal_global (T.gd.glb.keeps T.rel.stays) hmg ?_) W.hdf)
  refine callWith_def hdatf ?_ (starEach_cons rfl)
  refine args_cons (cell_load T (fun _ _ e => e) W.hkind W.hj W.hyb W.hcb W.hdb hb fun v rv => ?_) (starEach_cons rfl)
  refine args_cons (wpAny_Name (wpAny_loadName_local (v := u) W.hkind (lookup_relabel_local W.hx) hns hm ?_) W.hxd) (starEach_cons rfl)
  refine args_nil ⟨T.rel.stays _ _ hbf, h fa _ hmg ?_⟩
  have q := Rps.cons rv (Rps.cons ru .nil)
  rw [List.append_nil, List.append_nil] at q
  exact q

theorem comp_loop {fn x y yb : Str} {px np cp pos p1 xp py : Pos} {it : Expr} {scope : Scope} {f i j : Nat} {bD : D} {ws : List D} {I D C l : Addr} {Z : Nat → Prop} {Q : Fl → Vars → Prop} {R : Flow → Shared → Prop} {E : Value → Shared → Prop} {s₀ : Shared}
    (W : CompOk fname sc scope fn x yb f j) (T : At fname g Φ n F sc A s ρ fp) (hl0 : Later s₀ s) (P : Po fname g F sc s₀ Q Z R E) (hb : ρ[j]? = some (.val bD)) (rl : Rp s.heap (.ref l) (.list ws) [l]) (hflat : flat ws = true) (hwl : ws.length ≤ 5000)
    {V : Mine.D → Int → Prop} (hW : ∀ w ∈ ws, (∃ z : Int, V w z ∧ Φ f [bD, w] fun r _ => r = .int z) ∨ Φ (500 + f) [bD, w] fun d _ => ∃ c : Nat, d = .int (c : Int) ∧ Z c)
    (hK : ∀ zs : List Int, zs.length = ws.length → (∀ (k : Nat) (w : Mine.D) (z : Int), ws[k]? = some w → zs[k]? = some z → V w z) → Q .next (ρ.set i (.own (.list (zs.map .int)))))
    (fI : s.heap.get? I = none) (fD : s.heap.get? D = none) (fC : s.heap.get? C = none) (nID : I ≠ D) (nIC : I ≠ C) (nDC : D ≠ C) (hi : (slots sc)[i]? = some y) (hky : sc.names.lookup y = some .local)
    (h0 : CompSt g V ws I D C l s 0 s') :
    codeAny (model g.p g.w) A (.compLoop (.ListComp (.Call (.Name fn np) [.Name yb p1, .Name x xp] [] cp) [⟨.Name x px, it, [], 0⟩] scope pos) 0 (.ref I) (.ref D) (compEnvC scope (clOf (F.env sc) scope.names []) C (F.env sc)))
      (compPost (model g.p g.w) A E (some (assign (.Name y py) (F.env sc))) (fun _ s' => R .next s') (.ref D) C) s' := by
  have bn : ∀ b, s.heap.get? b = none → g.base.get? b = none := fun b hb => (T.rel.newH hb).2
  have nF : C ∉ (F.env sc :: F.outer).filterMap (·.frame) := fun q => by
    obtain ⟨_, o', e', _⟩ := T.rel.frames.mem q
    rw [fC] at e'; cases e'
  refine codeAny_compLoop_tests (fun q s' => ∃ k, q = ws.length - k ∧ k ≤ ws.length ∧ CompSt g V ws I D C l s k s') ?_ ws.length ⟨0, rfl, Nat.zero_le _, h0⟩
  rintro q s' ⟨k, rfl, hkl, hla, hx', hs', hit, ⟨m', hns⟩, ys, zs, hgD, hzl, hzr, hzΦ⟩
  obtain ⟨_, vl, enl, sll, _, q1, q2, el, szl, itl⟩ := (rl.ext hx').list_inv
  cases q1; cases q2
  have hysz : ys.size = k := by rw [← Array.length_toList, hzr.length, List.length_map, hzl]
  rcases Nat.lt_or_eq_of_le hkl with hlt | rfl
  · have hwk : ws[k]? = some ws[k] := List.getElem?_eq_getElem hlt
    obtain ⟨u, cs, hu, ru, hsub⟩ := itl.get _ _ hwk
    have hwi : imm ws[k] = true := List.all_eq_true.mp hflat _ (List.getElem_mem hlt)
    refine wpAny_pyNext_list_item hit ⟨_, el, rfl, enl, rfl⟩ (x := u) (by rw [← Array.getElem?_toList]; exact hu) fun h₂ hit₂ hs₂ => ?_
    have k₂ : ∀ b o, b ≠ I → s'.heap.get? b = some o → h₂.get? b = some o := fun b o hb e => (hs₂.2 b hb).trans e
    have hns₂ : h₂.Ns C m' := by
      obtain ⟨oC, es, ep, eC, r⟩ := hns
      exact ⟨oC, es, ep, k₂ _ _ (Ne.symm nIC) eC, r⟩
    refine wpAny_assign_Name (wpAny_storeName_local (lookup_relabel_local W.hx) hns₂ (fun h₃ hns₃ hs₃ => ?_) (by show (scope.kind == .class || (scope.kind == .module && _)) = false; rw [W.hkind]; rfl))
    replace hns₃ : h₃.Ns C _ := hns₃
    have k₃ : ∀ b o, b ≠ C → h₂.get? b = some o → h₃.get? b = some o := fun b o hb e => (hs₃.2 b hb).trans e
    have x₃ : Ext s.heap h₃ := (hx'.but fI k₂).but fC k₃
    have st₃ : g.base.StaysIn h₃ := stays_but (stays_but hs' (bn _ fI) k₂) (bn _ fC) k₃
    have R₃ : Rel g F sc h₃ ρ fp := T.rel.ext x₃ st₃
    refine wpAny_pure ?_
    show (if true = true then _ else _)
    rw [if_pos rfl]
    refine comp_call W (T.rel' (s' := { s' with heap := h₃, toks := s'.toks + 1 }) R₃) hb hns₃ (if_pos rfl) (ru.anywhere hwi) fun fa vs hmg rvs => ?_
    have hl₃ : Later s { s' with heap := h₃, toks := s'.toks + 1 } := hla.trans ⟨_, _, rfl⟩
    rcases hW ws[k] (List.getElem_mem hlt) with ⟨z, hV, hΦ⟩ | hΦ
    · have q := T.fns _ _ _ hΦ
      unfold Spec at q
      rw [if_neg (by have := W.hlt; omega), if_neg (by have := W.hlt; omega)] at q
      obtain ⟨fa', q⟩ := q
      have e := q.named
      rw [W.hnm, hmg] at e
      cases e
      refine q.run A _ _ _ _ _ _ T.room st₃ R₃.frames rvs fun v' s₅ d fr bs hkd st₅ r₅ hfr => ?_
      subst hkd
      obtain ⟨⟨t', rfl⟩, _⟩ := r₅
      have x₅ := st₅.ext
      have b₅ := st₅.stays
      have hg₅ : SeqO s₅.heap "list" D ys := ((hgD.stay (S := (· = I)) ⟨fun b o e hb => .inl (k₂ b o hb e), fun b o hb e => by
        obtain ⟨oI, eI, _, dI⟩ := hit
        rw [show b = I from hb, eI] at e; cases e; exact .inr (.inl ⟨_, dI⟩)⟩ (Ne.symm nID)).stay (S := (· = C)) ⟨fun b o e hb => .inl (k₃ b o hb e), fun b o hb e => by
        obtain ⟨oC, es, ep, eC, dC, sk, _⟩ := hns₂
        rw [show b = C from hb, eC] at e; cases e; exact .inr (.inr (.inr ⟨_, _, dC, sk⟩))⟩ nDC).stay x₅.stay (fun q => q)
      obtain ⟨enD, slD, gD₅, szD⟩ := id hg₅
      refine append_heap gD₅ rfl rfl szD ?_
      have k₆ : ∀ b o, b ≠ D → s₅.heap.get? b = some o → (s₅.heap.update D (Obj.mapSeq (·.push (.int z t')))).get? b = some o := fun b o hb e => ((Heap.SameBut.update _ _ _).2 b hb).trans e
      have hit₅ : s₅.heap.IsListIter I l (k + 1) := by
        obtain ⟨o2, e2, c2, d2⟩ := hit₂
        rcases x₅ _ _ (k₃ _ _ nIC e2) with q | ⟨q, _⟩
        · exact ⟨o2, q, c2, d2⟩
        · exact absurd d2 (q _)
      refine ⟨ws.length - (k + 1), by omega, k + 1, rfl, hlt, (hl₃.trans st₅.later).trans ⟨_, _, rfl⟩, (x₃.trans x₅).but fD k₆, stays_but b₅ (bn _ fD) k₆, ?_, ?_, _, zs ++ [z], seq_update (f := (·.push (.int z t'))) hg₅ ?_, by rw [List.length_append, hzl]; rfl, ?_, fun t w z' hw hz => ?_⟩
      · obtain ⟨o2, e2, c2, d2⟩ := hit₅
        exact ⟨o2, k₆ _ _ nID e2, c2, d2⟩
      · obtain ⟨oC, es, ep, eC, r⟩ := x₅.ns hns₃
        exact ⟨_, oC, es, ep, k₆ _ _ (Ne.symm nDC) eC, r⟩
      · rw [Array.size_push, hysz]; exact Nat.le_trans (Nat.succ_le_of_lt hlt) (Nat.le_trans hwl (by decide))
      · rw [Array.toList_push, List.map_append]
        exact Rps.append (as := []) (bs := []) hzr.anywhere (Rps.cons (as := []) (bs := []) (.int _ _) .nil)
      · by_cases ht : t < k
        · rw [List.getElem?_append_left (by omega)] at hz
          exact hzΦ t w z' hw hz
        · have htl : t < (zs ++ [z]).length := (List.getElem?_eq_some_iff.mp hz).1
          have htk : t = k := by simp [hzl] at htl; omega
          subst htk
          rw [← hzl, List.getElem?_append_right (Nat.le_refl _)] at hz
          simp at hz
          rw [hwk] at hw
          cases hw
          rw [← hz]; exact hV
    · have q := T.fns _ _ _ hΦ
      unfold Spec at q
      rw [if_neg (by have := W.hlt; omega), if_pos (by omega)] at q
      obtain ⟨c', Cx, fa', ⟨c'', hc, hZc⟩, O, q⟩ := q
      have hcc : c' = c'' := by injection hc with hc; omega
      subst hcc
      have e := q.named
      rw [show 500 + f - 500 = f by omega, W.hnm, hmg] at e
      cases e
      refine q.run A _ _ _ _ Cx _ _ T.room st₃ R₃.frames rvs O fun ex a0 s₅ hl hfl hup => ?_
      show wpAny _ _ (noteFrame (.ref ex) (F.env sc)) _ _ _
      refine fly_note T.room.frames rfl (fly_of hfl) fun h₆ x₆ u₆ => ?_
      have hns₆ : h₆.Ns C _ := (hup.trans u₆).ns hns₃
      have hbC : (gone g (F.env sc :: F.outer) h₃).get? C = none := by
        cases hq : (gone g (F.env sc :: F.outer) h₃).get? C with
        | none => rfl
        | some o2 =>
          obtain ⟨g1, g2, g3⟩ := gone_of hq
          obtain ⟨oC, es, ep, eC, dC, _⟩ := hns₃
          rcases g3 with ⟨o3, g3⟩ | ⟨vs3, g3⟩
          · rw [bn _ fC] at g3; cases g3
          · rw [eC] at g1; cases g1; rw [dC] at g3; cases g3
      refine ⟨_, hns₆, fun h₇ hs₇ cenv' hce => ?_⟩
      have k₇ : ∀ b o, b ≠ C → h₆.get? b = some o → h₇.get? b = some o := fun b o hb e => (hs₇.2 b hb).trans e
      refine fly_pass (x₆.but hns₆ hbC nF k₇) fun h₈ x₈ u₈ => ?_
      refine P.err c' Cx ex _ hZc O ⟨s, ρ, fp, hl0, T.rel, (hl₃.trans hl).trans ⟨_, _, rfl⟩, .inr ⟨x₈.down (fun b o e => gone_up x₃ st₃ b o e T.rel.stays) fun b hb => gone_at hb, fun b o e hn => ?_⟩⟩
      obtain ⟨sl, e3⟩ := x₃.soft e
      obtain ⟨sl', e6⟩ := (hup.trans u₆) b _ e3 hn
      obtain ⟨sl₈, e8⟩ := u₈ b _ (k₇ b _ (fun q => by rw [q, fC] at e; cases e) e6) hn
      exact ⟨sl₈, e8⟩
  · refine wpAny_pyNext_list_end T.room.handled hit ⟨_, el, rfl, enl, rfl⟩ (by rw [← Array.getElem?_toList, List.getElem?_eq_none (by rw [itl.length]; exact Nat.le_refl _)]) fun h₂ hs₂ => ?_
    have k₂ : ∀ b o, b ≠ I → s'.heap.get? b = some o → h₂.get? b = some o := fun b o hb e => hs₂ b o hb e
    have R₂ : Rel g F sc h₂ ρ fp := T.rel.ext (hx'.but fI k₂) (stays_but hs' (bn _ fI) k₂)
    obtain ⟨enD, slD, gD, szD⟩ := hgD
    have rD : Rp h₂ (.ref D) (.list (zs.map .int)) [D] := .list ⟨_, _, k₂ _ _ (Ne.symm nID) gD, szD⟩ hzr.anywhere
    refine wpAny_assign_Name (store_rule (i := i) (T.rel' (s' := { s' with heap := h₂ }) R₂) (.inl hky) fun h₃ tk₃ S₃ => ?_)
    have hD1 : ∀ j', ∀ a ∈ [D], a ∉ fp j' := fun j' a ha => by rw [List.mem_singleton.mp ha]; exact T.rel.newFp fD j'
    have R₃ := R₂.put (c := .own (.list (zs.map .int))) hi S₃ rD (.inr rfl) (fun j' _ _ _ => hD1 j') fun _ => ⟨List.pairwise_singleton _ _, fun a ha => by rw [List.mem_singleton.mp ha]; exact T.rel.newH fD, fun j' _ => hD1 j'⟩
    obtain ⟨oC, es, ep, eC, r⟩ := hns
    have hns₃ : h₃.Ns C m' := ⟨oC, es, ep, S₃.keep _ _ (k₂ _ _ (Ne.symm nIC) eC) (fun q => by
      rcases q with q | ⟨p, hp, q⟩
      · exact nF (by rw [List.filterMap_cons]; show C ∈ F.L :: _; rw [q]; exact .head _)
      · obtain ⟨_, _, o2, w, ho2, _⟩ := T.rel.cells p hp
        rw [← q, fC] at ho2; cases ho2), r⟩
    refine ⟨m', hns₃, fun h₄ hs₄ => P.next (hK zs hzl hzΦ) ((hl0.trans hla).trans ⟨h₄, tk₃, rfl⟩) (R₃.dictBut hns₃ (T.rel.newH fC).1 (bn _ fC) nF fun b o hb e => (hs₄.2 b hb).trans e)⟩

theorem sem_comp {fn x y yb : Str} {px np cp pos p1 xp py spos : Pos} {it : Expr} {scope : Scope} {a : X} {f i j : Nat} (he : SemE fname sc it a) (hset : plainE it = true)
    (hcell : ∀ y ∈ scope.names, y.2 ≠ .cell) (hfree : ∀ y ∈ scope.names, y.2 = .free → sc.names.lookup y.1 = some .cell)
    (hnames : ∀ y ∈ scope.names, y.2 = .local → scope.names.lookup y.1 = some .local) (W : CompOk fname sc scope fn x yb f j)
    (hi : (slots sc)[i]? = some y) (hky : sc.names.lookup y = some .local) (hln : (py.line == pos.line) = true) (hany : (scope.names.any fun p => p.1 == y && (p.2 == .local || p.2 == .cell)) = false) :
    SemS fname sc (.Assign [.Name y py] (.ListComp (.Call (.Name fn np) [.Name yb p1, .Name x xp] [] cp) [⟨.Name x px, it, [], 0⟩] scope pos) spos) (.compCall i f j a) := by
  intro g Φ n F A s ρ fp Q Z R E T h P
  have hclos : closureFor scope (F.env sc) = pure (clOf (F.env sc) scope.names []) := closure_pure fun p hp hk => T.rel.ccov _ (hfree p hp hk)
  rw [exec_Assign_Name_used _ _ _ _ (swaps_yes (env := F.env sc) T.kind hky hln hany)]
  refine wpAny_bind (wpAny_standAt (wpAny_bind ?_))
  show wpAny _ A (do let _ ← comprehension (.ListComp (.Call (.Name fn np) [.Name yb p1, .Name x xp] [] cp) [⟨.Name x px, it, [], 0⟩] scope pos) scope (F.env sc) _ (newList []) false (eval it (F.env sc)) (some (assign (.Name y py) (F.env sc)))) _ _ s
  refine wpAny_bind (wpAny_mono (wpAny_comprehension_free (use := some (assign (.Name y py) (F.env sc))) (Q := fun _ s' => R .next s') rfl ((plain_all hset).fold _) hclos W.hkind hnames
    (he g Φ n F A s ρ fp _ _ E T h fun v s₁ d fg as hk' st r fo => ?_)) (fun _ s' hq => wpAny_pure (wpAny_pure hq)) fun _ _ e => e)
  obtain ⟨ws, rfl, V, bD, hb, hbi, hflat, hwl, hW, hK⟩ := onL_inv hk'
  obtain ⟨l, vs, en, sl, as', rfl, rfl, e1, sz, itm⟩ := r.list_inv
  have as0 := itm.flat hflat
  subst as0
  have T₁ := T.step st
  refine wpAny_pyIter_list ⟨_, e1, rfl, en, rfl⟩ ?_
  refine wpAny_newObj_type (wpAny_newFunctionEnv hcell (by intro y hy; simp at hy) (fun h₁ hns₁ hsb₁ => ?_) W.hkind)
  dsimp only at hns₁ hsb₁ ⊢
  have z1 : (s₁.heap.push { cls := .type "list_iterator", data := .fields #[.ref l, .int 0 0] }).objs.size = s₁.heap.objs.size + 1 := Heap.size_push _ _
  have z2 : ((s₁.heap.push { cls := .type "list_iterator", data := .fields #[.ref l, .int 0 0] }).push { cls := .type "list", dict := none, data := .seq ([] : List Value).toArray }).objs.size = s₁.heap.objs.size + 1 + 1 := by rw [Heap.size_push, z1]
  have gI : ((s₁.heap.push { cls := .type "list_iterator", data := .fields #[.ref l, .int 0 0] }).push { cls := .type "list", dict := none, data := .seq ([] : List Value).toArray }).get? s₁.heap.objs.size = some { cls := .type "list_iterator", data := .fields #[.ref l, .int 0 0] } := Heap.get?_push_of_some _ (Heap.get?_push_size _ rfl)
  have gD := Heap.get?_push_size (s₁.heap.push { cls := .type "list_iterator", data := .fields #[.ref l, .int 0 0] }) (o := { cls := .type "list", dict := none, data := .seq ([] : List Value).toArray }) rfl
  have gO : ∀ b o, s₁.heap.get? b = some o → ((s₁.heap.push { cls := .type "list_iterator", data := .fields #[.ref l, .int 0 0] }).push { cls := .type "list", dict := none, data := .seq ([] : List Value).toArray }).get? b = some o := fun b o e => Heap.get?_push_of_some _ (Heap.get?_push_of_some _ e)
  have k1 : ∀ b o, b ≠ _ → _ → h₁.get? b = some o := fun b o hb e => (hsb₁.2 b hb).trans (Heap.get?_push_of_some _ e)
  rw [z1] at gD ⊢
  rw [z2] at k1 hns₁ ⊢
  have fr : ∀ b, s₁.heap.objs.size ≤ b → s₁.heap.get? b = none := fun b hb => Heap.get?_none_of_le hb
  have n1 : s₁.heap.objs.size ≠ s₁.heap.objs.size + 1 := Nat.ne_of_lt (Nat.lt_succ_self _)
  have n2 : s₁.heap.objs.size ≠ s₁.heap.objs.size + 1 + 1 := Nat.ne_of_lt (Nat.lt_succ_of_lt (Nat.lt_succ_self _))
  have n3 : s₁.heap.objs.size + 1 ≠ s₁.heap.objs.size + 1 + 1 := Nat.ne_of_lt (Nat.lt_succ_self _)
  have k0 : ∀ b o, s₁.heap.get? b = some o → h₁.get? b = some o := fun b o e => k1 b o (fun q => by rw [q, fr _ (Nat.le_succ_of_le (Nat.le_succ _))] at e; cases e) (gO b o e)
  have hit : h₁.IsListIter s₁.heap.objs.size l 0 := ⟨_, k1 _ _ n2 gI, rfl, rfl⟩
  have loop := comp_loop (px := px) (np := np) (cp := cp) (pos := pos) (p1 := p1) (xp := xp) (py := py) (it := it) (s' := { s₁ with heap := h₁, toks := s₁.toks + ([] : List (Str × Value)).length }) W T₁ st.later P hb r hflat hwl hW hK (fr _ (Nat.le_refl _)) (fr _ (Nat.le_succ _)) (fr _ (Nat.le_succ_of_le (Nat.le_succ _))) n1 n2 n3 hi hky
    ⟨⟨_, _, rfl⟩, .of_keep k0, fun b o e => k0 b o (st.stays b o e), hit, ⟨_, hns₁⟩, _, [], ⟨_, _, k1 _ _ n3 gD, Nat.zero_le _⟩, rfl, .nil, fun t w z _ hz => nomatch hz⟩
  exact codeAny_compStart_list loop (wpAny_pyIter_listiter hit loop)
end
end Mine
set_option Elab.async false
set_option maxRecDepth 100000
set_option linter.unusedVariables false
namespace Mine
open PySem PySem.Calls PyProof.Rows

section
variable {fname : Nat → Str} {g : Gx} {Φ : Calls} {n : Nat} {F : Fm} {sc : Scope} {A : Around} {s s' : Shared} {ρ : Vars} {fp : Nat → List Addr} {h h' : Heap}

theorem dict_first {p : Program} {w : World} {a : Addr} {v : Value} (hm : h.DictOf (intKind p w) a [((0 : Int), v)]) : Rp h (.ref a) (.dict [(.none, .int (a : Nat))]) [] := by
  obtain ⟨o, es, ep, e, c, d, _, pr, _⟩ := hm
  generalize hl : es.toList = l at pr
  cases pr with
  | @cons en _ _ _ hk _ _ =>
    obtain ⟨t, ht⟩ := Value.isInt_shape hk
    refine ⟨a, o, es, ep, t, rfl, rfl, rfl, e, c.1, d, ?_⟩
    rw [← Array.getElem?_toList, hl]
    exact congrArg some ht
theorem sem_dict01 {k1 k2 : Nat} {p1 p2 pos : Pos} : SemE fname sc (.Dict [some (.Constant (.int 0) k1 p1)] [.Constant (.int 1) k2 p2] pos) .dict01 := by
  intro g Φ n F A s ρ fp K Q E T h hQ
  refine wpAny_Dict_pairs (knd := intKind g.p g.w) (pairs := [(eval (.Constant (.int 0) k1 p1) (F.env sc), do let x ← eval (.Constant (.int 1) k2 p2) (F.env sc); standAt pos; pure x)]) rfl (fun q => nomatch q) (by show 1 ≤ 15; decide) ?_
  refine evalPairs_cons (wpAny_Constant_int (wpAny_bind (wpAny_Constant_int (wpAny_bind (wpAny_standAt (wpAny_pure (evalPairs_nil ?_)))))))
  refine ⟨[(0, _)], ⟨rfl, rfl, trivial⟩, Heap.DictOf.new _, fun h' hm hs => ?_⟩
  refine hQ _ _ _ _ [] (h (s.heap.objs.size : Nat)) (T.here.keep (fun b o e => (hs.2 b fun q => ?_).trans (Heap.get?_push_of_some _ e)) _) (dict_first hm) .ff
  rw [q, fresh_size] at e; cases e

theorem set_heap {l : Addr} {vs : Array Value} {k : Int} {t : Tok} {v : Value} {Q : Unit → Shared → Prop} {E : Value → Shared → Prop} (o : SeqO s.heap "list" l vs) (h0 : 0 ≤ k) (hk : k < vs.size)
    (hQ : Q () { s with heap := s.heap.update l (Obj.mapSeq (·.setIfInBounds k.toNat v)) }) : wpAny (model g.p g.w) A (setItem (.ref l) (.int k t) v) Q E s := by
  obtain ⟨en, sl, e, sz⟩ := o
  have ty : s.TypeIs (.ref l) "list" := ⟨_, e, rfl⟩
  have fit := fitsIndex_of h0 (Int.lt_trans hk (line_lt sz))
  unfold setItem
  with_reducible refine wpAny_holding ?_
  refine wpAny_bind (wpAny_sequenceKey ty (by decide) ?_)
  refine wpAny_bind (wpAny_callSpecial?_slot (name := Str.ofString "__setitem__") ty slot_list_setitem (wpAny_call_entry slot_list_setitem ty entry_list_setitem ?_ (args_list_setitem _ _ _)))
  show wpAny _ _ (Builtin.List.listSubscript? (.int k t) >>= _) _ _ s
  refine wpAny_bind (wpAny_listSubscript_int fit ?_)
  clear fit
  obtain ⟨j, rfl⟩ := Int.eq_ofNat_of_zero_le h0
  have hj : j < vs.size := Int.ofNat_lt.mp hk
  show wpAny _ _ ((seqItemAt l j >>= fun r => pure (r.map (j, ·))) >>= _) _ _ s
  refine wpAny_bind (wpAny_bind (wpAny_seqItemAt e rfl (wpAny_pure ?_)))
  rw [Array.getElem?_eq_getElem hj]
  show wpAny _ _ (setSeqItemAt l j v >>= _) _ _ s
  refine wpAny_bind (wpAny_setSeqItemAt e rfl ?_)
  first
    | exact wpAny_pure ⟨.none, rfl, wpAny_pure hQ⟩
    | exact wpAny_bind (wpAny_pure (wpAny_pure ⟨.none, rfl, wpAny_pure hQ⟩))

theorem Rps.set1 {v : Value} {d : D} {bs : List Addr} (rv : Rp h v d bs) {vs ds as} (r : Rps h vs ds as) (hf : Mine.flat ds = true) : ∀ k : Nat, k < ds.length → Rps h (vs.set k v) (ds.set k d) bs := by
  have key : ∀ k : Nat, k < ds.length → Mine.flat ds = true → Rps h (vs.set k v) (ds.set k d) bs := by
    refine Rps.ind (N := fun vs ds as => ∀ k : Nat, k < ds.length → Mine.flat ds = true → Rps h (vs.set k v) (ds.set k d) bs) (fun k hk => nomatch hk) (fun w e ws es as cs x y ih k hk hf => ?_) r
    have hf' := Bool.and_eq_true_iff.mp hf
    cases k with
    | zero =>
      have q := Rps.cons rv y
      rw [y.flat hf'.2, List.append_nil] at q
      exact q
    | succ k =>
      have e := x.imm hf'.1
      subst e
      exact Rps.cons (as := []) x (ih k (Nat.lt_of_succ_lt_succ hk) hf'.2)
  exact fun k hk => key k hk hf
theorem sem_setAt {x : Str} {p sp pos : Pos} {ei ev : Expr} {a b : X} {i : Nat} (hx : (slots sc)[i]? = some x) (hd : (x == ("__debug__" : Str)) = false) (hv : plainE ev = true) (hi : SemE fname sc ei a) (he : SemE fname sc ev b) :
    SemS fname sc (.Assign [.Subscript (.Name x p) ei sp] ev pos) (.setAt i a b) := by
  intro g Φ n F A s ρ fp Q Z R E T h P
  refine wpAny_Assign_Subscript (he g Φ n F A s ρ fp _ _ E T h fun v s₁ d f bs hk st r fo => ?_) ((plain_all hv).swap _ _ _)
  obtain ⟨xs, hi', h1⟩ := ownL_inv hk
  have T₁ := T.step st
  obtain ⟨y, w, hy, hvar, rw'⟩ := T₁.rel.vars i _ (.inr hi')
  rw [hx] at hy; cases hy
  obtain ⟨l, vs, as', rfl, hfp, lo, it⟩ := rw'
  refine load_var T₁ hvar hd (hi g Φ n F A s₁ ρ fp _ _ E T₁ h1 fun iv s₂ di fi bi hk2 st₂ ri foi => ?_)
  obtain ⟨m, rfl, m0, m1, hfl, q1, q2, hQ⟩ := onI_inv hk2
  obtain ⟨t, rfl, _⟩ := ri.int_inv
  have e0 := it.flat hfl
  subst e0
  obtain ⟨nb, fresh⟩ := fo.made q1 q2
  have lo₂ := lo.stay st₂.ext.stay fun q => q
  have hjl : m.toNat < xs.length := by omega
  have hjv : m < vs.size := by rw [← Array.length_toList, it.length]; exact m1
  refine set_heap lo₂ m0 hjv (P.next hQ ((st.trans st₂).later.trans ⟨_, _, rfl⟩) ((T₁.step st₂).rel.mutate hi' hfp (Heap.SameBut.update _ _ _) (seq_update (f := (·.setIfInBounds m.toNat v)) lo₂ ?_) (xs' := xs.set m.toNat d) (as' := bs) ?_ ?_ (fun a ha => T.rel.newH (fresh a ha)) fun j' _ a ha => T.rel.newFp (fresh a ha) j'))
  · obtain ⟨_, _, _, sz⟩ := lo
    rw [Array.size_setIfInBounds]; exact sz
  · rw [Array.toList_setIfInBounds]
    exact Rps.set1 (r.ext st₂.ext) (it.ext st₂.ext) hfl m.toNat hjl
  · refine List.nodup_cons.mpr ⟨fun q => ?_, nb⟩
    exact T.rel.newFp (fresh l q) i (by rw [hfp]; exact .head _)

theorem same2_eq {B : Around} {v w : Value} {x y : D} {as bs : List Addr} (hu : B.units + 64 < cLine) (r1 : Rp s.heap v x as) (r2 : Rp s.heap w y bs) (h : same2 x y) : SeqAt.EqAt B s v w true := by
  rcases h with ⟨s1, s2, e⟩ | ⟨d, rfl, rfl⟩
  · have q := SeqAt.eqAt_reads x y B s v w as bs (r1.reads (SeqAt.canLay_of_shaped s1)) (r2.reads (SeqAt.canLay_of_shaped s2)) (SeqAt.canLay_of_shaped s1) (SeqAt.canLay_of_shaped s2) (SeqAt.room_of_shaped s1 hu)
    rw [e] at q; exact q
  · obtain ⟨a, _, _, _, _, rfl, _, rfl, _⟩ := r1
    obtain ⟨b, _, _, _, _, rfl, _, e, _⟩ := r2
    injection e with e
    injection e with _ e
    injection e with e
    have e' : a = b := by omega
    subst e'
    exact SeqAt.EqAt.same _
theorem rd_inv {i : Nat} {K : D → Fg → Prop} (h : rd ρ i K) : ∃ d f, (ρ[i]? = some (.val d) ∨ ρ[i]? = some (.own d)) ∧ K d f := by
  unfold rd at h
  split at h
  · rename_i d e; exact ⟨d, _, .inl e, h⟩
  · rename_i d e; exact ⟨d, _, .inr e, h⟩
  · exact h.elim
theorem kept_run {x y z : Str} {p1 p2 p3 lp : Pos} {k i j : Nat} {K : D → Fg → Prop} {Q E : Value → Shared → Prop} (T : At fname g Φ n F sc A s ρ fp) (h : wE Φ ρ (.keptEq k i j) K) (hx : (slots sc)[k]? = some x) (hy : (slots sc)[i]? = some y) (hz : (slots sc)[j]? = some z)
    (dx : (x == ("__debug__" : Str)) = false) (dy : (y == ("__debug__" : Str)) = false) (dz : (z == ("__debug__" : Str)) = false)
    (hQ : ∀ s', K (.bool true) ff → Step g s s' → Q (.bool true) s') :
    wpAny (model g.p g.w) A (eval (.Name x p1) (F.env sc)) (fun v s₁ => wpAny (model g.p g.w) A (eval (.List [.Name y p2, .Name z p3] lp) (F.env sc)) (fun w s₂ => wpAny (model g.p g.w) A (compareOp .Eq v w) Q E s₂) E s₁) E s := by
  obtain ⟨dk, _, ck, h⟩ := rd_inv h
  obtain ⟨d1, _, c1, h⟩ := rd_inv h
  obtain ⟨d2, _, c2, ⟨a, b, rfl, sa, sb⟩, hk⟩ := rd_inv h
  obtain ⟨x', v, ex, hv, r⟩ := T.rel.vars k _ ck
  obtain ⟨y', v1, ey, hv1, r1⟩ := T.rel.vars i _ c1
  obtain ⟨z', v2, ez, hv2, r2⟩ := T.rel.vars j _ c2
  rw [hx] at ex; cases ex
  rw [hy] at ey; cases ey
  rw [hz] at ez; cases ez
  obtain ⟨l, vs, as', rfl, _, ⟨en, sl, e1, sz⟩, va, ws, b1, b2, htl, _, ra, vb, ws', b3, b4, rfl, _, rb, rfl, _⟩ := r
  have hvs : vs = #[va, vb] := by rw [← Array.toList_inj, htl]
  subst hvs
  refine load_var T hv dx ?_
  refine wpAny_List (args_cons (load_var T hv1 dy (args_cons (load_var T hv2 dz (args_nil ⟨two_line v1 v2, ?_⟩)) (starEach_cons rfl))) (starEach_cons rfl))
  have st := T.here.push { cls := .type "list", data := .seq #[v1, v2] }
  have hu := T.units
  have hne : l ≠ s.heap.objs.size := fun q => by rw [q, fresh_size] at e1; cases e1
  refine SeqAt.RcAt.lists (A := A) (e := fun _ => true) ⟨_, st.ext.soft e1 |>.choose_spec, rfl, _, rfl⟩ ⟨_, Heap.get?_push_size _ rfl, rfl, _, rfl⟩ rfl (by omega) (fun jj h1 h2 => ?_) g.p g.w E _ (hQ _ hk st)
  have ea := (ra.ext st.ext)
  have eb := (rb.ext st.ext)
  match jj, h1, h2 with
  | 0, _, _ => exact same2_eq (B := A.in1) (by show A.units + 1 + 64 < cLine; have := T.room.units; omega) ea (r1.ext st.ext) sa
  | 1, _, _ => exact same2_eq (B := A.in1) (by show A.units + 1 + 64 < cLine; have := T.room.units; omega) eb (r2.ext st.ext) sb
  | jj + 2, h1, _ => exact absurd h1 (by show ¬ jj + 2 < 2; omega)
theorem sem_kept {x y z : Str} {p1 p2 p3 lp pos : Pos} {k i j : Nat} (hx : (slots sc)[k]? = some x) (hy : (slots sc)[i]? = some y) (hz : (slots sc)[j]? = some z)
    (dx : (x == ("__debug__" : Str)) = false) (dy : (y == ("__debug__" : Str)) = false) (dz : (z == ("__debug__" : Str)) = false) :
    SemE fname sc (.Compare (.Name x p1) [.Eq] [.List [.Name y p2, .Name z p3] lp] pos) (.keptEq k i j) := fun g Φ n F A s ρ fp K Q E T h hQ =>
  wpAny_Compare1 (kept_run T h hx hy hz dx dy dz fun s' hk st => hQ _ _ _ _ [] hk st (.bool _) .ff) rfl
theorem sem_kept_t {x y z : Str} {p1 p2 p3 lp pos : Pos} {k i j : Nat} (hx : (slots sc)[k]? = some x) (hy : (slots sc)[i]? = some y) (hz : (slots sc)[j]? = some z)
    (dx : (x == ("__debug__" : Str)) = false) (dy : (y == ("__debug__" : Str)) = false) (dz : (z == ("__debug__" : Str)) = false) :
    SemT fname sc (.Compare (.Name x p1) [.Eq] [.List [.Name y p2, .Name z p3] lp] pos) (.keptEq k i j) := fun g Φ n F A s ρ fp K Q E T h hQ =>
  wpAny_isTrue_Compare1 (kept_run T h hx hy hz dx dy dz fun s' hk st => wpAny_truthy_bool (hQ _ _ hk st)) rfl
end
end Mine
set_option Elab.async false
set_option maxRecDepth 100000
set_option linter.unusedVariables false
namespace Mine
open PySem PySem.Calls PyProof.Rows

theorem lk_class : typeLookup (.type "ValueError") "__class__" = pure (some (.builtin "object.__class__")) := by rw [typeLookup_type, builtinLookup_eq_fast]; kernel_rfl

section
variable {prog : Program} {w : World} {A : Around} {E : Value → Shared → Prop} {h : Heap} {g : Array GenState} {d : Drawn} {t : Nat} {os : OsState}
variable {nm q : Str} {C N : Addr} {bs bm : List Value} {hdct : Bool} {sn : List Str} {sub : List Value} {ab : Bool} {col : Option Bool} {dd : Option Addr} {k0 k1 k2 k3 k5 : Option Value} {newId : String}
variable {nm' q' : Str} {C' N' : Addr} {bs' bm' : List Value} {hdct' : Bool} {sn' : List Str} {sub' : List Value} {ab' : Bool} {col' : Option Bool} {dd' : Option Addr} {k0' k1' k2' k3' k5' : Option Value} {newId' : String}
variable {e : Addr} {oe : Obj} {mN : Str → Option Value}

theorem wpAny_lk_class {M : Model} {Q : Option Value → Shared → Prop} (hC : h.get? C = some (excClassObj nm q C N bs bm hdct sn sub ab col dd k0 k1 k2 k3 k5 newId)) (hN : h.Ns N mN) (hc : mN "__class__" = none)
    (ht : ∀ (Q : Option Value → Shared → Prop), Q (some (.builtin "object.__class__")) ⟨h, g, d, t, os⟩ → wpAny M A (lookupAlong bm "__class__") Q E ⟨h, g, d, t, os⟩)
    (hq : Q (some (.builtin "object.__class__")) ⟨h, g, d, t, os⟩) : wpAny M A (typeLookup (.ref C) "__class__") Q E ⟨h, g, d, t, os⟩ := by
  rw [typeLookup_eq]
  refine wpAny_bind (wpAny_mroOf_exc hC ?_)
  rw [lookupAlong_cons]
  refine wpAny_bind (wpAny_classOwn_exc hC hN ?_)
  rw [hc]
  exact ht _ hq

theorem cls_get {R : Result → Shared → Prop} (hC : h.get? C = some (excClassObj nm q C N bs bm hdct sn sub ab col dd k0 k1 k2 k3 k5 newId)) (hob : bm.contains (.type "object") = true) (he : h.get? e = some oe) (hcls : oe.cls = .ref C)
    (hq : R (.ok (.ret (.ref C))) ⟨h, g, d, t, os⟩) : codeAny (model prog w) A (.call (.builtin "getset_descriptor.__get__") ⟨[.builtin "object.__class__", .ref e, .ref C], []⟩) R ⟨h, g, d, t, os⟩ := by
  have hT5 : (⟨h, g, d, t, os⟩ : Shared).TypeIs (.builtin "object.__class__") "getset_descriptor" := F.typeOf_object_class
  have hcB : (Value.ref C :: bm).contains (.type (".".intercalate ("object.__class__".cutAt '.').dropLast)) = true := by
    rw [F.owner_object_class, List.contains_cons, hob]; rfl
  refine codeAny_call_builtin F.slot_gs_get.plain F.entry_gs_get (F.slot_gs_get.check _ _ _ _ _ _ _ _ hT5 (F.args_gs_get _ _ _) ?_)
  repeat (any_goals (first | assumption | (with_reducible refine wpAny_loadPart_at he ?_; rw [hcls]) | (with_reducible refine wpAny_isSubtype_exc hC ?_; rw [hcB]) | wp_step))
  refine ⟨Code.quiet_builtin _ (by decide +kernel), codeAny_builtin F.entry_object_class ?_⟩
  repeat (any_goals (first | assumption | (with_reducible refine wpAny_loadPart_at he ?_; rw [hcls]) | wp_step))

theorem cls_entry {tk : Tok} {Q : Fin → Shared → Prop} (hC : h.get? C = some (excClassObj nm q C N bs bm hdct sn sub ab col dd k0 k1 k2 k3 k5 newId)) (hob : bm.contains (.type "object") = true) (he : h.get? e = some oe) (hcls : oe.cls = .ref C)
    (lk : ∀ (A : Around) (E : Value → Shared → Prop) (t : Nat) (Q : Option Value → Shared → Prop), Q (some (.builtin "object.__class__")) ⟨h, g, d, t, os⟩ → wpAny (model prog w) A (typeLookup (.ref C) "__class__") Q E ⟨h, g, d, t, os⟩)
    (hq : Q (.done (.ret (.ref C))) ⟨h, g, d, t, os⟩) :
    wpAny (model prog w) A (Builtin.«object.__getattribute__» ⟨[.ref e, .str "__class__" tk], []⟩) Q E ⟨h, g, d, t, os⟩ := by
  have hT5 : (⟨h, g, d, t, os⟩ : Shared).TypeIs (.builtin "object.__class__") "getset_descriptor" := F.typeOf_object_class
  have f5 := F.typeOf_object_class
  have f6 := F.slot_gs_get.lookup
  have f7 := F.slot_gs_set.lookup
  repeat (any_goals (first | assumption | (with_reducible refine wpAny_loadPart_at he ?_; rw [hcls]) | with_reducible refine lk _ _ _ _ ?_ | wp_step))
  refine cls_get hC hob he hcls ?_
  repeat (any_goals (first | assumption | wp_step))

theorem cls_by {tk : Tok} {Q : Value → Shared → Prop} (hC : h.get? C = some (excClassObj nm q C N bs bm hdct sn sub ab col dd k0 k1 k2 k3 k5 newId)) (hN : h.Ns N mN) (hmN : ∀ n ∈ quietNames, mN n = none) (T : OwnTailQ h bmV bm) (he : h.get? e = some oe) (hcls : oe.cls = .ref C)
    (lk : ∀ (A : Around) (E : Value → Shared → Prop) (t : Nat) (Q : Option Value → Shared → Prop), Q (some (.builtin "object.__class__")) ⟨h, g, d, t, os⟩ → wpAny (model prog w) A (typeLookup (.ref C) "__class__") Q E ⟨h, g, d, t, os⟩)
    (hq : Q (.ref C) ⟨h, g, d, t, os⟩) : wpAny (model prog w) A (getAttrBy (.ref e) (.str "__class__" tk) false) Q E ⟨h, g, d, t, os⟩ := by
  have FB := PySem.F.attrBase_ValueError
  have f3 := FB.ga.bind (.ref e)
  have hx2 : (Value.builtin "BaseException.__getattribute__" == Value.builtin "object.__getattribute__") = false := by decide +kernel
  have hx1 : (onTheHeap (Value.ref C) && Value.builtin "BaseException.__getattribute__" == Value.builtin "object.__getattribute__") = false := by rw [hx2]; rfl
  have hm1 : ("__getattribute__" : Str) ∈ quietNames := .tail _ (.head _)
  have hm2 : ("__getattr__" : Str) ∈ quietNames := .tail _ (.tail _ (.head _))
  repeat (any_goals (first | assumption | (with_reducible refine wpAny_loadPart_at he ?_; rw [hcls]) | with_reducible refine wpAny_typeLookup_tailQ hm1 hC hN hmN T FB.mro FB.ga.lookup ?_ | with_reducible refine wpAny_typeLookup_tailQ hm2 hC hN hmN T FB.mro FB.noGetattr ?_ | wp_step))
  refine codeAny_call_builtin FB.ga.plain F.entry_bexc_ga (wpAny_check_ga_own FB hC T he hcls (cls_entry hC (T.tail.hasType (by decide)) he hcls lk ?_))
  repeat (any_goals (first | assumption | wp_step))

theorem isi_nested3 {dep : Int} {tk : Tok} {Q : Fin → Shared → Prop} (hC : h.get? C = some (excClassObj nm q C N bs bm hdct sn sub ab col dd k0 k1 k2 k3 k5 newId)) (hN : h.Ns N mN) (hmN : ∀ n ∈ quietNames, mN n = none) (T : OwnTailQ h bmV bm)
    (hC' : h.get? C' = some (excClassObj nm' q' C' N' bs' bm' hdct' sn' sub' ab' col' dd' k0' k1' k2' k3' k5' newId')) (he : h.get? e = some oe) (hcls : oe.cls = .ref C)
    (lk : ∀ (A : Around) (E : Value → Shared → Prop) (t : Nat) (Q : Option Value → Shared → Prop), Q (some (.builtin "object.__class__")) ⟨h, g, d, t, os⟩ → wpAny (model prog w) A (typeLookup (.ref C) "__class__") Q E ⟨h, g, d, t, os⟩)
    (hin : (Value.ref C :: bm).contains (.ref C') = false) (hcc : (Value.ref C == Value.ref C') = false) (hq : Q (.done (.ret (.bool false))) ⟨h, g, d, t + 1, os⟩) :
    wpAny (model prog w) A (Builtin.«isinstance.nested» ⟨[.ref e, .ref C', .int dep tk], []⟩) Q E ⟨h, g, d, t, os⟩ := by
  have hrf : (Value.ref C == Value.ref C) = true := beq_self_eq_true _
  repeat (any_goals (first | assumption | (with_reducible refine wpAny_loadPart_at he ?_; rw [hcls]) | with_reducible refine wpAny_loadPart_at hC' ?_ | (with_reducible refine wpAny_isSubtype_exc hC ?_; rw [hin]) | with_reducible apply cls_by hC hN hmN T he hcls lk | wp_step))
end

section
variable {fname : Nat → Str} {g : Gx} {Φ : Calls} {n : Nat} {F : Fm} {sc : Scope} {A : Around} {s s' : Shared} {ρ : Vars} {fp : Nat → List Addr} {h h' : Heap}

theorem isi_exc {x x' : Str} {C C' e : Addr} {oe : Obj} {Q E : Value → Shared → Prop} (O : IsExc g x C) (O' : IsExc g x' C') (st : g.base.StaysIn s.heap) (hr : x' ≠ ("RowError" : Str)) (he : s.heap.get? e = some oe) (hcls : oe.cls = .ref C)
    (hq : ∀ tk, Q (.bool (decide (x' = x))) { s with toks := tk }) : wpAny (model g.p g.w) A (call (.builtin "isinstance") [.ref e, .ref C']) Q E s := by
  obtain ⟨bm, N, nm, qq, bs, hdct, sn, sub, ab, col, dd, k0, k1, k2, k3, k5, mN, hC, hN, hqu, Tl⟩ := O.own.obj
  obtain ⟨bm', N', nm', qq', bs', hdct', sn', sub', ab', col', dd', k0', k1', k2', k3', k5', mN', hC', hN', hqu', Tl'⟩ := O'.own.obj
  obtain ⟨R, OR, ⟨o, cd, ho, hcd, hnm, hmro, hnc⟩, ⟨oR, cdR, hoR, hcdR, hnmR, hmroR, hncR⟩⟩ := O.row
  obtain ⟨R', OR', ⟨o', cd', ho', hcd', hnm', hmro', hnc'⟩, _⟩ := O'.row
  rw [hC] at ho; cases ho
  rw [hC'] at ho'; cases ho'
  cases hcd; cases hcd'
  have ebm : bm = .ref R :: bmV := by injection hmro
  subst ebm
  by_cases hx : x' = x
  · have eC : C' = C := by
      have e1 := O.own.bound; rw [← hx, O'.own.bound] at e1; cases e1; rfl
    subst eC
    have q := hq s.toks
    rw [decide_eq_true hx] at q
    refine call_isinstance (S := fun _ R s' => s' = s ∧ R (.ok (.ret (.bool true))) s') (fun _ _ _ _ s' hs => ?_) ⟨rfl, q⟩
    obtain ⟨rfl, hs⟩ := hs
    obtain ⟨h, g, d, t, os⟩ := s'
    refine isinstance_outer ?_ (by intro q; cases q)
    have hcc : (Value.ref C' == Value.ref C') = true := beq_self_eq_true _
    have hC2 := st _ _ hC
    repeat (any_goals (first | assumption | (with_reducible refine wpAny_loadPart_at he ?_; rw [hcls]) | with_reducible refine wpAny_loadPart_at hC2 ?_ | wp_step))
  · have nC : C' ≠ C := fun q => by
      subst q; rw [hC] at hC'; cases hC'; exact hx (hnm'.symm.trans hnm)
    have nR : C' ≠ R := fun q => by
      subst q; rw [hC'] at hoR; cases hoR; cases hcdR; exact hr (hnm'.symm.trans hnmR)
    have hcc : (Value.ref C == Value.ref C') = false := beq_eq_false_iff_ne.mpr fun q => nC (by cases q; rfl)
    have hc1 : (Value.ref C' == Value.ref C) = false := beq_eq_false_iff_ne.mpr fun q => nC (by cases q; rfl)
    have hc2 : (Value.ref C' == Value.ref R) = false := beq_eq_false_iff_ne.mpr fun q => nR (by cases q; rfl)
    have q := hq (s.toks + 1)
    rw [decide_eq_false hx] at q
    refine call_isinstance (S := fun _ R s' => s' = s ∧ R (.ok (.ret (.bool false))) { s' with toks := s'.toks + 1 }) (fun _ _ _ _ s' hs => ?_) ⟨rfl, q⟩
    obtain ⟨rfl, hs⟩ := hs
    obtain ⟨h, g', d, t, os⟩ := s'
    refine isinstance_outer (isi_nested3 (st _ _ hC) (hN.keeps st) hqu (Tl.keeps st) (st _ _ hC') he hcls (fun A E t Q hQ => wpAny_lk_class (st _ _ hC) (hN.keeps st) (hnc _ hN) (fun Q hQ => ?_) hQ) ?_ hcc hs) (by intro q; cases q)
    · rw [lookupAlong_cons]
      obtain ⟨oc, od, odt, osl⟩ := oR
      simp only at hcdR
      subst hcdR
      obtain ⟨bmR, NR, nmR, qR, bsR, hR1, hR2, hR3, hR4, hR5, hR6, j0, j1, j2, j3, j5, mNR, hCR, hNR, _, _⟩ := OR.obj
      rw [hCR] at hoR
      cases hoR
      refine wpAny_bind (wpAny_classOwn_cls (st _ _ hCR) (hNR.keeps st) ?_)
      rw [hncR _ hNR]
      have hl : lookupAlong bmV "__class__" = pure (some (.builtin "object.__class__")) := by
        have := lk_class; rw [typeLookup_eq, PySem.F.attrBase_ValueError.mro] at this; exact this
      show wpAny _ _ (lookupAlong bmV "__class__") _ _ _
      rw [hl]
      exact wpAny_pure hQ
    · rw [List.contains_cons, List.contains_cons]
      rw [hc1, hc2]; rfl
end
end Mine
set_option Elab.async false
set_option maxRecDepth 100000
set_option linter.unusedVariables false
namespace Mine
open PySem PySem.Calls PyProof.Rows

section
variable {prog : Program} {w : World} {A : Around} {E : Value → Shared → Prop} {h : Heap} {g : Array GenState} {d : Drawn} {t : Nat} {os : OsState}
variable {nm q : Str} {C N : Addr} {bs bm : List Value} {hdct : Bool} {sn : List Str} {sub : List Value} {ab : Bool} {col : Option Bool} {dd : Option Addr} {k0 k1 k2 k3 k5 : Option Value} {newId : String}
variable {nm' q' : Str} {C' N' : Addr} {bs' bm' : List Value} {hdct' : Bool} {sn' : List Str} {sub' : List Value} {ab' : Bool} {col' : Option Bool} {dd' : Option Addr} {k0' k1' k2' k3' k5' : Option Value} {newId' : String}

theorem isi_nested {e : Addr} {oe : Obj} {T : String} {dep : Int} {tk : Tok} {Q : Fin → Shared → Prop} (hC : h.get? C = some (excClassObj nm q C N bs bm hdct sn sub ab col dd k0 k1 k2 k3 k5 newId)) (he : h.get? e = some oe) (hcls : oe.cls = .ref C)
    (hty : typeOf (.type T) = pure (.type "type")) (hin : bm.contains (.type T) = true) (hq : Q (.done (.ret (.bool true))) ⟨h, g, d, t, os⟩) :
    wpAny (model prog w) A (Builtin.«isinstance.nested» ⟨[.ref e, .type T, .int dep tk], []⟩) Q E ⟨h, g, d, t, os⟩ := by
  have hc : (Value.ref C :: bm).contains (.type T) = true := by rw [List.contains_cons, hin, Bool.or_true]
  repeat (first | assumption | (with_reducible refine wpAny_loadPart_at he ?_; rw [hcls]) | (with_reducible refine wpAny_isSubtype_exc hC ?_; rw [hc]) | wp_step)

theorem isi_own {e : Addr} {oe : Obj} {T : String} {s : Shared} {Q : Value → Shared → Prop} (hC : s.heap.get? C = some (excClassObj nm q C N bs bm hdct sn sub ab col dd k0 k1 k2 k3 k5 newId)) (he : s.heap.get? e = some oe) (hcls : oe.cls = .ref C)
    (hty : typeOf (.type T) = pure (.type "type")) (hin : bm.contains (.type T) = true) (hq : Q (.bool true) s) : wpAny (model prog w) A (call (.builtin "isinstance") [.ref e, .type T]) Q E s := by
  refine call_isinstance (S := fun _ R s' => s' = s ∧ R (.ok (.ret (.bool true))) s') (fun _ _ _ _ s' hs => ?_) ⟨rfl, hq⟩
  obtain ⟨rfl, hs⟩ := hs
  obtain ⟨h, g, d, t, os⟩ := s'
  exact isinstance_outer (isi_nested hC he hcls hty hin hs) (by intro q; cases q)
theorem exm_super {e : Addr} {oe : Obj} {Q : Bool → Shared → Prop} (hC : h.get? C = some (excClassObj nm q C N bs bm hdct sn sub ab col dd k0 k1 k2 k3 k5 newId))
    (hC' : h.get? C' = some (excClassObj nm' q' C' N' bs' bm' hdct' sn' sub' ab' col' dd' k0' k1' k2' k3' k5' newId')) (he : h.get? e = some oe) (hcls : oe.cls = .ref C)
    (hbase : bm'.contains (.type "BaseException") = true) (hin : (Value.ref C :: bm).contains (.ref C') = true) (hq : Q true ⟨h, g, d, t, os⟩) : wpAny (model prog w) A (excMatches (.ref e) (.ref C')) Q E ⟨h, g, d, t, os⟩ := by
  have hcB : (Value.ref C' :: bm').contains (.type "BaseException") = true := by rw [List.contains_cons, hbase, Bool.or_true]
  have f := tc_notTuple
  unfold excMatches
  repeat (first | (with_reducible refine wpAny_loadPart_at he ?_; rw [hcls]) | with_reducible refine wpAny_loadPart_at hC' ?_ | (with_reducible refine wpAny_isSubtype_exc hC' ?_; rw [hcB]) | (with_reducible refine wpAny_isSubtype_exc hC ?_; rw [hin]) | wp_step)
  exact hq

end

structure Hid (F : Fm) (sc : Scope) (h h' : Heap) (x : Str) : Prop where
  oth : ∀ y w, y ≠ x → VarIs (F.env sc) h y w → VarIs (F.env sc) h' y w
  keep : ∀ b o, h.get? b = some o → ¬ Priv F b → h'.get? b = some o
  ns : ∃ m, h'.Ns F.L m
  cells : ∀ p ∈ F.cl, ∃ o v, h'.get? p.2 = some o ∧ o.data = .cell v
theorem Stored.hid {F : Fm} {sc : Scope} {h h' : Heap} {x : Str} {v : Value} (S : Stored F sc h h' x v) : Hid F sc h h' x := ⟨S.oth, S.keep, S.ns, S.cells⟩

section
variable {fname : Nat → Str} {g : Gx} {Φ : Calls} {n : Nat} {F : Fm} {sc : Scope} {A : Around} {s s' : Shared} {ρ : Vars} {fp : Nat → List Addr} {h h' : Heap}

theorem Rel.hide (R : Rel g F sc h ρ fp) {x : Str} {i : Nat} (hx : (slots sc)[i]? = some x) (hi : ρ[i]? = some .unset) (S : Hid F sc h h' x) : Rel g F sc h' ρ fp := by
  refine ⟨fun b o e => S.keep b o (R.stays b o e) ?_, fun b o e => ?_, FunFrames.data (fun b o e hd => ?_) R.frames, S.ns, R.hL, fun p hp => ?_, R.cnd, R.ccov, R.len, R.nd, fun j e he => ?_, R.nofp, R.own⟩
  · exact fun q => by rw [(R.privOut q).2] at e; cases e
  · have hb : ¬ Priv F b := fun q => by rw [(R.privOut q).1] at e; cases e
    rcases R.held b o e with q | ⟨hd, sl, q⟩
    · exact .inl (S.keep b o q hb)
    · exact .inr ⟨hd, sl, S.keep b _ q hb⟩
  · by_cases hb : Priv F b
    · rcases hb with rfl | ⟨p, hp, rfl⟩
      · obtain ⟨m, o', es, ep, ho, hd', _⟩ := S.ns
        exact ⟨o', ho, fun vs q => by rw [hd'] at q; cases q⟩
      · obtain ⟨o', w, ho, hd'⟩ := S.cells p hp
        exact ⟨o', ho, fun vs q => by rw [hd'] at q; cases q⟩
    · exact ⟨o, S.keep b o e hb, hd⟩
  · obtain ⟨a, b, _⟩ := R.cells p hp
    exact ⟨a, b, S.cells p hp⟩
  · have hne : j ≠ i := fun q => by subst q; rw [hi] at he; rcases he with he | he <;> cases he
    obtain ⟨y, w, hy, hv, hr⟩ := R.vars j e he
    exact ⟨y, w, hy, S.oth y w (slots_ne R.nd hx hy hne) hv, R.rpStay S.keep hr⟩

theorem unbind_hid (R : Rel g F sc s.heap ρ fp) (hkd : sc.kind = .function) {x : Str} {v : Value} {pos : Pos} {Q : Unit → Shared → Prop} {E : Value → Shared → Prop} (hk : sc.names.lookup x = some .local) (hv : VarIs (F.env sc) s.heap x v)
    (hQ : ∀ h', Hid F sc s.heap h' x → Q () { s with heap := h' }) : wpAny (model g.p g.w) A (unbindBehindTheSuite (F.env sc) x pos) Q E s := by
  unfold unbindBehindTheSuite
  rcases hv with ⟨hl, m, hn, hm⟩ | ⟨hl, _⟩
  · refine wpAny_onRaise (wpAny_unbindName_local hl hn hm (by show (sc.kind == .class || (sc.kind == .module && F.L != mainGlobals)) = false; rw [hkd]; rfl) fun h' u hn' hs => hQ h' ?_)
    have hcl : ∀ p ∈ F.cl, p.2 ≠ F.L := fun p hp q => by
      obtain ⟨_, _, o, w, ho, hd⟩ := R.cells p hp
      obtain ⟨o', es, ep, ho', hd', _⟩ := hn
      rw [q] at ho
      rw [show (F.env sc).locals = F.L from rfl, ho] at ho'; cases ho'; rw [hd'] at hd; cases hd
    refine ⟨fun y w hne hv => ?_, fun b o e hb => (hs.2 b fun q => hb (.inl q)).trans e, ⟨_, hn'⟩, fun p hp => ?_⟩
    · rcases hv with ⟨hl', m', hm', hv'⟩ | ⟨hl', c, o, h1, h2, h3⟩
      · refine .inl ⟨hl', _, hn', ?_⟩
        rw [if_neg hne]
        obtain ⟨o, es, ep, ho, hd, _, hf⟩ := hn
        obtain ⟨o', es', ep', ho', hd', _, hf'⟩ := hm'
        rw [ho] at ho'
        cases ho'
        rw [hd] at hd'; cases hd'
        rw [← hf, hf', hv']
      · exact .inr ⟨hl', c, o, h1, (hs.2 c (hcl _ (mem_of_look h1))).trans h2, h3⟩
    · obtain ⟨_, _, o, w, ho, hd⟩ := R.cells p hp
      exact ⟨o, w, (hs.2 p.2 (hcl p hp)).trans ho, hd⟩
  · rw [show (F.env sc).kindOf x = sc.names.lookup x from rfl, hk] at hl; cases hl

theorem caught_rel {s₁ : Shared} {h' : Heap} (T : At fname g Φ n F sc A s₁ ρ fp) (k : (gone g (F.env sc :: F.outer) s₁.heap).StaysIn h') (u : s₁.heap.UpToSlots h') : Rel g F sc h' ρ fp :=
  T.rel.ext (gone_ext k u T.rel.frames) (gone_stays k T.rel.stays T.rel.frames)

theorem Rel.seqBut (R : Rel g F sc h ρ fp) {b : Addr} {vs vs' : Array Value} (o : SeqO h "list" b vs) (nb : F.H b = none ∧ g.base.get? b = none) (nf : ∀ j, b ∉ fp j) (hs : Heap.SameBut b h h') (o' : SeqO h' "list" b vs') : Rel g F sc h' ρ fp := by
  obtain ⟨vk, vsl, eb, _⟩ := id o
  have hpr : ¬ Priv F b := fun q => R.privData q eb vs vk rfl
  have k : ∀ c o, c ≠ b → h.get? c = some o → h'.get? c = some o := fun c o hc e => (hs.2 c hc).trans e
  refine ⟨stays_but R.stays nb.2 k, fun c o e => ?_, FunFrames.data (fun c o e hd => ?_) R.frames, ?_, R.hL, fun p hp => ?_, R.cnd, R.ccov, R.len, R.nd, fun i d e => ?_, R.nofp, R.own⟩
  · have hc : c ≠ b := fun q => by rw [q, nb.1] at e; cases e
    exact (R.held c o e).imp (k c o hc) fun ⟨hd, sl, q⟩ => ⟨hd, sl, k c _ hc q⟩
  · by_cases hc : c = b
    · subst hc; obtain ⟨_, _, e', _⟩ := o'; exact ⟨_, e', fun _ q => nomatch q⟩
    · exact ⟨o, k c o hc e, hd⟩
  · obtain ⟨m, hm⟩ := R.ns; exact ⟨m, hm.sameBut hs fun q => hpr (.inl q.symm)⟩
  · obtain ⟨c1, c2, o2, w, c3, c4⟩ := R.cells p hp
    exact ⟨c1, c2, o2, w, k _ _ (fun q => hpr (.inr ⟨p, hp, q.symm⟩)) c3, c4⟩
  · obtain ⟨y, v, hy, hv, r⟩ := R.vars i d e
    exact ⟨y, v, hy, VarIs.same R o hs hv, r.stay (stay_list o hs) fun a ha q => nf i (by rw [← show a = b from q]; exact ha)⟩

structure Hs (g : Gx) (F : Fm) (sc : Scope) (en wn : Str) (ρ : Vars) (fp : Nat → List Addr) (ex C b : Addr) (h : Heap) (l : List Str) : Prop where
  rel : Rel g F sc h ρ fp
  ve : VarIs (F.env sc) h en (.ref ex)
  vw : VarIs (F.env sc) h wn (.ref b)
  oe : ∃ o, h.get? ex = some o ∧ o.cls = .ref C
  ob : ∃ vs, SeqO h "list" b vs ∧ Rps h vs.toList (l.map .str) []
  nb : (F.H b = none ∧ g.base.get? b = none) ∧ ∀ j, b ∉ fp j

theorem Rps.strs {vs : List Value} {l : List Str} {as : List Addr} (r : Rps h vs (l.map .str) as) : Rps h' vs (l.map .str) [] := by
  induction l generalizing vs as with
  | nil => obtain ⟨rfl, _⟩ := r; exact .nil
  | cons z zs ih =>
    obtain ⟨v, ws, bs, cs, rfl, _, r1, r2⟩ := r
    exact Rps.cons (as := []) (bs := []) (r1.anywhere rfl) (ih r2)

theorem Hs.push {en wn : Str} {ex C b : Addr} {l : List Str} {x : Str} {t : Tok} (H : Hs g F sc en wn ρ fp ex C b h l) (hl : l.length < 1000) (hx : x.cps.size ≤ sizeLine) : Hs g F sc en wn ρ fp ex C b (h.update b (Obj.mapSeq (·.push (.str x t)))) (l ++ [x]) := by
  obtain ⟨R, ve, vw, ⟨o, e1, e2⟩, ⟨vs, ob, r⟩, nb⟩ := H
  have hs := Heap.SameBut.update h b (Obj.mapSeq (·.push (.str x t)))
  have ob' := seq_update (f := (·.push (.str x t))) ob (by rw [Array.size_push, ← Array.length_toList, r.length, List.length_map]; exact Nat.le_trans (Nat.succ_le_of_lt hl) (by decide))
  refine ⟨R.seqBut ob nb.1 nb.2 hs ob', VarIs.same R ob hs ve, VarIs.same R ob hs vw, ⟨o, (hs.2 ex fun q => ?_).trans e1, e2⟩, ⟨_, ob', ?_⟩, nb⟩
  · obtain ⟨_, _, e3, _⟩ := ob
    rw [q, e3] at e1; cases e1; cases e2
  · rw [Array.toList_push, List.map_append]
    exact Rps.append (as := []) (bs := []) r.strs (Rps.cons (as := []) (bs := []) (.str _ _ hx) .nil)

theorem isi_test {en wn cn x : Str} {ex C b : Addr} {l : List Str} {ip q1 q2 cp : Pos} {Q : Value → Shared → Prop} {E : Value → Shared → Prop} (G : Gd g) (hk : sc.kind = .function) (H : Hs g F sc en wn ρ fp ex C b s.heap l) (O : IsExc g x C) (O' : ∃ C', IsExc g cn C') (hr : cn ≠ ("RowError" : Str))
    (hisi : sc.names.lookup ("isinstance" : Str) = some .globalImplicit) (hcn : sc.names.lookup cn = some .globalImplicit) (hd : (en == ("__debug__" : Str)) = false) (hd2 : (cn == ("__debug__" : Str)) = false)
    (hQ : ∀ tk, Q (.bool (decide (cn = x))) { s with toks := tk }) : wpAny (model g.p g.w) A (eval (.Call (.Name "isinstance" ip) [.Name en q1, .Name cn q2] [] cp) (F.env sc)) Q E s := by
  obtain ⟨C', O'⟩ := O'
  obtain ⟨oe, e1, e2⟩ := H.oe
  refine wpAny_Call_ofName (blt_k (v := .builtin "isinstance") G hk H.rel.stays hisi rfl (by decide) (callWith_builtin1 (args_cons (load_k hk H.ve hd ?_) (starEach_cons rfl)) (starEach_cons rfl) rfl))
  refine args_cons (Name_function_global hk hcn (loadGlobal_global (G.glb.keeps H.rel.stays) O'.own.bound (args_nil ?_)) hd2) (starEach_cons rfl)
  exact isi_exc O O' H.rel.stays hr e1 e2 hQ

inductive Tests (en wn : Str) : List Stmt → List (Str × Str) → Prop
  | nil : Tests en wn [] []
  | cons {ip q1 q2 cp wp ap kp app ep pos : Pos} {k : Nat} {cn wd : Str} {r : List Stmt} {l : List (Str × Str)} : (ap.endLine == app.line) = true → wd.cps.size ≤ 100 → Tests en wn r l →
    Tests en wn (.If (.Call (.Name "isinstance" ip) [.Name en q1, .Name cn q2] [] cp) [.Expr (.Call (.Attribute (.Name wn wp) "append" ap) [.Constant (.str wd) k kp] [] app) ep] [] pos :: r) ((cn, wd) :: l)

theorem tests_run {en wn x : Str} {ex C b : Addr} {E : Value → Shared → Prop} {sts rest : List Stmt} {tl : List (Str × Str)} {R : Flow → Shared → Prop} (hT : Tests en wn sts tl) (O : IsExc g x C)
    (hO : ∀ p ∈ tl, (∃ C', IsExc g p.1 C') ∧ p.1 ≠ ("RowError" : Str) ∧ sc.names.lookup p.1 = some .globalImplicit ∧ (p.1 == ("__debug__" : Str)) = false)
    (G : Gd g) (hk : sc.kind = .function) (hisi : sc.names.lookup ("isinstance" : Str) = some .globalImplicit) (hd : (en == ("__debug__" : Str)) = false) (hdw : (wn == ("__debug__" : Str)) = false) :
    ∀ {s : Shared} {l : List Str}, Hs g F sc en wn ρ fp ex C b s.heap l → l.length + tl.length < 1000 →
    (∀ s', Later s s' → Hs g F sc en wn ρ fp ex C b s'.heap (l ++ (tl.filter fun p => decide (p.1 = x)).map (·.2)) → wpAny (model g.p g.w) A (execs rest (F.env sc)) R E s') →
    wpAny (model g.p g.w) A (execs (sts ++ rest) (F.env sc)) R E s := by
  induction hT with
  | nil =>
    intro s l H hl hQ
    exact hQ s (.refl s) (by rw [List.filter_nil, List.map_nil, List.append_nil]; exact H)
  | @cons ip q1 q2 cp wp ap kp app ep pos k cn wd r tl' hln hw _ ih =>
    intro s l H hl hQ
    obtain ⟨o1, o2, o3, o4⟩ := hO _ (.head _)
    have ih' := @ih fun p hp => hO p (.tail _ hp)
    have hl' : l.length + tl'.length < 1000 := by rw [List.length_cons] at hl; omega
    refine wpAny_execs_cons (wpAny_If (wpAny_isTrue_value (isi_test G hk H O o1 o2 hisi o3 hd o4 fun tk => wpAny_truthy_bool ?_) rfl))
    by_cases hx : cn = x
    · rw [decide_eq_true hx]
      obtain ⟨vs, ⟨en', sl, eb, sz⟩, rb⟩ := H.ob
      refine wpAny_execs_cons (wpAny_Expr_any (wpAny_Call_append rfl rfl hln rfl (load_k (s := { s with toks := tk }) hk H.vw hdw ⟨b, vs, rfl, ⟨_, en', eb, rfl, rfl, rfl⟩, wpAny_Constant_str (append_heap (s := { s with toks := tk + 1 }) eb rfl rfl sz ?_)⟩)) (no_inter hk) rfl)
      refine wpAny_execs_nil ?_
      have H' := H.push (t := tk) (x := wd) (by omega) (Nat.le_trans hw (by decide))
      refine ih' H' (by rw [List.length_append]; show l.length + 1 + _ < _; rw [List.length_cons] at hl; omega) fun s' hs' Hs' => hQ s' (Later.trans ⟨_, _, rfl⟩ hs') ?_
      rw [List.filter_cons, if_pos (decide_eq_true hx), List.map_cons]
      rw [List.append_assoc] at Hs'
      exact Hs'
    · rw [decide_eq_false hx]
      refine wpAny_execs_nil (ih' (s := { s with toks := tk }) H hl' fun s' hs' Hs' => hQ s' (Later.trans ⟨_, _, rfl⟩ hs') ?_)
      rw [List.filter_cons, if_neg (by rw [decide_eq_false hx]; decide)]
      exact Hs'

theorem told_ret {en wn x wd : Str} {ex C b : Addr} {ip q1 q2 cp lp lq lcp op cmp bp wp zp sp op2 pos : Pos} {k0 k1 k2 : Nat} {od : Str} {Q : Value → Shared → Prop} {E : Value → Shared → Prop} (G : Gd g) (hk : sc.kind = .function) (H : Hs g F sc en wn ρ fp ex C b s.heap [wd]) (O : IsExc g x C)
    (hisi : sc.names.lookup ("isinstance" : Str) = some .globalImplicit) (hve : sc.names.lookup ("ValueError" : Str) = some .globalImplicit) (hlen : sc.names.lookup ("len" : Str) = some .globalImplicit) (hd : (en == ("__debug__" : Str)) = false) (hdw : (wn == ("__debug__" : Str)) = false)
    (hQ : ∀ t tk, Q (.str wd t) { s with toks := tk }) :
    wpAny (model g.p g.w) A (eval (.IfExp (.BoolOp .And [.Compare (.Call (.Name "len" lp) [.Name wn lq] [] lcp) [.Eq] [.Constant (.int 1) k1 op] cmp, .Call (.Name "isinstance" ip) [.Name en q1, .Name "ValueError" q2] [] cp] bp) (.Subscript (.Name wn wp) (.Constant (.int 0) k0 zp) sp) (.Constant (.str od) k2 op2) pos) (F.env sc)) Q E s := by
  obtain ⟨vs, ⟨m, sl, eb, sz⟩, rb⟩ := H.ob
  obtain ⟨v, ws, b1, b2, hvs, _, ⟨⟨t, rfl⟩, _⟩, rfl, _⟩ := rb
  have hz : vs.size = 1 := by rw [← Array.length_toList, hvs]; rfl
  have h0 : vs[(0 : Int).toNat]? = some (.str wd t) := by rw [← Array.getElem?_toList, hvs]; rfl
  obtain ⟨oe, e1, e2⟩ := H.oe
  refine wpAny_IfExp (wpAny_isTrue_BoolOp (wpAny_allTrue_And_cons (wpAny_isTrue_Compare1 ?_ rfl)))
  refine wpAny_Call_ofName (blt_k (v := .builtin "len") G hk H.rel.stays hlen rfl (by decide) (callWith_builtin1 (args_cons (load_k hk H.vw hdw (args_nil (PySem.Calls.call_len_list ⟨_, eb, rfl, _, rfl⟩ (line_lt sz) ?_))) (starEach_cons rfl)) (starEach_cons rfl) rfl))
  rw [hz]
  refine wpAny_Constant_int (P.eq_int (wpAny_truthy_bool ?_))
  show wpAny _ _ (allTrue .And [.Call (.Name "isinstance" ip) [.Name en q1, .Name "ValueError" q2] [] cp] (F.env sc)) _ _ _
  refine wpAny_allTrue_And_cons (wpAny_isTrue_value (wpAny_Call_ofName (blt_k (v := .builtin "isinstance") G hk H.rel.stays hisi rfl (by decide) (callWith_builtin1 (args_cons (load_k hk H.ve hd (args_cons (blt_k (v := .type "ValueError") G hk H.rel.stays hve rfl (by decide) (args_nil ?_)) (starEach_cons rfl))) (starEach_cons rfl)) (starEach_cons rfl) rfl))) rfl)
  obtain ⟨bm, N, nm, qq, bs, hdct, sn, sub, ab, col, dd, j0, j1, j2, j3, j5, mN, hC, hN, hqu, Tl⟩ := O.own.obj
  refine isi_own (H.rel.stays _ _ hC) e1 e2 (by kernel_rfl) (Tl.tail.hasType (by decide)) (wpAny_truthy_bool ?_)
  refine wpAny_allTrue_And_nil ?_
  show wpAny _ _ (eval (.Subscript (.Name wn wp) (.Constant (.int 0) k0 zp) sp) (F.env sc)) _ _ _
  refine Subscript_ (load_k hk H.vw hdw (wpAny_Constant_int ?_))
  exact tail_any (T := "list") ⟨_, eb, rfl⟩ slot_list_getitem.lookup (wpAny_getItem_list ⟨_, eb, rfl, _, rfl⟩ (by decide) (by decide) h0 (hQ _ _)) rfl

theorem sem_tryT {fn en wn : Str} {np cp ep rp hp pos wp wlp wpos : Pos} {e rv : Expr} {es : List Expr} {rpos : Pos} {xs : Xs} {f j w : Nat} {sts : List Stmt} {tl : List (Str × Str)}
    (hj : (slots sc)[j]? = some en) (hje : sc.names.lookup en = some .local) (hw : (slots sc)[w]? = some wn) (hwe : sc.names.lookup wn = some .local) (hwj : w ≠ j)
    (hfn : sc.names.lookup fn = some .globalImplicit) (hn : fname f = fn) (hf : f < 500) (hne : fn ≠ Str.empty) (hdf : (fn == ("__debug__" : Str)) = false)
    (hs : plainE e = true) (ha : SemL fname sc (e :: es) xs) (hrn : sc.names.lookup ("RowError" : Str) = some .globalImplicit)
    (hT : Tests en wn sts tl) (hO : ∀ p ∈ tl, (∃ c, 2000 ≤ c ∧ c ≤ 2005 ∧ fname c = p.1) ∧ p.1 ≠ ("RowError" : Str) ∧ sc.names.lookup p.1 = some .globalImplicit ∧ (p.1 == ("__debug__" : Str)) = false) (hl : tl.length < 100)
    (hword : ∀ c, 2000 ≤ c → c ≤ 2005 → (tl.filter fun p => decide (p.1 = fname c)).map (·.2) = [Mine.st (wordOf c)])
    (hisi : sc.names.lookup ("isinstance" : Str) = some .globalImplicit) (hd : (en == ("__debug__" : Str)) = false) (hdw : (wn == ("__debug__" : Str)) = false)
    (hret : ∀ (g : Gx) (F : Fm) (A : Around) (s : Shared) (ρ : Vars) (fp : Nat → List Addr) (x wd : Str) (ex C b : Addr) (Q E : Value → Shared → Prop), Gd g → Hs g F sc en wn ρ fp ex C b s.heap [wd] → IsExc g x C → (∀ t tk, Q (.str wd t) { s with toks := tk }) → wpAny (model g.p g.w) A (eval rv (F.env sc)) Q E s) :
    SemS fname sc (.Try [.Expr (.Call (.Name fn np) (e :: es) [] cp) ep] [.ExceptHandler (some (.Name "RowError" rp)) (some en) (.Assign [.Name wn wp] (.List [] wlp) wpos :: (sts ++ [.Return (some rv) rpos])) hp] [] [] pos) (.tryT f xs j w) := by
  intro g Φ n F A s ρ fp Q Z R E T h P
  refine wpAny_Try_except ?_
  rcases h with h | ⟨hun, hwu, h⟩
  · refine wpAny_execs_cons (wpAny_Expr_any (sem_call (np := np) (pos := cp) hfn hn hf hne hdf hs ha g Φ n F A s ρ fp (fun _ _ => Q .next ρ) _ _ T h fun v s₁ d fg as hq st r fo => ?_) (not_interactive T) rfl)
    exact wpAny_execs_nil (wpAny_execs_nil (P.next hq st.later (T.step st).rel))
  · refine wpAny_execs_cons (wpAny_Expr_any (call_raises (np := np) (pos := cp) (Z := fun c => 2000 ≤ c ∧ c ≤ 2005 ∧ Q (.ret (.str (Mine.st (wordOf c))) true) ρ) T hfn hn hf hne hdf hs ha h fun c C ex a0 s₁ s' hP O st hl' hfl hup => ?_) (not_interactive T) rfl)
    have T₁ := T.step st
    refine wpAny_looks_onW T.room.frames rfl hfl fun h₂ hh up₂ => ?_
    refine wpAny_landsW hh fun h₃ fl₃ up₃ => ?_
    have up : s₁.heap.UpToSlots h₃ := (hup.trans up₂).trans up₃
    obtain ⟨f1, f2, f3, f4⟩ := fl₃
    have R₃ := caught_rel T₁ f1 up
    have st₃ : ∀ b o, g.base.get? b = some o → h₃.get? b = some o := R₃.stays
    obtain ⟨oe, he', hcls⟩ := f4.at.there
    obtain ⟨bm, N, nm, qq, bs, hdct, sn, sub, ab, col, dd, k0, k1, k2, k3, k5, mN, hC, hN, hq, Tl⟩ := O.own.obj
    obtain ⟨CR, OR, ⟨oc, cd, hoc, hcd, _, hmro, _⟩, _⟩ := O.row
    obtain ⟨bm', N', nm', qq', bs', hdct', sn', sub', ab', col', dd', k0', k1', k2', k3', k5', mN', hC', hN', hq', Tl'⟩ := OR.obj
    have hin : (Value.ref C :: bm).contains (.ref CR) = true := by
      rw [hC] at hoc; cases hoc; cases hcd
      have e : Value.ref C :: bm = _ := hmro
      rw [e, List.contains_cons, List.contains_cons, beq_self_eq_true, Bool.true_or, Bool.or_true]
    refine wpAny_handleBy_cons (codeAny_handlers_test (Name_function_global T.kind hrn (loadGlobal_global (T.gd.glb.keeps st₃) OR.bound ?_) (by decide))) (by intro q; cases q)
    refine exm_super (st₃ _ _ hC) (st₃ _ _ hC') he' hcls (Tl'.tail.hasType (by decide)) hin ?_
    refine codeAny_handlers_suite_as (wpAny_setFlight_noneW f1 f3 f4.at fun h₄ g1 g2 g3 g4 => ?_)
    have R₄ := caught_rel T₁ g1 (up.trans fun b o e hn => ⟨o.slots, g4 b o e hn⟩)
    obtain ⟨oe', he'', hcls'⟩ := g3.at.there
    refine store0 (i := j) (s := { s' with heap := h₄ }) T.kind R₄ (.inl hje) fun h₅ tk₅ S₅ => ?_
    have R₅ := R₄.hide hj hun S₅.hid
    have hex : h₅.get? ex = some oe' := S₅.keep ex oe' he'' fun q => by
      obtain ⟨oe2, vs2, T2, oT2, ts2, he2, _, hd2, _⟩ := g3
      exact R₄.privFields q he2 _ hd2
    have hL5 : Later s { s' with heap := h₅, toks := tk₅ } := (st.later.trans hl').trans ⟨_, _, rfl⟩
    refine wpAny_execs_cons (wpAny_Assign_Name (wpAny_List (spliced_nil ⟨by show 0 ≤ sizeLine; decide, ?_⟩)) rfl)
    have R₅' : Rel g F sc (h₅.push { cls := .type "list", data := .seq ([] : List Value).toArray }) ρ fp := R₅.ext (Ext.push _ _) fun b o e => Heap.get?_push_of_some _ (R₅.stays b o e)
    refine store0 (i := w) T.kind R₅' (.inl hwe) fun h₆ tk₆ S₆ => ?_
    have R₆ := R₅'.hide hw hwu S₆.hid
    have obP : (h₅.push { cls := .type "list", data := .seq ([] : List Value).toArray }).get? h₅.objs.size = some { cls := .type "list", data := .seq ([] : List Value).toArray } := Heap.get?_push_size _ rfl
    have H₆ : Hs g F sc en wn ρ fp ex C h₅.objs.size h₆ [] := by
      refine ⟨R₆, S₆.oth en _ (slots_ne T.rel.nd hw hj (Ne.symm hwj)) (S₅.is.ext (Ext.push _ _)), S₆.is, ⟨oe', S₆.keep _ _ (Heap.get?_push_of_some _ hex) fun q => ?_, hcls'⟩, ⟨_, ⟨_, _, S₆.keep _ _ obP fun q => ?_, Nat.zero_le _⟩, .nil⟩, R₅.newH (fresh_size h₅), fun j => R₅.newFp (fresh_size h₅) j⟩
      · obtain ⟨oe2, vs2, T2, oT2, ts2, he2, _, hd2, _⟩ := g3
        have e2 : oe2 = oe' := by rw [he''] at he2; cases he2; rfl
        subst e2
        exact R₅'.privFields q (Heap.get?_push_of_some _ hex) _ hd2
      · exact R₅'.privData q obP _ _ rfl
    have hw' := hword c hP.1 hP.2.1
    refine tests_run (s := { s' with heap := h₆, toks := tk₆ }) hT O (fun p hp => ⟨by obtain ⟨⟨c', h1, h2, h3⟩, _⟩ := hO p hp; rw [← h3]; exact T.exc c' h1 h2, (hO p hp).2⟩) T.gd T.kind hisi hd hdw H₆ (by show 0 + _ < _; omega) fun s₇ hl₇ H₇ => ?_
    rw [List.nil_append, hw'] at H₇
    refine wpAny_execs_cons (wpAny_Return_some (hret g F _ s₇ ρ fp _ _ ex C _ _ _ T.gd H₇ O fun tv tk₈ => ?_))
    show wpAny _ _ (do bindName (F.env sc) en .none; unbindBehindTheSuite (F.env sc) en hp) _ _ _
    refine wpAny_bind (bindName_ (store0 (i := j) (s := { s₇ with toks := tk₈ }) T.kind H₇.rel (.inl hje) fun h₉ tk₉ S₉ => ?_))
    have R₉ := H₇.rel.hide hj hun S₉.hid
    refine unbind_hid (s := { s₇ with heap := h₉, toks := tk₉ }) R₉ T.kind hje S₉.is fun h₁₀ S₁₀ => ?_
    have R₁₀ := R₉.hide hj hun S₁₀
    refine P.nor _ (.ret (.str _ tv)) _ _ _ hP.2.2 ⟨_, [], rfl, .str _ _ ?_, fun _ => ⟨List.nodup_nil, fun _ ha => (nomatch ha)⟩⟩ ((hL5.trans (Later.trans ⟨_, _, rfl⟩ hl₇)).trans ⟨_, _, rfl⟩) R₁₀
    obtain ⟨vs, _, ⟨v, ws, b1, b2, _, _, ⟨_, _, hz⟩, _⟩⟩ := H₇.ob
    exact hz
end
end Mine
set_option Elab.async false
set_option maxRecDepth 100000
set_option linter.unusedVariables false
namespace Mine
open PySem PySem.Calls PyProof.Rows

section
variable (fname : Nat → Str) (fid : Str → Option Nat) (sc : Scope)

structure Ok (fname : Nat → Str) (sc : Scope) (ex : Expr) (x : X) : Prop where
  e : SemE fname sc ex x
  t : SemT fname sc ex x
  xe : SemXE fname sc ex x
  xt : SemXT fname sc ex x
theorem ok {fname sc} {e : Expr} {x : X} (h : SemE fname sc e x) (hp : ∀ env whole, isTrue e env whole = (do let v ← whole; standAt e.pos; holding [v] (truthy v))) (hx : noX x = true) : Ok fname sc e x := ⟨h, sem_test h hp, xe_no hx, xt_no hx⟩
noncomputable abbrev CE (e : Expr) : Type := Option { x : X // Ok fname sc e x }
noncomputable abbrev CS (st : Stmt) : Type := Option { z : S // SemS fname sc st z }

noncomputable def slotOf (x : Str) : Option { i : Nat // (slots sc)[i]? = some x } :=
  match (slots sc).idxOf? x with
  | some i => if h : (slots sc)[i]? = some x then some ⟨i, h⟩ else none
  | none => none
noncomputable def cOp : (op : Operator) → Option { o : Op // opOf o = op }
  | .Add => some ⟨.add, rfl⟩
  | .Sub => some ⟨.sub, rfl⟩
  | .Mult => some ⟨.mul, rfl⟩
  | .FloorDiv => some ⟨.fdiv, rfl⟩
  | .Mod => some ⟨.mod, rfl⟩
  | _ => none
noncomputable def cCm : (op : CmpOp) → Option { o : Cm // cmOf o = op }
  | .Eq => some ⟨.eq, rfl⟩
  | .NotEq => some ⟨.ne, rfl⟩
  | .Lt => some ⟨.lt, rfl⟩
  | .LtE => some ⟨.le, rfl⟩
  | .Gt => some ⟨.gt, rfl⟩
  | .GtE => some ⟨.ge, rfl⟩
  | .In => some ⟨.isin, rfl⟩
  | .NotIn => some ⟨.notin, rfl⟩
  | _ => none
noncomputable def cBop : (op : BoolOp) → { i : Bool // bopOf i = op }
  | .And => ⟨true, rfl⟩
  | .Or => ⟨false, rfl⟩
noncomputable def guard' {p : Prop} [Decidable p] {α : Type} (k : p → α) : Option α := if h : p then some (k h) else none

noncomputable def cName (x : Str) (pos : Pos) : CE fname sc (.Name x pos) :=
  if hd : (x == ("__debug__" : Str)) = false then
    match slotOf sc x with
    | some ⟨i, hi⟩ => some ⟨.var i, ok (sem_var hi hd) (fun _ _ => rfl) rfl⟩
    | none => match fid x with
      | some k => guard' fun h : sc.names.lookup x = some .globalImplicit ∧ 1000 ≤ k ∧ fname k = x =>
          ⟨.glob (k - 1000), ok (sem_glob h.1 (by rw [show 1000 + (k - 1000) = k by omega]; exact h.2.2) hd) (fun _ _ => rfl) rfl⟩
      | none => none
  else none

noncomputable def userCall (f : Str) (np pos : Pos) (e : Expr) (es : List Expr) (l : Option { xs : Xs // SemL fname sc (e :: es) xs }) : CE fname sc (.Call (.Name f np) (e :: es) [] pos) :=
  match fid f, l with
  | some k, some ⟨xs, hxs⟩ =>
    guard' fun h : sc.names.lookup f = some .globalImplicit ∧ fname k = f ∧ k < 500 ∧ f ≠ Str.empty ∧ (f == ("__debug__" : Str)) = false ∧ plainE e = true =>
      have hc := call_flies h.1 h.2.1 h.2.2.1 h.2.2.2.1 h.2.2.2.2.1 h.2.2.2.2.2 hxs
      have hs := sem_call h.1 h.2.1 h.2.2.1 h.2.2.2.1 h.2.2.2.2.1 h.2.2.2.2.2 hxs
      ⟨.call k xs, hs, sem_test hs fun _ _ => rfl, hc, xt_of hc fun _ _ => rfl⟩
  | _, _ => none
noncomputable def call1 (f : Str) (np pos : Pos) (e : Expr) (a : CE fname sc e) : CE fname sc (.Call (.Name f np) [e] [] pos) :=
  match a with
  | some ⟨x, hx⟩ => if hs : plainE e = true ∧ sc.names.lookup f = some .globalImplicit then
      if h : f = ("len" : Str) then some ⟨.len x, by subst h; exact ok (sem_len hs.2 hs.1 hx.e) (fun _ _ => rfl) rfl⟩
      else if h : f = ("list" : Str) then some ⟨.listOf x, by subst h; exact ok (sem_listOf hs.2 hs.1 hx.e) (fun _ _ => rfl) rfl⟩
      else if h : f = ("int" : Str) then some ⟨.intOf x, by subst h; exact ok (sem_intOf hs.2 hs.1 hx.e) (fun _ _ => rfl) rfl⟩
      else none
    else none
  | none => none
noncomputable def cTy (x : Str) : Option { t : Ty // x = Str.ofString (tyName t) } :=
  if h : x = ("int" : Str) then some ⟨.int, h⟩ else if h : x = ("bool" : Str) then some ⟨.bool, h⟩ else if h : x = ("list" : Str) then some ⟨.list, h⟩ else if h : x = ("str" : Str) then some ⟨.str, h⟩ else none
noncomputable def call2 (f : Str) (np pos : Pos) (e e' : Expr) (a : CE fname sc e) (b : CE fname sc e') : CE fname sc (.Call (.Name f np) [e, e'] [] pos) :=
  match a with
  | some ⟨x, hx⟩ => if hs : plainE e = true ∧ plainE e' = true ∧ sc.names.lookup f = some .globalImplicit then
      if h : f = ("max" : Str) then match b with
        | some ⟨y, hy⟩ => some ⟨.max x y, by subst h; exact ok (sem_max hs.2.2 hs.1 hs.2.1 hx.e hy.e) (fun _ _ => rfl) rfl⟩
        | none => none
      else if h : f = ("isinstance" : Str) then match e' with
        | .Name t tp => match cTy t with
          | some ⟨ty, ht⟩ => guard' fun hg : sc.names.lookup t = some .globalImplicit => ⟨.isinst x ty, by subst h; subst ht; exact ok (sem_isinst hs.2.2 hg hs.1 hx.e) (fun _ _ => rfl) rfl⟩
          | none => none
        | _ => none
      else none
    else none
  | none => none
noncomputable def cSplit (z nm : Str) (zp apos q pos : Pos) (kk : Nat) (c : Const) (a : CE fname sc (.Name z zp)) : CE fname sc (.Call (.Attribute (.Name z zp) nm apos) [.Constant c kk q] [] pos) :=
  match c, a with
  | .str m, some ⟨x, hx⟩ => guard' fun h : nm = ("split" : Str) ∧ m = ⟨#[46]⟩ ∧ (apos.endLine == pos.line) = true => ⟨.split x, by
      obtain ⟨h1, h2, h3⟩ := h; subst h1 h2; exact ok (sem_split h3 hx.e) (fun _ _ => rfl) rfl⟩
  | _, _ => none
noncomputable def cJoin (c : Const) (nm f f2 x x' : Str) (kc : Nat) (np xp ecp px rp cp pos' cq apos pos : Pos) (it : Expr) (scope : Scope) (a : CE fname sc it) :
    CE fname sc (.Call (.Attribute (.Constant c kc cq) nm apos) [.ListComp (.Call (.Name f np) [.Name x' xp] [] ecp) [⟨.Name x px, .Call (.Name f2 rp) [it] [] cp, [], 0⟩] scope pos'] [] pos) :=
  match c, a with
  | .str m, some ⟨y, hy⟩ => if h : nm = ("join" : Str) ∧ m = ⟨#[46]⟩ ∧ f = ("str" : Str) ∧ f2 = ("reversed" : Str) ∧ x' = x ∧ (apos.endLine == pos.line) = true ∧ sc.names.lookup ("reversed" : Str) = some .globalImplicit ∧ plainE it = true then
      guard' fun h2 : scope.kind = .function ∧ (∀ y ∈ scope.names, y.2 ≠ .cell) ∧ (∀ y ∈ scope.names, y.2 = .free → sc.names.lookup y.1 = some .cell) ∧ (∀ y ∈ scope.names, y.2 = .local → scope.names.lookup y.1 = some .local) ∧ scope.names.lookup x = some .local ∧ (x == ("__debug__" : Str)) = false ∧ scope.names.lookup ("str" : Str) = some .globalImplicit =>
        ⟨.joinS y, by
          obtain ⟨a1, a2, a3, a4, a5, a6, a7, a8⟩ := h
          obtain ⟨b1, b2, b3, b4, b5, b6, b7⟩ := h2
          subst a1 a2 a3 a4 a5
          exact ok (sem_join a6 a7 a8 hy.e b1 b2 b3 b4 b5 b6 b7) (fun _ _ => rfl) rfl⟩
    else none
  | _, _ => none
noncomputable def cKept (l r : Expr) (op : CmpOp) (pos : Pos) : CE fname sc (.Compare l [op] [r] pos) :=
  match l, op, r with
  | .Name x p1, .Eq, .List [.Name y p2, .Name z p3] lp => match slotOf sc x, slotOf sc y, slotOf sc z with
    | some ⟨k, hk⟩, some ⟨i, hi⟩, some ⟨j, hj⟩ => guard' fun h : (x == ("__debug__" : Str)) = false ∧ (y == ("__debug__" : Str)) = false ∧ (z == ("__debug__" : Str)) = false => ⟨.keptEq k i j, sem_kept hk hi hj h.1 h.2.1 h.2.2, sem_kept_t hk hi hj h.1 h.2.1 h.2.2, xe_no rfl, xt_no rfl⟩
    | _, _, _ => none
  | _, _, _ => none
noncomputable def cCmp1 (l r : Expr) (op : CmpOp) (pos : Pos) (a : CE fname sc l) (b : CE fname sc r) : CE fname sc (.Compare l [op] [r] pos) :=
  match cKept fname sc l r op pos with
  | some z => some z
  | none => match a, b, cCm op with
    | some ⟨a, ha⟩, some ⟨b, hb⟩, some ⟨o, ho⟩ => guard' fun hm : behindInMarks op r = false => ⟨.cmp o a b, by subst ho; exact ⟨sem_cmp ha.e hb.e hm, sem_cmp_t ha.e hb.e hm, xe_no rfl, xt_no rfl⟩⟩
    | _, _, _ => none
noncomputable def cCmp2 (l r r' : Expr) (op op' : CmpOp) (pos : Pos) (a : CE fname sc l) (b : CE fname sc r) (c : CE fname sc r') : CE fname sc (.Compare l [op, op'] [r, r'] pos) :=
  match a, b, c, cCm op, cCm op' with
  | some ⟨a, ha⟩, some ⟨b, hb⟩, some ⟨c, hc⟩, some ⟨o, ho⟩, some ⟨o', ho'⟩ => guard' fun hm : behindInMarks op' r' = false => ⟨.cmp2 o o' a b c, by subst ho; subst ho'; exact ⟨sem_cmp2 ha.e hb.e hc.e hm, sem_cmp2_t ha.e hb.e hc.e hm, xe_no rfl, xt_no rfl⟩⟩
  | _, _, _, _, _ => none
noncomputable def cDict (ks : List (Option Expr)) (vs : List Expr) (pos : Pos) : CE fname sc (.Dict ks vs pos) :=
  match ks, vs with
  | [some (.Constant c1 k1 p1)], [.Constant c2 k2 p2] => match c1, c2 with
    | .int 0, .int 1 => some ⟨.dict01, ok sem_dict01 (fun _ _ => rfl) rfl⟩
    | _, _ => none
  | _, _ => none
noncomputable def cConst (c : Const) (k : Nat) (pos : Pos) : CE fname sc (.Constant c k pos) :=
  match c with
  | .int i => some ⟨.int i, ok sem_int (fun _ _ => rfl) rfl⟩
  | .bool b => some ⟨.bool b, ok sem_bool (fun _ _ => rfl) rfl⟩
  | .none => some ⟨.none, ok sem_none (fun _ _ => rfl) rfl⟩
  | .str s => guard' fun hz : s.cps.size ≤ sizeLine => ⟨.str s, ok (sem_str hz) (fun _ _ => rfl) rfl⟩
  | _ => none

mutual
noncomputable def cE : (e : Expr) → CE fname sc e
  | .Constant c k pos => cConst fname sc c k pos
  | .Name x pos => cName fname fid sc x pos
  | .BinOp l op r pos => match cE l, cE r, cOp op with
    | some ⟨a, ha⟩, some ⟨b, hb⟩, some ⟨o, ho⟩ => some ⟨.bin o a b, ok (by subst ho; exact sem_bin ha.e hb.e) (fun _ _ => rfl) rfl⟩
    | _, _, _ => none
  | .UnaryOp op e pos => match cE e with
    | some ⟨a, ha⟩ => match op with
      | .Not => some ⟨.not a, sem_not ha.e, sem_not_t ha.t, xe_not ha.xe, xt_not ha.xt⟩
      | .USub => some ⟨.neg a, ok (sem_neg ha.e) (fun _ _ => rfl) rfl⟩
      | _ => none
    | none => none
  | .BoolOp op es pos => match cBop op with
    | ⟨i, hi⟩ => match cB i es with
      | some ⟨xs, hxs⟩ => some ⟨bX i xs, by subst hi; cases i <;> exact ⟨sem_bool_op hxs.1, sem_bool_op_t hxs.2, xe_no rfl, xt_no rfl⟩⟩
      | none => none
  | .Compare l [op] [r] pos => cCmp1 fname sc l r op pos (cE l) (cE r)
  | .Compare l [op, op'] [r, r'] pos => cCmp2 fname sc l r r' op op' pos (cE l) (cE r) (cE r')
  | .IfExp t b o pos => match cE t, cE b, cE o with
    | some ⟨x, hx⟩, some ⟨y, hy⟩, some ⟨z, hz⟩ => some ⟨.ite x y z, sem_ite hx.t hy.e hz.e, sem_ite_t hx.t hy.t hz.t, xe_no rfl, xt_no rfl⟩
    | _, _, _ => none
  | .Call (.Name f np) (e :: es) [] pos => match fid f with
    | some _ => userCall fname fid sc f np pos e es (cL (e :: es))
    | none => match es with
      | [] => call1 fname sc f np pos e (cE e)
      | [e'] => call2 fname sc f np pos e e' (cE e) (cE e')
      | _ => none
  | .Call (.Attribute (.Constant c kc cq) nm apos) [.ListComp (.Call (.Name f np) [.Name x' xp] [] ecp) [⟨.Name x px, .Call (.Name f2 rp) [.Name y yp] [] cp, [], 0⟩] scope pos'] [] pos => cJoin fname sc c nm f f2 x x' kc np xp ecp px rp cp pos' cq apos pos (.Name y yp) scope (cName fname fid sc y yp)
  | .Call (.Attribute (.Name z zp) nm apos) [.Constant c kk q] [] pos => cSplit fname sc z nm zp apos q pos kk c (cName fname fid sc z zp)
  | .Subscript e (.Slice none (some i) none p) pos => match cE e, cE i with
    | some ⟨a, ha⟩, some ⟨k, hk⟩ => some ⟨.upto a k, ok (sem_upto ha.e hk.e) (fun _ _ => rfl) rfl⟩
    | _, _ => none
  | .Subscript e i pos => match cE e, cE i with
    | some ⟨a, ha⟩, some ⟨k, hk⟩ => guard' fun hi : plainE i = true => ⟨.idx a k, ok (sem_idx hi ha.e hk.e) (fun _ _ => rfl) rfl⟩
    | _, _ => none
  | .List es pos => match cL es with
    | some ⟨xs, hxs⟩ => some ⟨.list xs, ok (sem_list hxs) (fun _ _ => rfl) rfl⟩
    | none => none
  | .Tuple es k pos => match cL es with
    | some ⟨xs, hxs⟩ => some ⟨.tup xs, ok (sem_tup hxs) (fun _ _ => rfl) rfl⟩
    | none => none
  | .Dict ks vs pos => cDict fname sc ks vs pos
  | _ => none
noncomputable def cL : (es : List Expr) → Option { xs : Xs // SemL fname sc es xs }
  | [] => some ⟨.nil, sem_nil⟩
  | e :: es => match cE e, cL es with
    | some ⟨x, hx⟩, some ⟨xs, hxs⟩ => guard' fun hs : plainE e = true => ⟨.cons x xs, sem_cons hs hx.e hxs⟩
    | _, _ => none
noncomputable def cB : (i : Bool) → (es : List Expr) → Option { xs : Xs // SemB fname i sc es xs ∧ SemBT fname i sc es xs }
  | _, [] => none
  | i, e :: es => match cE e with
    | none => none
    | some ⟨x, hx⟩ => match es with
      | [] => some ⟨.cons x .nil, sem_b1 hx.e, sem_bt1 hx.t⟩
      | e' :: es' => match cB i (e' :: es') with
        | some ⟨.cons y ys, hys⟩ => some ⟨.cons x (.cons y ys), sem_b2 hx.e hys.1, sem_bt2 hx.t hys.2⟩
        | _ => none
end
end
end Mine
set_option Elab.async false
set_option maxRecDepth 100000
set_option linter.unusedVariables false
namespace Mine
open PySem PySem.Calls PyProof.Rows

section
variable (fname : Nat → Str) (fid : Str → Option Nat) (sc : Scope)
noncomputable abbrev CSs (st : List Stmt) : Type := { z : Ss // SemSs fname sc st z }

noncomputable def forC (x : Str) (p pos : Pos) (it : Expr) (body : List Stmt) (b : CSs fname sc body) : CS fname sc (.For (.Name x p) it body [] pos) :=
  match slotOf sc x with
  | none => none
  | some ⟨i, hi⟩ => if hk : sc.names.lookup x = some .local ∨ sc.names.lookup x = some .cell then
      match it with
      | .Call (.Name f np) [e] [] cp => match cE fname fid sc e with
        | some ⟨y, hy⟩ => if h : sc.names.lookup f = some .globalImplicit ∧ plainE e = true then
            if hf : f = ("reversed" : Str) then some ⟨.loop i (.back y) b.1, by subst hf; exact sem_for_back hi hk h.1 h.2 hy.e b.2⟩
            else if hf : f = ("range" : Str) then some ⟨.loop i (.range y) b.1, by subst hf; exact sem_for_range hi hk h.1 h.2 hy.e b.2⟩
            else none
          else none
        | none => none
      | .Call (.Name f np) [e, .UnaryOp .USub (.Constant (.int 1) k1 q1) q2, .UnaryOp .USub (.Constant (.int 1) k2 q3) q4] [] cp => match cE fname fid sc e with
        | some ⟨y, hy⟩ => guard' fun h : f = ("range" : Str) ∧ sc.names.lookup ("range" : Str) = some .globalImplicit ∧ plainE e = true => ⟨.loop i (.down y) b.1, by obtain ⟨h1, h2, h3⟩ := h; subst h1; exact sem_for_down hi hk h2 h3 hy.e b.2⟩
        | none => none
      | it => match cE fname fid sc it with
        | some ⟨y, hy⟩ => guard' fun h : plainE it = true => ⟨.loop i (.items y) b.1, sem_for_items hi hk h hy.e b.2⟩
        | none => none
    else none
noncomputable def forE (x₁ x₂ f : Str) (p₁ p₂ pt np cp pos : Pos) (kk : Nat) (e : Expr) (body : List Stmt) (b : CSs fname sc body) : CS fname sc (.For (.Tuple [.Name x₁ p₁, .Name x₂ p₂] kk pt) (.Call (.Name f np) [e] [] cp) body [] pos) :=
  match slotOf sc x₁, slotOf sc x₂, cE fname fid sc e with
  | some ⟨i, hi⟩, some ⟨j, hj⟩, some ⟨y, hy⟩ =>
    guard' fun h : f = ("enumerate" : Str) ∧ sc.names.lookup ("enumerate" : Str) = some .globalImplicit ∧ plainE e = true ∧ (sc.names.lookup x₁ = some .local ∨ sc.names.lookup x₁ = some .cell) ∧ (sc.names.lookup x₂ = some .local ∨ sc.names.lookup x₂ = some .cell) =>
      ⟨.enum i j y b.1, by obtain ⟨h1, h2, h3, h4, h5⟩ := h; subst h1; exact sem_for_enum hi h4 hj h5 h2 h3 hy.e b.2⟩
  | _, _, _ => none
noncomputable def cCompCall (fn x x' y yb : Str) (px np cp pos p1 xp py spos : Pos) (it : Expr) (scope : Scope) : CS fname sc (.Assign [.Name y py] (.ListComp (.Call (.Name fn np) [.Name yb p1, .Name x' xp] [] cp) [⟨.Name x px, it, [], 0⟩] scope pos) spos) :=
  match slotOf sc y, slotOf sc yb, fid fn, cE fname fid sc it with
  | some ⟨i, hi⟩, some ⟨j, hj⟩, some f, some ⟨a, ha⟩ =>
    if h : x' = x ∧ plainE it = true ∧ fname f = fn ∧ f < 500 ∧ fn ≠ Str.empty ∧ (fn == ("__debug__" : Str)) = false ∧ scope.names.lookup fn = some .globalImplicit ∧ scope.names.lookup yb = some .free ∧ sc.names.lookup yb = some .cell ∧ (yb == ("__debug__" : Str)) = false ∧ (x == ("__debug__" : Str)) = false then
      guard' fun h2 : scope.kind = .function ∧ (∀ y ∈ scope.names, y.2 ≠ .cell) ∧ (∀ y ∈ scope.names, y.2 = .free → sc.names.lookup y.1 = some .cell) ∧ (∀ y ∈ scope.names, y.2 = .local → scope.names.lookup y.1 = some .local) ∧ scope.names.lookup x = some .local ∧
          sc.names.lookup y = some .local ∧ (py.line == pos.line) = true ∧ (scope.names.any fun p => p.1 == y && (p.2 == .local || p.2 == .cell)) = false =>
        ⟨.compCall i f j a, by
          obtain ⟨a1, a2, a3, a4, a5, a6, a7, a8, a9, a10, a11⟩ := h
          obtain ⟨b1, b2, b3, b4, b5, b6, b7, b8⟩ := h2
          subst a1
          exact sem_comp ha.e a2 b2 b3 b4 ⟨b1, b5, a11, a7, a3, a4, a5, a6, hj, a8, a9, a10⟩ hi b6 b7 b8⟩
    else none
  | _, _, _, _ => none
noncomputable def cPair (x y : Str) (px py tp vp pos : Pos) (k k' : Nat) (ea eb : Expr) : CS fname sc (.Assign [.Tuple [.Name x px, .Name y py] k tp] (.Tuple [ea, eb] k' vp) pos) :=
  match slotOf sc x, slotOf sc y, cE fname fid sc ea, cE fname fid sc eb with
  | some ⟨i, hi⟩, some ⟨j, hj⟩, some ⟨u, hu⟩, some ⟨w, hw⟩ =>
    guard' fun h : sc.names.lookup x = some .local ∧ sc.names.lookup y = some .local ∧ (py.line == px.line) = true ∧ x ≠ y ∧ plainE ea = true ∧ plainE eb = true ∧ (ea.ctorIdx == 22) = false ∧ (eb.ctorIdx == 22) = false ∧ ([ea, eb].all (foldedForSure 8)) = false ∧ ([ea, eb].all (constantsAlone 8)) = false =>
      ⟨.pair i j u w, by
        obtain ⟨a1, a2, a3, a4, a5, a6, a7, a8, a9, a10⟩ := h
        exact sem_pair hi hj a1 a2 a3 a4 a5 a6 a7 a8 a9 a10 hu.e hw.e⟩
  | _, _, _, _ => none
noncomputable def cSetAt (x : Str) (p sp pos : Pos) (ei ev : Expr) : CS fname sc (.Assign [.Subscript (.Name x p) ei sp] ev pos) :=
  match slotOf sc x, cE fname fid sc ei, cE fname fid sc ev with
  | some ⟨i, hi⟩, some ⟨a, ha⟩, some ⟨b, hb⟩ => guard' fun h : (x == ("__debug__" : Str)) = false ∧ plainE ev = true => ⟨.setAt i a b, sem_setAt hi h.1 h.2 ha.e hb.e⟩
  | _, _, _ => none
noncomputable def cAssign (x : Str) (p pos : Pos) (e : Expr) : CS fname sc (.Assign [.Name x p] e pos) :=
  match slotOf sc x, cE fname fid sc e with
  | some ⟨i, hi⟩, some ⟨y, hy⟩ => guard' fun h : (sc.names.lookup x = some .local ∨ sc.names.lookup x = some .cell) ∧ plainE e = true => ⟨.assign i y, sem_assign hi h.1 h.2 hy.e⟩
  | _, _ => none
noncomputable def cMeth (x nm : Str) (p apos pos epos : Pos) (es : List Expr) : CS fname sc (.Expr (.Call (.Attribute (.Name x p) nm apos) es [] pos) epos) :=
  match slotOf sc x, es with
  | some ⟨i, hi⟩, [] => guard' fun h : nm = ("reverse" : Str) ∧ (x == ("__debug__" : Str)) = false ∧ (apos.endLine == pos.line) = true => ⟨.reverse i, by obtain ⟨h1, h2, h3⟩ := h; subst h1; exact sem_reverse hi h2 h3⟩
  | some ⟨i, hi⟩, [e] => match cE fname fid sc e with
    | some ⟨y, hy⟩ => guard' fun h : nm = ("append" : Str) ∧ (x == ("__debug__" : Str)) = false ∧ (apos.endLine == pos.line) = true ∧ plainE e = true => ⟨.append i y, by obtain ⟨h1, h2, h3, h4⟩ := h; subst h1; exact sem_append hi h2 h3 h4 hy.e⟩
    | none => none
  | _, _ => none
noncomputable def cRaise (x : Str) (np p cpos pos : Pos) (c : Const) (k : Nat) : CS fname sc (.Raise (some (.Call (.Name x np) [.Constant c k p] [] cpos)) none pos) :=
  match c, fid x with
  | .str m, some c => guard' fun h : sc.names.lookup x = some .globalImplicit ∧ fname c = x ∧ (x == ("__debug__" : Str)) = false ∧ m.cps.size ≤ sizeLine => ⟨.raise c, sem_raise h.1 h.2.1 h.2.2.1 h.2.2.2⟩
  | _, _ => none
noncomputable def cTests (en wn : Str) : (body : List Stmt) → Option { q : List Stmt × List (Str × Str) × Expr × Pos // body = q.1 ++ [.Return (some q.2.2.1) q.2.2.2] ∧ Tests en wn q.1 q.2.1 }
  | [.Return (some rv) rpos] => some ⟨([], [], rv, rpos), rfl, .nil⟩
  | .If (.Call (.Name f ip) [.Name en' q1, .Name cn q2] [] cp) [.Expr (.Call (.Attribute (.Name wn' wp) nm ap) [.Constant c k kp] [] app) ep] [] pos :: r => match c, cTests en wn r with
    | .str wd, some ⟨(sts, tl, rv, rpos), h⟩ => guard' fun hh : f = ("isinstance" : Str) ∧ en' = en ∧ wn' = wn ∧ nm = ("append" : Str) ∧ (ap.endLine == app.line) = true ∧ wd.cps.size ≤ 100 =>
      ⟨(.If (.Call (.Name "isinstance" ip) [.Name en q1, .Name cn q2] [] cp) [.Expr (.Call (.Attribute (.Name wn wp) "append" ap) [.Constant (.str wd) k kp] [] app) ep] [] pos :: sts, (cn, wd) :: tl, rv, rpos), by
        obtain ⟨h1, h2, h3, h4, h5, h6⟩ := hh
        subst h1 h2 h3 h4
        exact ⟨by rw [h.1]; rfl, .cons h5 h6 h.2⟩⟩
    | _, _ => none
  | _ => none
noncomputable def HRet (en wn : Str) (rv : Expr) : Prop := ∀ (g : Gx) (F : Fm) (A : Around) (s : Shared) (ρ : Vars) (fp : Nat → List Addr) (x wd : Str) (ex C b : Addr) (Q E : Value → Shared → Prop), Gd g → Hs g F sc en wn ρ fp ex C b s.heap [wd] → IsExc g x C → (∀ t tk, Q (.str wd t) { s with toks := tk }) → wpAny (model g.p g.w) A (eval rv (F.env sc)) Q E s
noncomputable def cRet (en wn : Str) (hk : sc.kind = .function) (hd : (en == ("__debug__" : Str)) = false) (hdw : (wn == ("__debug__" : Str)) = false) : (rv : Expr) → Option (PLift (HRet sc en wn rv))
  | .IfExp (.BoolOp .And [.Compare (.Call (.Name l lp) [.Name wn' lq] [] lcp) [.Eq] [.Constant c1 k1 op] cmp, .Call (.Name f ip) [.Name en' q1, .Name ve q2] [] cp] bp) (.Subscript (.Name wn'' wp) (.Constant c0 k0 zp) sp) (.Constant c2 k2 op2) pos => match c1, c0, c2 with
    | .int 1, .int 0, .str od => guard' fun h : l = ("len" : Str) ∧ f = ("isinstance" : Str) ∧ ve = ("ValueError" : Str) ∧ wn' = wn ∧ wn'' = wn ∧ en' = en ∧ sc.names.lookup ("isinstance" : Str) = some .globalImplicit ∧ sc.names.lookup ("ValueError" : Str) = some .globalImplicit ∧ sc.names.lookup ("len" : Str) = some .globalImplicit =>
      ⟨by
        obtain ⟨h1, h2, h3, h4, h5, h6, h7, h8, h9⟩ := h
        subst h1 h2 h3 h4 h5 h6
        exact fun g F A s ρ fp x wd ex C b Q E G H O hQ => told_ret G hk H O h7 h8 h9 hd hdw hQ⟩
    | _, _, _ => none
  | _ => none
noncomputable def cTryT (fn rn en wn : Str) (np cp ep rp hp pos wp wlp wpos : Pos) (e : Expr) (es : List Expr) (body : List Stmt) :
    CS fname sc (.Try [.Expr (.Call (.Name fn np) (e :: es) [] cp) ep] [.ExceptHandler (some (.Name rn rp)) (some en) (.Assign [.Name wn wp] (.List [] wlp) wpos :: body) hp] [] [] pos) :=
  match slotOf sc en, slotOf sc wn, fid fn, cL fname fid sc (e :: es), cTests en wn body with
  | some ⟨j, hj⟩, some ⟨w, hw⟩, some f, some ⟨xs, hxs⟩, some ⟨(sts, tl, rv, rpos), hb⟩ =>
    if h : sc.names.lookup en = some .local ∧ sc.names.lookup wn = some .local ∧ w ≠ j ∧ sc.names.lookup fn = some .globalImplicit ∧ fname f = fn ∧ f < 500 ∧ fn ≠ Str.empty ∧ (fn == ("__debug__" : Str)) = false ∧ plainE e = true ∧ sc.names.lookup ("RowError" : Str) = some .globalImplicit ∧ rn = ("RowError" : Str) then
      if h2 : tl.all (fun p => (List.range 6).any (fun i => decide (fname (2000 + i) = p.1)) && decide (p.1 ≠ ("RowError" : Str)) && decide (sc.names.lookup p.1 = some .globalImplicit) && !(p.1 == ("__debug__" : Str))) = true ∧ tl.length < 100 ∧
          (List.range 6).all (fun i => decide ((tl.filter fun p => decide (p.1 = fname (2000 + i))).map (·.2) = [Mine.st (wordOf (2000 + i))])) = true ∧ sc.names.lookup ("isinstance" : Str) = some .globalImplicit ∧ (en == ("__debug__" : Str)) = false ∧ (wn == ("__debug__" : Str)) = false ∧ sc.kind = .function then
        match cRet sc en wn h2.2.2.2.2.2.2 h2.2.2.2.2.1 h2.2.2.2.2.2.1 rv with
        | some ⟨hr⟩ => some ⟨.tryT f xs j w, by
          obtain ⟨a1, a2, a3, a4, a5, a6, a7, a8, a9, a10, a11⟩ := h
          obtain ⟨b1, b2, b3, b4, b5, b6, b7⟩ := h2
          obtain ⟨c1, c2⟩ := hb
          subst a11 c1
          refine sem_tryT hj a1 hw a2 a3 a4 a5 a6 a7 a8 a9 hxs a10 c2 (fun p hp => ?_) b2 (fun c hc hc' => ?_) b4 b5 b6 hr
          · have q := List.all_eq_true.mp b1 p hp
            simp only [Bool.and_eq_true, List.any_eq_true, decide_eq_true_eq, Bool.not_eq_true', List.mem_range] at q
            obtain ⟨⟨⟨⟨i, hi, q1⟩, q2⟩, q3⟩, q4⟩ := q
            exact ⟨⟨2000 + i, by omega, by omega, q1⟩, q2, q3, q4⟩
          · have q := List.all_eq_true.mp b3 (c - 2000) (List.mem_range.mpr (by omega))
            rw [show 2000 + (c - 2000) = c by omega] at q
            exact of_decide_eq_true q⟩
        | none => none
      else none
    else none
  | _, _, _, _, _ => none
noncomputable def cRung : (s1 s2 s3 : Stmt) → (r : List Stmt) → CSs fname sc r → Option (CSs fname sc (s1 :: s2 :: s3 :: r))
  | .Expr (.Call (.Attribute (.Name x p) nm apos) [.Subscript (.Name xp pp) (.Constant c0 kk q) sp] [] pos) epos, .Assign [.Name xf pf] (.Name xs ps) pos2, .Assign [.Name xs' ps'] (.Subscript (.Name xp' pp') (.Constant c1 kk' q') sp') pos3, r, b =>
    match slotOf sc x, slotOf sc xp, slotOf sc xf, slotOf sc xs, c0, c1 with
    | some ⟨st, hx⟩, some ⟨pr, hxp⟩, some ⟨fi, hxf⟩, some ⟨se, hxs⟩, .int 0, .int 1 =>
      if h1 : nm = ("append" : Str) ∧ xs' = xs ∧ xp' = xp ∧ (x == ("__debug__" : Str)) = false ∧ (xp == ("__debug__" : Str)) = false ∧ (xs == ("__debug__" : Str)) = false ∧ (apos.endLine == pos.line) = true then
        guard' fun h2 : (sc.names.lookup xf = some .local ∨ sc.names.lookup xf = some .cell) ∧ (sc.names.lookup xs = some .local ∨ sc.names.lookup xs = some .cell) ∧ st ≠ pr ∧ st ≠ fi ∧ st ≠ se ∧ pr ≠ fi ∧ pr ≠ se ∧ fi ≠ se =>
          ⟨.cons (.rung st pr fi se) b.1, by
            obtain ⟨a1, a2, a3, a4, a5, a6, a7⟩ := h1
            obtain ⟨b1, b2, b3, b4, b5, b6, b7, b8⟩ := h2
            subst a1 a2 a3
            exact sem_rung hx hxp hxf hxs a4 a5 a6 a7 b1 b2 b3 b4 b5 b6 b7 b8 b.2⟩
      else none
    | _, _, _, _, _, _ => none
  | _, _, _, _, _ => none

mutual
noncomputable def cS : (st : Stmt) → CS fname sc st
  | .Assign [.Name y py] (.ListComp (.Call (.Name fn np) [.Name yb p1, .Name x' xp] [] cp) [⟨.Name x px, it, [], 0⟩] scope pos) spos => cCompCall fname fid sc fn x x' y yb px np cp pos p1 xp py spos it scope
  | .Assign [.Name x p] e pos => cAssign fname fid sc x p pos e
  | .Assign [.Tuple [.Name x px, .Name y py] k tp] (.Tuple [ea, eb] k' vp) pos => cPair fname fid sc x y px py tp vp pos k k' ea eb
  | .Assign [.Subscript (.Name x p) ei sp] ev pos => cSetAt fname fid sc x p sp pos ei ev
  | .Expr (.Call (.Attribute (.Name x p) nm apos) es [] pos) epos => cMeth fname fid sc x nm p apos pos epos es
  | .Expr e pos => match cE fname fid sc e with
    | some ⟨y, hy⟩ => guard' fun hn : plainE e = true => ⟨.expr y, sem_expr hn hy.e hy.xe⟩
    | none => none
  | .If t b o pos => match cE fname fid sc t with
    | some ⟨x, hx⟩ => some ⟨.ite x (cSs b).1 (cSs o).1, sem_if hx.t hx.xt (cSs b).2 (cSs o).2⟩
    | none => none
  | .Return (some e) pos => match cE fname fid sc e with
    | some ⟨x, hx⟩ => some ⟨.ret x, sem_ret hx.e hx.xe⟩
    | none => none
  | .While t b [] pos => match cE fname fid sc t with
    | some ⟨x, hx⟩ => some ⟨.whil x (cSs b).1, sem_while hx.t (cSs b).2⟩
    | none => none
  | .For (.Name x p) it b [] pos => forC fname fid sc x p pos it b (cSs b)
  | .For (.Tuple [.Name x₁ p₁, .Name x₂ p₂] kk pt) (.Call (.Name f np) [e] [] cp) b [] pos => forE fname fid sc x₁ x₂ f p₁ p₂ pt np cp pos kk e b (cSs b)
  | .Raise (some (.Call (.Name x np) [.Constant c k p] [] cpos)) none pos => cRaise fname fid sc x np p cpos pos c k
  | .Try [.Expr (.Call (.Name fn np) (e :: es) [] cp) ep] [.ExceptHandler (some (.Name rn rp)) (some en) (.Assign [.Name wn wp] (.List [] wlp) wpos :: body) hp] [] [] pos => cTryT fname fid sc fn rn en wn np cp ep rp hp pos wp wlp wpos e es body
  | _ => none
noncomputable def cSs : (st : List Stmt) → CSs fname sc st
  | [] => ⟨.nil, sem_snil⟩
  | s1 :: s2 :: s3 :: r => match cRung fname sc s1 s2 s3 r (cSs r) with
    | some z => z
    | none => match cS s1 with
      | some ⟨x, hx⟩ => ⟨.cons x (cSs (s2 :: s3 :: r)).1, sem_scons hx (cSs (s2 :: s3 :: r)).2⟩
      | none => ⟨.cons .never .nil, sem_never_s⟩
  | st :: r => match cS st with
    | some ⟨x, hx⟩ => ⟨.cons x (cSs r).1, sem_scons hx (cSs r).2⟩
    | none => ⟨.cons .never .nil, sem_never_s⟩
end
end
end Mine
set_option Elab.async false
namespace Mine
open PySem
noncomputable def b_whole : Ss := Ss.cons (S.ret (X.and (Xs.cons (X.isinst (X.var 0) (Ty.int)) (Xs.cons (X.not (X.isinst (X.var 0) (Ty.bool))) (Xs.nil))))) (Ss.nil)
noncomputable def b_is_base : Ss := Ss.cons (S.ret (X.and (Xs.cons (X.call 0 (Xs.cons (X.var 0) (Xs.nil))) (Xs.cons (X.cmp2 (Cm.le) (Cm.le) (X.glob 0) (X.var 0) (X.glob 1)) (Xs.nil))))) (Ss.nil)
noncomputable def b_need_base : Ss := Ss.cons (S.ite (X.not (X.call 1 (Xs.cons (X.var 0) (Xs.nil)))) (Ss.cons (S.raise 2002) (Ss.nil)) (Ss.nil)) (Ss.nil)
noncomputable def b_is_figure : Ss := Ss.cons (S.expr (X.call 2 (Xs.cons (X.var 0) (Xs.nil)))) (Ss.cons (S.ret (X.and (Xs.cons (X.call 0 (Xs.cons (X.var 1) (Xs.nil))) (Xs.cons (X.cmp2 (Cm.le) (Cm.lt) (X.int 0) (X.var 1) (X.var 0)) (Xs.nil))))) (Ss.nil))
noncomputable def b_is_row : Ss := Ss.cons (S.expr (X.call 2 (Xs.cons (X.var 0) (Xs.nil)))) (Ss.cons (S.ite (X.not (X.isinst (X.var 1) (Ty.list))) (Ss.cons (S.ret (X.bool false)) (Ss.nil)) (Ss.nil)) (Ss.cons (S.loop 2 (It.items (X.var 1)) (Ss.cons (S.ite (X.or (Xs.cons (X.not (X.call 0 (Xs.cons (X.var 2) (Xs.nil)))) (Xs.cons (X.not (X.cmp2 (Cm.le) (Cm.lt) (X.int 0) (X.var 2) (X.var 0))) (Xs.nil)))) (Ss.cons (S.ret (X.bool false)) (Ss.nil)) (Ss.nil)) (Ss.nil))) (Ss.cons (S.ret (X.or (Xs.cons (X.cmp (Cm.eq) (X.len (X.var 1)) (X.int 0)) (Xs.cons (X.cmp (Cm.ne) (X.idx (X.var 1) (X.neg (X.int 1))) (X.int 0)) (Xs.nil))))) (Ss.nil))))
noncomputable def b_need_row : Ss := Ss.cons (S.ite (X.not (X.call 4 (Xs.cons (X.var 0) (Xs.cons (X.var 1) (Xs.nil))))) (Ss.cons (S.raise 2003) (Ss.nil)) (Ss.nil)) (Ss.nil)
noncomputable def b_need_figure : Ss := Ss.cons (S.ite (X.not (X.call 3 (Xs.cons (X.var 0) (Xs.cons (X.var 1) (Xs.nil))))) (Ss.cons (S.raise 2004) (Ss.nil)) (Ss.nil)) (Ss.nil)
noncomputable def b_need_count : Ss := Ss.cons (S.ite (X.or (Xs.cons (X.not (X.call 0 (Xs.cons (X.var 0) (Xs.nil)))) (Xs.cons (X.cmp (Cm.lt) (X.var 0) (X.var 1)) (Xs.nil)))) (Ss.cons (S.raise 2005) (Ss.nil)) (Ss.nil)) (Ss.nil)
noncomputable def b_row_of : Ss := Ss.cons (S.expr (X.call 2 (Xs.cons (X.var 0) (Xs.nil)))) (Ss.cons (S.ite (X.not (X.call 0 (Xs.cons (X.var 1) (Xs.nil)))) (Ss.cons (S.raise 2005) (Ss.nil)) (Ss.nil)) (Ss.cons (S.ite (X.cmp (Cm.lt) (X.var 1) (X.int 0)) (Ss.cons (S.raise 2000) (Ss.nil)) (Ss.nil)) (Ss.cons (S.assign 2 (X.list (Xs.nil))) (Ss.cons (S.whil (X.cmp (Cm.gt) (X.var 1) (X.int 0)) (Ss.cons (S.append 2 (X.bin (Op.mod) (X.var 1) (X.var 0))) (Ss.cons (S.assign 1 (X.bin (Op.fdiv) (X.var 1) (X.var 0))) (Ss.nil)))) (Ss.cons (S.ret (X.var 2)) (Ss.nil))))))
noncomputable def b_number_of : Ss := Ss.cons (S.expr (X.call 5 (Xs.cons (X.var 0) (Xs.cons (X.var 1) (Xs.nil))))) (Ss.cons (S.assign 2 (X.int 0)) (Ss.cons (S.loop 3 (It.back (X.var 1)) (Ss.cons (S.assign 2 (X.bin (Op.add) (X.bin (Op.mul) (X.var 2) (X.var 0)) (X.var 3))) (Ss.nil))) (Ss.cons (S.ret (X.var 2)) (Ss.nil))))
noncomputable def b_trimmed : Ss := Ss.cons (S.assign 1 (X.len (X.var 0))) (Ss.cons (S.whil (X.and (Xs.cons (X.cmp (Cm.gt) (X.var 1) (X.int 0)) (Xs.cons (X.cmp (Cm.eq) (X.idx (X.var 0) (X.bin (Op.sub) (X.var 1) (X.int 1))) (X.int 0)) (Xs.nil)))) (Ss.cons (S.assign 1 (X.bin (Op.sub) (X.var 1) (X.int 1))) (Ss.nil))) (Ss.cons (S.ret (X.listOf (X.upto (X.var 0) (X.var 1)))) (Ss.nil)))
noncomputable def b_order : Ss := Ss.cons (S.ite (X.cmp (Cm.ne) (X.len (X.var 0)) (X.len (X.var 1))) (Ss.cons (S.ret (X.ite (X.cmp (Cm.lt) (X.len (X.var 0)) (X.len (X.var 1))) (X.neg (X.int 1)) (X.int 1))) (Ss.nil)) (Ss.nil)) (Ss.cons (S.loop 2 (It.down (X.bin (Op.sub) (X.len (X.var 0)) (X.int 1))) (Ss.cons (S.ite (X.cmp (Cm.ne) (X.idx (X.var 0) (X.var 2)) (X.idx (X.var 1) (X.var 2))) (Ss.cons (S.ret (X.ite (X.cmp (Cm.lt) (X.idx (X.var 0) (X.var 2)) (X.idx (X.var 1) (X.var 2))) (X.neg (X.int 1)) (X.int 1))) (Ss.nil)) (Ss.nil)) (Ss.nil))) (Ss.cons (S.ret (X.int 0)) (Ss.nil)))
noncomputable def b_plain_sum : Ss := Ss.cons (S.assign 3 (X.list (Xs.nil))) (Ss.cons (S.assign 4 (X.int 0)) (Ss.cons (S.loop 5 (It.range (X.max (X.len (X.var 1)) (X.len (X.var 2)))) (Ss.cons (S.ite (X.cmp (Cm.lt) (X.var 5) (X.len (X.var 1))) (Ss.cons (S.assign 4 (X.bin (Op.add) (X.var 4) (X.idx (X.var 1) (X.var 5)))) (Ss.nil)) (Ss.nil)) (Ss.cons (S.ite (X.cmp (Cm.lt) (X.var 5) (X.len (X.var 2))) (Ss.cons (S.assign 4 (X.bin (Op.add) (X.var 4) (X.idx (X.var 2) (X.var 5)))) (Ss.nil)) (Ss.nil)) (Ss.cons (S.append 3 (X.bin (Op.mod) (X.var 4) (X.var 0))) (Ss.cons (S.assign 4 (X.bin (Op.fdiv) (X.var 4) (X.var 0))) (Ss.nil)))))) (Ss.cons (S.ite (X.cmp (Cm.gt) (X.var 4) (X.int 0)) (Ss.cons (S.append 3 (X.var 4)) (Ss.nil)) (Ss.nil)) (Ss.cons (S.ret (X.var 3)) (Ss.nil)))))
noncomputable def b_plain_difference : Ss := Ss.cons (S.assign 3 (X.list (Xs.nil))) (Ss.cons (S.assign 4 (X.int 0)) (Ss.cons (S.loop 5 (It.range (X.len (X.var 1))) (Ss.cons (S.assign 6 (X.bin (Op.sub) (X.idx (X.var 1) (X.var 5)) (X.var 4))) (Ss.cons (S.ite (X.cmp (Cm.lt) (X.var 5) (X.len (X.var 2))) (Ss.cons (S.assign 6 (X.bin (Op.sub) (X.var 6) (X.idx (X.var 2) (X.var 5)))) (Ss.nil)) (Ss.nil)) (Ss.cons (S.assign 4 (X.int 0)) (Ss.cons (S.ite (X.cmp (Cm.lt) (X.var 6) (X.int 0)) (Ss.cons (S.assign 6 (X.bin (Op.add) (X.var 6) (X.var 0))) (Ss.cons (S.assign 4 (X.int 1)) (Ss.nil))) (Ss.nil)) (Ss.cons (S.append 3 (X.var 6)) (Ss.nil))))))) (Ss.cons (S.ret (X.call 10 (Xs.cons (X.var 3) (Xs.nil)))) (Ss.nil))))
noncomputable def b_plain_scaled : Ss := Ss.cons (S.ite (X.cmp (Cm.eq) (X.var 2) (X.int 0)) (Ss.cons (S.ret (X.list (Xs.nil))) (Ss.nil)) (Ss.nil)) (Ss.cons (S.assign 3 (X.list (Xs.nil))) (Ss.cons (S.assign 4 (X.int 0)) (Ss.cons (S.loop 5 (It.items (X.var 1)) (Ss.cons (S.assign 4 (X.bin (Op.add) (X.var 4) (X.bin (Op.mul) (X.var 5) (X.var 2)))) (Ss.cons (S.append 3 (X.bin (Op.mod) (X.var 4) (X.var 0))) (Ss.cons (S.assign 4 (X.bin (Op.fdiv) (X.var 4) (X.var 0))) (Ss.nil))))) (Ss.cons (S.ite (X.cmp (Cm.gt) (X.var 4) (X.int 0)) (Ss.cons (S.append 3 (X.var 4)) (Ss.nil)) (Ss.nil)) (Ss.cons (S.ret (X.var 3)) (Ss.nil))))))
noncomputable def b_plain_shifted : Ss := Ss.cons (S.ite (X.cmp (Cm.eq) (X.len (X.var 0)) (X.int 0)) (Ss.cons (S.ret (X.list (Xs.nil))) (Ss.nil)) (Ss.nil)) (Ss.cons (S.ret (X.bin (Op.add) (X.bin (Op.mul) (X.list (Xs.cons (X.int 0) (Xs.nil))) (X.var 1)) (X.var 0))) (Ss.nil))
noncomputable def b_added : Ss := Ss.cons (S.expr (X.call 5 (Xs.cons (X.var 0) (Xs.cons (X.var 1) (Xs.nil))))) (Ss.cons (S.expr (X.call 5 (Xs.cons (X.var 0) (Xs.cons (X.var 2) (Xs.nil))))) (Ss.cons (S.ret (X.call 12 (Xs.cons (X.var 0) (Xs.cons (X.var 1) (Xs.cons (X.var 2) (Xs.nil)))))) (Ss.nil)))
noncomputable def b_taken : Ss := Ss.cons (S.expr (X.call 5 (Xs.cons (X.var 0) (Xs.cons (X.var 1) (Xs.nil))))) (Ss.cons (S.expr (X.call 5 (Xs.cons (X.var 0) (Xs.cons (X.var 2) (Xs.nil))))) (Ss.cons (S.ite (X.cmp (Cm.lt) (X.call 11 (Xs.cons (X.var 1) (Xs.cons (X.var 2) (Xs.nil)))) (X.int 0)) (Ss.cons (S.raise 2000) (Ss.nil)) (Ss.nil)) (Ss.cons (S.ret (X.call 13 (Xs.cons (X.var 0) (Xs.cons (X.var 1) (Xs.cons (X.var 2) (Xs.nil)))))) (Ss.nil))))
noncomputable def b_scaled : Ss := Ss.cons (S.expr (X.call 5 (Xs.cons (X.var 0) (Xs.cons (X.var 1) (Xs.nil))))) (Ss.cons (S.expr (X.call 6 (Xs.cons (X.var 0) (Xs.cons (X.var 2) (Xs.nil))))) (Ss.cons (S.ret (X.call 14 (Xs.cons (X.var 0) (Xs.cons (X.var 1) (Xs.cons (X.var 2) (Xs.nil)))))) (Ss.nil)))
noncomputable def b_shifted : Ss := Ss.cons (S.expr (X.call 5 (Xs.cons (X.var 0) (Xs.cons (X.var 1) (Xs.nil))))) (Ss.cons (S.expr (X.call 7 (Xs.cons (X.var 2) (Xs.cons (X.int 0) (Xs.nil))))) (Ss.cons (S.ret (X.call 15 (Xs.cons (X.var 1) (Xs.cons (X.var 2) (Xs.nil))))) (Ss.nil)))
noncomputable def b_plain_parted : Ss := Ss.cons (S.assign 3 (X.list (Xs.nil))) (Ss.cons (S.assign 4 (X.int 0)) (Ss.cons (S.loop 5 (It.back (X.var 1)) (Ss.cons (S.assign 4 (X.bin (Op.add) (X.bin (Op.mul) (X.var 4) (X.var 0)) (X.var 5))) (Ss.cons (S.append 3 (X.bin (Op.fdiv) (X.var 4) (X.var 2))) (Ss.cons (S.assign 4 (X.bin (Op.mod) (X.var 4) (X.var 2))) (Ss.nil))))) (Ss.cons (S.reverse 3) (Ss.cons (S.ret (X.tup (Xs.cons (X.call 10 (Xs.cons (X.var 3) (Xs.nil))) (Xs.cons (X.var 4) (Xs.nil))))) (Ss.nil)))))
noncomputable def b_how_often : Ss := Ss.cons (S.assign 3 (X.int 0)) (Ss.cons (S.assign 4 (X.bin (Op.sub) (X.var 0) (X.int 1))) (Ss.cons (S.whil (X.cmp (Cm.lt) (X.var 3) (X.var 4)) (Ss.cons (S.assign 5 (X.bin (Op.fdiv) (X.bin (Op.add) (X.bin (Op.add) (X.var 3) (X.var 4)) (X.int 1)) (X.int 2))) (Ss.cons (S.ite (X.cmp (Cm.le) (X.call 11 (Xs.cons (X.call 14 (Xs.cons (X.var 0) (Xs.cons (X.var 2) (Xs.cons (X.var 5) (Xs.nil))))) (Xs.cons (X.var 1) (Xs.nil)))) (X.int 0)) (Ss.cons (S.assign 3 (X.var 5)) (Ss.nil)) (Ss.cons (S.assign 4 (X.bin (Op.sub) (X.var 5) (X.int 1))) (Ss.nil))) (Ss.nil)))) (Ss.cons (S.ret (X.var 3)) (Ss.nil))))
noncomputable def b_plain_divided : Ss := Ss.cons (S.assign 3 (X.list (Xs.nil))) (Ss.cons (S.assign 4 (X.list (Xs.nil))) (Ss.cons (S.loop 5 (It.back (X.var 1)) (Ss.cons (S.assign 4 (X.call 15 (Xs.cons (X.var 4) (Xs.cons (X.int 1) (Xs.nil))))) (Ss.cons (S.ite (X.cmp (Cm.gt) (X.var 5) (X.int 0)) (Ss.cons (S.assign 4 (X.call 12 (Xs.cons (X.var 0) (Xs.cons (X.var 4) (Xs.cons (X.list (Xs.cons (X.var 5) (Xs.nil))) (Xs.nil)))))) (Ss.nil)) (Ss.nil)) (Ss.cons (S.assign 6 (X.call 28 (Xs.cons (X.var 0) (Xs.cons (X.var 4) (Xs.cons (X.var 2) (Xs.nil)))))) (Ss.cons (S.append 3 (X.var 6)) (Ss.cons (S.assign 4 (X.call 13 (Xs.cons (X.var 0) (Xs.cons (X.var 4) (Xs.cons (X.call 14 (Xs.cons (X.var 0) (Xs.cons (X.var 2) (Xs.cons (X.var 6) (Xs.nil))))) (Xs.nil)))))) (Ss.nil))))))) (Ss.cons (S.reverse 3) (Ss.cons (S.ret (X.tup (Xs.cons (X.call 10 (Xs.cons (X.var 3) (Xs.nil))) (Xs.cons (X.var 4) (Xs.nil))))) (Ss.nil)))))
noncomputable def b_parted : Ss := Ss.cons (S.expr (X.call 5 (Xs.cons (X.var 0) (Xs.cons (X.var 1) (Xs.nil))))) (Ss.cons (S.expr (X.call 6 (Xs.cons (X.var 0) (Xs.cons (X.var 2) (Xs.nil))))) (Ss.cons (S.ite (X.cmp (Cm.eq) (X.var 2) (X.int 0)) (Ss.cons (S.raise 2001) (Ss.nil)) (Ss.nil)) (Ss.cons (S.ret (X.call 27 (Xs.cons (X.var 0) (Xs.cons (X.var 1) (Xs.cons (X.var 2) (Xs.nil)))))) (Ss.nil))))
noncomputable def b_divided : Ss := Ss.cons (S.expr (X.call 5 (Xs.cons (X.var 0) (Xs.cons (X.var 1) (Xs.nil))))) (Ss.cons (S.expr (X.call 5 (Xs.cons (X.var 0) (Xs.cons (X.var 2) (Xs.nil))))) (Ss.cons (S.ite (X.cmp (Cm.eq) (X.len (X.var 2)) (X.int 0)) (Ss.cons (S.raise 2001) (Ss.nil)) (Ss.nil)) (Ss.cons (S.ret (X.call 29 (Xs.cons (X.var 0) (Xs.cons (X.var 1) (Xs.cons (X.var 2) (Xs.nil)))))) (Ss.nil))))
noncomputable def b_ladder : Ss := Ss.cons (S.expr (X.call 5 (Xs.cons (X.var 0) (Xs.cons (X.var 1) (Xs.nil))))) (Ss.cons (S.expr (X.call 5 (Xs.cons (X.var 0) (Xs.cons (X.var 2) (Xs.nil))))) (Ss.cons (S.assign 3 (X.list (Xs.nil))) (Ss.cons (S.assign 4 (X.listOf (X.var 1))) (Ss.cons (S.assign 5 (X.listOf (X.var 2))) (Ss.cons (S.whil (X.cmp (Cm.gt) (X.len (X.var 5)) (X.int 0)) (Ss.cons (S.assign 6 (X.call 29 (Xs.cons (X.var 0) (Xs.cons (X.var 4) (Xs.cons (X.var 5) (Xs.nil)))))) (Ss.cons (S.rung 3 6 4 5) (Ss.nil)))) (Ss.cons (S.ret (X.tup (Xs.cons (X.var 3) (Xs.cons (X.var 4) (Xs.nil))))) (Ss.nil)))))))
noncomputable def b_turned : Ss := Ss.cons (S.expr (X.call 5 (Xs.cons (X.var 0) (Xs.cons (X.var 1) (Xs.nil))))) (Ss.cons (S.expr (X.call 2 (Xs.cons (X.var 2) (Xs.nil)))) (Ss.cons (S.assign 3 (X.int 0)) (Ss.cons (S.loop 4 (It.back (X.var 1)) (Ss.cons (S.assign 3 (X.bin (Op.add) (X.bin (Op.mul) (X.var 3) (X.var 0)) (X.var 4))) (Ss.nil))) (Ss.cons (S.assign 5 (X.list (Xs.nil))) (Ss.cons (S.whil (X.cmp (Cm.gt) (X.var 3) (X.int 0)) (Ss.cons (S.append 5 (X.bin (Op.mod) (X.var 3) (X.var 2))) (Ss.cons (S.assign 3 (X.bin (Op.fdiv) (X.var 3) (X.var 2))) (Ss.nil)))) (Ss.cons (S.ret (X.var 5)) (Ss.nil)))))))
noncomputable def b_plain_slow : Ss := Ss.cons (S.assign 3 (X.list (Xs.nil))) (Ss.cons (S.enum 4 5 (X.var 2) (Ss.cons (S.assign 3 (X.call 12 (Xs.cons (X.var 0) (Xs.cons (X.var 3) (Xs.cons (X.call 15 (Xs.cons (X.call 14 (Xs.cons (X.var 0) (Xs.cons (X.var 1) (Xs.cons (X.var 5) (Xs.nil))))) (Xs.cons (X.var 4) (Xs.nil)))) (Xs.nil)))))) (Ss.nil))) (Ss.cons (S.ret (X.var 3)) (Ss.nil)))
noncomputable def b_plain_product : Ss := Ss.cons (S.ite (X.or (Xs.cons (X.cmp (Cm.le) (X.len (X.var 1)) (X.var 3)) (Xs.cons (X.cmp (Cm.le) (X.len (X.var 2)) (X.var 3)) (Xs.nil)))) (Ss.cons (S.ret (X.call 20 (Xs.cons (X.var 0) (Xs.cons (X.var 1) (Xs.cons (X.var 2) (Xs.nil)))))) (Ss.nil)) (Ss.nil)) (Ss.cons (S.never) (Ss.nil))
noncomputable def b_plain_effort : Ss := Ss.cons (S.ite (X.or (Xs.cons (X.cmp (Cm.le) (X.len (X.var 1)) (X.var 3)) (Xs.cons (X.cmp (Cm.le) (X.len (X.var 2)) (X.var 3)) (Xs.nil)))) (Ss.cons (S.ret (X.bin (Op.mul) (X.len (X.var 1)) (X.len (X.var 2)))) (Ss.nil)) (Ss.nil)) (Ss.cons (S.never) (Ss.nil))
noncomputable def b_slow : Ss := Ss.cons (S.expr (X.call 5 (Xs.cons (X.var 0) (Xs.cons (X.var 1) (Xs.nil))))) (Ss.cons (S.expr (X.call 5 (Xs.cons (X.var 0) (Xs.cons (X.var 2) (Xs.nil))))) (Ss.cons (S.ret (X.call 20 (Xs.cons (X.var 0) (Xs.cons (X.var 1) (Xs.cons (X.var 2) (Xs.nil)))))) (Ss.nil)))
noncomputable def b_product : Ss := Ss.cons (S.expr (X.call 5 (Xs.cons (X.var 0) (Xs.cons (X.var 1) (Xs.nil))))) (Ss.cons (S.expr (X.call 5 (Xs.cons (X.var 0) (Xs.cons (X.var 2) (Xs.nil))))) (Ss.cons (S.expr (X.call 7 (Xs.cons (X.var 3) (Xs.cons (X.glob 2) (Xs.nil))))) (Ss.cons (S.ret (X.call 22 (Xs.cons (X.var 0) (Xs.cons (X.var 1) (Xs.cons (X.var 2) (Xs.cons (X.var 3) (Xs.nil))))))) (Ss.nil))))
noncomputable def b_effort : Ss := Ss.cons (S.expr (X.call 5 (Xs.cons (X.var 0) (Xs.cons (X.var 1) (Xs.nil))))) (Ss.cons (S.expr (X.call 5 (Xs.cons (X.var 0) (Xs.cons (X.var 2) (Xs.nil))))) (Ss.cons (S.expr (X.call 7 (Xs.cons (X.var 3) (Xs.cons (X.glob 2) (Xs.nil))))) (Ss.cons (S.ret (X.call 23 (Xs.cons (X.var 0) (Xs.cons (X.var 1) (Xs.cons (X.var 2) (Xs.cons (X.var 3) (Xs.nil))))))) (Ss.nil))))
noncomputable def b_written : Ss := Ss.cons (S.expr (X.call 5 (Xs.cons (X.var 0) (Xs.cons (X.var 1) (Xs.nil))))) (Ss.cons (S.ite (X.cmp (Cm.eq) (X.len (X.var 1)) (X.int 0)) (Ss.cons (S.ret (X.str { cps := #[48] })) (Ss.nil)) (Ss.nil)) (Ss.cons (S.ret (X.joinS (X.var 1))) (Ss.nil)))
noncomputable def b_figure_of : Ss := Ss.cons (S.ite (X.or (Xs.cons (X.cmp (Cm.eq) (X.len (X.var 1)) (X.int 0)) (Xs.cons (X.cmp (Cm.gt) (X.len (X.var 1)) (X.glob 3)) (Xs.cons (X.and (Xs.cons (X.cmp (Cm.gt) (X.len (X.var 1)) (X.int 1)) (Xs.cons (X.cmp (Cm.eq) (X.idx (X.var 1) (X.int 0)) (X.str { cps := #[48] })) (Xs.nil)))) (Xs.nil))))) (Ss.cons (S.raise 2003) (Ss.nil)) (Ss.nil)) (Ss.cons (S.loop 2 (It.items (X.var 1)) (Ss.cons (S.ite (X.cmp (Cm.notin) (X.var 2) (X.str { cps := #[48, 49, 50, 51, 52, 53, 54, 55, 56, 57] })) (Ss.cons (S.raise 2003) (Ss.nil)) (Ss.nil)) (Ss.nil))) (Ss.cons (S.assign 3 (X.intOf (X.var 1))) (Ss.cons (S.ite (X.cmp (Cm.ge) (X.var 3) (X.var 0)) (Ss.cons (S.raise 2003) (Ss.nil)) (Ss.nil)) (Ss.cons (S.ret (X.var 3)) (Ss.nil)))))
noncomputable def b_read : Ss := Ss.cons (S.expr (X.call 2 (Xs.cons (X.var 0) (Xs.nil)))) (Ss.cons (S.ite (X.not (X.isinst (X.var 1) (Ty.str))) (Ss.cons (S.raise 2003) (Ss.nil)) (Ss.nil)) (Ss.cons (S.ite (X.cmp (Cm.eq) (X.var 1) (X.str { cps := #[48] })) (Ss.cons (S.ret (X.list (Xs.nil))) (Ss.nil)) (Ss.nil)) (Ss.cons (S.compCall 2 35 0 (X.split (X.var 1))) (Ss.cons (S.ite (X.cmp (Cm.eq) (X.idx (X.var 2) (X.int 0)) (X.int 0)) (Ss.cons (S.raise 2003) (Ss.nil)) (Ss.nil)) (Ss.cons (S.reverse 2) (Ss.cons (S.ret (X.var 2)) (Ss.nil)))))))
noncomputable def b_law_draw : Ss := Ss.cons (S.ret (X.ite (X.cmp (Cm.gt) (X.len (X.var 0)) (X.var 1)) (X.idx (X.var 0) (X.var 1)) (X.int 0))) (Ss.nil)
noncomputable def b_law_call : Ss := Ss.cons (S.ite (X.cmp (Cm.lt) (X.var 0) (X.int 6)) (Ss.cons (S.ite (X.cmp (Cm.eq) (X.var 0) (X.int 0)) (Ss.cons (S.ret (X.call 9 (Xs.cons (X.var 1) (Xs.cons (X.var 2) (Xs.nil))))) (Ss.nil)) (Ss.nil)) (Ss.cons (S.ite (X.cmp (Cm.eq) (X.var 0) (X.int 1)) (Ss.cons (S.ret (X.call 16 (Xs.cons (X.var 1) (Xs.cons (X.var 2) (Xs.cons (X.var 3) (Xs.nil)))))) (Ss.nil)) (Ss.nil)) (Ss.cons (S.ite (X.cmp (Cm.eq) (X.var 0) (X.int 2)) (Ss.cons (S.ret (X.call 17 (Xs.cons (X.var 1) (Xs.cons (X.var 2) (Xs.cons (X.var 3) (Xs.nil)))))) (Ss.nil)) (Ss.nil)) (Ss.cons (S.ite (X.cmp (Cm.eq) (X.var 0) (X.int 3)) (Ss.cons (S.ret (X.call 18 (Xs.cons (X.var 1) (Xs.cons (X.var 2) (Xs.cons (X.var 4) (Xs.nil)))))) (Ss.nil)) (Ss.nil)) (Ss.cons (S.ite (X.cmp (Cm.eq) (X.var 0) (X.int 4)) (Ss.cons (S.ret (X.call 19 (Xs.cons (X.var 1) (Xs.cons (X.var 2) (Xs.cons (X.var 4) (Xs.nil)))))) (Ss.nil)) (Ss.nil)) (Ss.cons (S.ret (X.call 24 (Xs.cons (X.var 1) (Xs.cons (X.var 2) (Xs.cons (X.var 3) (Xs.nil)))))) (Ss.nil))))))) (Ss.nil)) (Ss.cons (S.ite (X.cmp (Cm.lt) (X.var 0) (X.int 12)) (Ss.cons (S.ite (X.cmp (Cm.eq) (X.var 0) (X.int 6)) (Ss.cons (S.ret (X.call 25 (Xs.cons (X.var 1) (Xs.cons (X.var 2) (Xs.cons (X.var 3) (Xs.cons (X.var 4) (Xs.nil))))))) (Ss.nil)) (Ss.nil)) (Ss.cons (S.ite (X.cmp (Cm.eq) (X.var 0) (X.int 7)) (Ss.cons (S.ret (X.call 26 (Xs.cons (X.var 1) (Xs.cons (X.var 2) (Xs.cons (X.var 3) (Xs.cons (X.var 4) (Xs.nil))))))) (Ss.nil)) (Ss.nil)) (Ss.cons (S.ite (X.cmp (Cm.eq) (X.var 0) (X.int 8)) (Ss.cons (S.ret (X.call 30 (Xs.cons (X.var 1) (Xs.cons (X.var 2) (Xs.cons (X.var 4) (Xs.nil)))))) (Ss.nil)) (Ss.nil)) (Ss.cons (S.ite (X.cmp (Cm.eq) (X.var 0) (X.int 9)) (Ss.cons (S.ret (X.call 31 (Xs.cons (X.var 1) (Xs.cons (X.var 2) (Xs.cons (X.var 3) (Xs.nil)))))) (Ss.nil)) (Ss.nil)) (Ss.cons (S.ite (X.cmp (Cm.eq) (X.var 0) (X.int 10)) (Ss.cons (S.ret (X.call 32 (Xs.cons (X.var 1) (Xs.cons (X.var 2) (Xs.cons (X.var 3) (Xs.nil)))))) (Ss.nil)) (Ss.nil)) (Ss.cons (S.ret (X.call 33 (Xs.cons (X.var 1) (Xs.cons (X.var 2) (Xs.cons (X.var 4) (Xs.nil)))))) (Ss.nil))))))) (Ss.nil)) (Ss.cons (S.ite (X.cmp (Cm.eq) (X.var 0) (X.int 12)) (Ss.cons (S.ret (X.call 34 (Xs.cons (X.var 1) (Xs.cons (X.var 2) (Xs.nil))))) (Ss.nil)) (Ss.nil)) (Ss.cons (S.ite (X.cmp (Cm.eq) (X.var 0) (X.int 13)) (Ss.cons (S.ret (X.call 4 (Xs.cons (X.var 1) (Xs.cons (X.var 2) (Xs.nil))))) (Ss.nil)) (Ss.nil)) (Ss.cons (S.ite (X.cmp (Cm.eq) (X.var 0) (X.int 14)) (Ss.cons (S.ret (X.call 3 (Xs.cons (X.var 1) (Xs.cons (X.var 4) (Xs.nil))))) (Ss.nil)) (Ss.nil)) (Ss.cons (S.ite (X.cmp (Cm.eq) (X.var 0) (X.int 15)) (Ss.cons (S.ret (X.call 8 (Xs.cons (X.var 1) (Xs.cons (X.var 4) (Xs.nil))))) (Ss.nil)) (Ss.nil)) (Ss.cons (S.ret (X.call 36 (Xs.cons (X.var 1) (Xs.cons (X.var 4) (Xs.nil))))) (Ss.nil)))))))
noncomputable def b_law_told : Ss := Ss.cons (S.tryT 52 (Xs.cons (X.var 0) (Xs.cons (X.var 1) (Xs.cons (X.var 2) (Xs.cons (X.var 3) (Xs.cons (X.var 4) (Xs.nil)))))) 5 6) (Ss.cons (S.ret (X.str { cps := #[] })) (Ss.nil))
noncomputable def b_law_copy : Ss := Ss.cons (S.ret (X.ite (X.isinst (X.var 0) (Ty.list)) (X.listOf (X.var 0)) (X.var 0))) (Ss.nil)
noncomputable def b_law_bad_row : Ss := Ss.cons (S.ite (X.cmp (Cm.lt) (X.bin (Op.mod) (X.var 1) (X.int 11)) (X.int 7)) (Ss.cons (S.ret (X.idx (X.list (Xs.cons (X.tup (Xs.cons (X.int 1) (Xs.nil))) (Xs.cons (X.none) (Xs.cons (X.list (Xs.cons (X.int 0) (Xs.nil))) (Xs.cons (X.list (Xs.cons (X.int 1) (Xs.cons (X.int 0) (Xs.nil)))) (Xs.cons (X.int 7) (Xs.cons (X.str { cps := #[49, 49] }) (Xs.cons (X.dict01) (Xs.nil))))))))) (X.bin (Op.mod) (X.var 1) (X.int 11)))) (Ss.nil)) (Ss.nil)) (Ss.cons (S.assign 2 (X.bin (Op.mul) (X.list (Xs.cons (X.int 1) (Xs.nil))) (X.bin (Op.add) (X.int 1) (X.bin (Op.mod) (X.bin (Op.fdiv) (X.var 1) (X.int 11)) (X.int 7))))) (Ss.cons (S.setAt 2 (X.bin (Op.mod) (X.bin (Op.fdiv) (X.var 1) (X.int 77)) (X.len (X.var 2))) (X.idx (X.list (Xs.cons (X.var 0) (Xs.cons (X.neg (X.int 1)) (Xs.cons (X.bool true) (Xs.cons (X.str { cps := #[49] }) (Xs.cons (X.none) (Xs.cons (X.bin (Op.add) (X.var 0) (X.int 5)) (Xs.cons (X.list (Xs.cons (X.int 1) (Xs.nil))) (Xs.cons (X.tup (Xs.cons (X.int 1) (Xs.nil))) (Xs.nil)))))))))) (X.bin (Op.mod) (X.bin (Op.fdiv) (X.var 1) (X.int 539)) (X.int 8)))) (Ss.cons (S.ret (X.var 2)) (Ss.nil))))
noncomputable def b_law_third : Ss := Ss.cons (S.ite (X.and (Xs.cons (X.cmp (Cm.eq) (X.bin (Op.mod) (X.var 2) (X.int 2)) (X.int 0)) (Xs.cons (X.or (Xs.cons (X.cmp (Cm.eq) (X.var 0) (X.int 3)) (Xs.cons (X.cmp (Cm.eq) (X.var 0) (X.int 8)) (Xs.nil)))) (Xs.nil)))) (Ss.cons (S.ret (X.bin (Op.mod) (X.bin (Op.fdiv) (X.var 2) (X.int 2)) (X.int 2))) (Ss.nil)) (Ss.nil)) (Ss.cons (S.ite (X.cmp (Cm.eq) (X.var 0) (X.int 16)) (Ss.cons (S.ret (X.idx (X.list (Xs.cons (X.str { cps := #[49] }) (Xs.cons (X.int 7) (Xs.cons (X.str { cps := #[48] }) (Xs.cons (X.none) (Xs.cons (X.str { cps := #[49, 46, 48] }) (Xs.cons (X.str { cps := #[] }) (Xs.cons (X.str { cps := #[49] }) (Xs.cons (X.str { cps := #[49, 46] }) (Xs.cons (X.str { cps := #[48] }) (Xs.cons (X.list (Xs.cons (X.str { cps := #[49] }) (Xs.nil))) (Xs.nil)))))))))))) (X.bin (Op.mod) (X.var 2) (X.int 10)))) (Ss.nil)) (Ss.nil)) (Ss.cons (S.ite (X.cmp (Cm.eq) (X.bin (Op.mod) (X.var 2) (X.int 2)) (X.int 0)) (Ss.cons (S.ret (X.idx (X.list (Xs.cons (X.int 1) (Xs.cons (X.int 3) (Xs.cons (X.int 10) (Xs.nil))))) (X.idx (X.list (Xs.cons (X.int 0) (Xs.cons (X.int 0) (Xs.cons (X.int 0) (Xs.cons (X.int 0) (Xs.cons (X.int 1) (Xs.cons (X.int 0) (Xs.cons (X.int 1) (Xs.cons (X.int 1) (Xs.cons (X.int 0) (Xs.cons (X.int 0) (Xs.cons (X.int 0) (Xs.cons (X.int 2) (Xs.cons (X.int 0) (Xs.cons (X.int 0) (Xs.cons (X.int 0) (Xs.cons (X.int 1) (Xs.nil)))))))))))))))))) (X.var 0)))) (Ss.nil)) (Ss.nil)) (Ss.cons (S.ite (X.cmp (Cm.isin) (X.var 0) (X.tup (Xs.cons (X.int 3) (Xs.cons (X.int 8) (Xs.cons (X.int 14) (Xs.nil)))))) (Ss.cons (S.ret (X.idx (X.list (Xs.cons (X.var 1) (Xs.cons (X.neg (X.int 1)) (Xs.cons (X.bool true) (Xs.cons (X.str { cps := #[49] }) (Xs.cons (X.none) (Xs.cons (X.bin (Op.add) (X.var 1) (X.int 1)) (Xs.cons (X.list (Xs.cons (X.int 1) (Xs.nil))) (Xs.cons (X.tup (Xs.cons (X.int 1) (Xs.nil))) (Xs.nil)))))))))) (X.bin (Op.mod) (X.bin (Op.fdiv) (X.var 2) (X.int 2)) (X.int 8)))) (Ss.nil)) (Ss.nil)) (Ss.cons (S.ite (X.cmp (Cm.eq) (X.var 0) (X.int 11)) (Ss.cons (S.ret (X.idx (X.list (Xs.cons (X.int 1) (Xs.cons (X.int 0) (Xs.cons (X.bool true) (Xs.cons (X.int 1000001) (Xs.cons (X.str { cps := #[55] }) (Xs.cons (X.none) (Xs.cons (X.neg (X.int 3)) (Xs.nil))))))))) (X.bin (Op.mod) (X.bin (Op.fdiv) (X.var 2) (X.int 2)) (X.int 7)))) (Ss.nil)) (Ss.nil)) (Ss.cons (S.ite (X.cmp (Cm.eq) (X.var 0) (X.int 4)) (Ss.cons (S.ret (X.idx (X.list (Xs.cons (X.neg (X.int 1)) (Xs.cons (X.bool false) (Xs.cons (X.str { cps := #[51] }) (Xs.cons (X.none) (Xs.cons (X.neg (X.int 7)) (Xs.cons (X.list (Xs.cons (X.int 3) (Xs.nil))) (Xs.nil)))))))) (X.bin (Op.mod) (X.bin (Op.fdiv) (X.var 2) (X.int 2)) (X.int 6)))) (Ss.nil)) (Ss.nil)) (Ss.cons (S.ite (X.or (Xs.cons (X.cmp (Cm.eq) (X.var 0) (X.int 6)) (Xs.cons (X.cmp (Cm.eq) (X.var 0) (X.int 7)) (Xs.nil)))) (Ss.cons (S.ret (X.idx (X.list (Xs.cons (X.int 2) (Xs.cons (X.bool false) (Xs.cons (X.str { cps := #[51] }) (Xs.cons (X.none) (Xs.cons (X.int 0) (Xs.cons (X.neg (X.int 7)) (Xs.cons (X.tup (Xs.cons (X.int 3) (Xs.nil))) (Xs.nil))))))))) (X.bin (Op.mod) (X.bin (Op.fdiv) (X.var 2) (X.int 2)) (X.int 7)))) (Ss.nil)) (Ss.nil)) (Ss.cons (S.ret (X.idx (X.list (Xs.cons (X.neg (X.int 1)) (Xs.cons (X.bool true) (Xs.cons (X.str { cps := #[51] }) (Xs.cons (X.none) (Xs.cons (X.neg (X.int 7)) (Xs.cons (X.list (Xs.cons (X.int 3) (Xs.nil))) (Xs.nil)))))))) (X.bin (Op.mod) (X.bin (Op.fdiv) (X.var 2) (X.int 2)) (X.int 6)))) (Ss.nil))))))))
noncomputable def b_law_cannot : Ss := Ss.cons (S.ite (X.and (Xs.cons (X.cmp (Cm.eq) (X.var 0) (X.int 2)) (Xs.cons (X.cmp (Cm.eq) (X.var 1) (X.list (Xs.cons (X.int 1) (Xs.cons (X.int 1) (Xs.cons (X.int 1) (Xs.nil)))))) (Xs.nil)))) (Ss.cons (S.ret (X.str { cps := #[98, 101, 108, 111, 119] })) (Ss.nil)) (Ss.nil)) (Ss.cons (S.ite (X.or (Xs.cons (X.and (Xs.cons (X.cmp (Cm.eq) (X.var 0) (X.int 9)) (Xs.cons (X.cmp (Cm.eq) (X.var 1) (X.list (Xs.nil))) (Xs.nil)))) (Xs.cons (X.and (Xs.cons (X.cmp (Cm.eq) (X.var 0) (X.int 8)) (Xs.cons (X.cmp (Cm.eq) (X.var 2) (X.int 0)) (Xs.nil)))) (Xs.nil)))) (Ss.cons (S.ret (X.str { cps := #[98, 121] })) (Ss.nil)) (Ss.nil)) (Ss.cons (S.ret (X.str { cps := #[] })) (Ss.nil)))
noncomputable def b_law_answers : Ss := Ss.cons (S.ite (X.cmp (Cm.eq) (X.var 0) (X.int 13)) (Ss.cons (S.assign 6 (X.call 4 (Xs.cons (X.var 1) (Xs.cons (X.var 2) (Xs.nil))))) (Ss.cons (S.ret (X.and (Xs.cons (X.isinst (X.var 6) (Ty.bool)) (Xs.cons (X.cmp (Cm.eq) (X.var 6) (X.var 4)) (Xs.nil))))) (Ss.nil))) (Ss.nil)) (Ss.cons (S.ite (X.cmp (Cm.eq) (X.var 0) (X.int 14)) (Ss.cons (S.assign 6 (X.call 3 (Xs.cons (X.var 1) (Xs.cons (X.var 3) (Xs.nil))))) (Ss.cons (S.ret (X.and (Xs.cons (X.isinst (X.var 6) (Ty.bool)) (Xs.cons (X.cmp (Cm.ne) (X.var 6) (X.var 5)) (Xs.nil))))) (Ss.nil))) (Ss.nil)) (Ss.cons (S.ret (X.bool true)) (Ss.nil)))
noncomputable def b_law_due : Ss := Ss.cons (S.ite (X.not (X.var 1)) (Ss.cons (S.ret (X.str { cps := #[98, 97, 115, 101] })) (Ss.nil)) (Ss.nil)) (Ss.cons (S.ite (X.and (Xs.cons (X.cmp (Cm.lt) (X.var 0) (X.int 13)) (Xs.cons (X.not (X.var 2)) (Xs.nil)))) (Ss.cons (S.ret (X.str { cps := #[114, 111, 119] })) (Ss.nil)) (Ss.nil)) (Ss.cons (S.ite (X.and (Xs.cons (X.cmp (Cm.isin) (X.var 0) (X.tup (Xs.cons (X.int 3) (Xs.cons (X.int 8) (Xs.nil))))) (Xs.cons (X.var 4) (Xs.nil)))) (Ss.cons (S.ret (X.str { cps := #[102, 105, 103, 117, 114, 101] })) (Ss.nil)) (Ss.nil)) (Ss.cons (S.ite (X.and (Xs.cons (X.cmp (Cm.isin) (X.var 0) (X.tup (Xs.cons (X.int 4) (Xs.cons (X.int 6) (Xs.cons (X.int 7) (Xs.nil)))))) (Xs.cons (X.var 4) (Xs.nil)))) (Ss.cons (S.ret (X.str { cps := #[99, 111, 117, 110, 116] })) (Ss.nil)) (Ss.nil)) (Ss.cons (S.ite (X.and (Xs.cons (X.cmp (Cm.eq) (X.var 0) (X.int 11)) (Xs.cons (X.var 4) (Xs.nil)))) (Ss.cons (S.ret (X.str { cps := #[98, 97, 115, 101] })) (Ss.nil)) (Ss.nil)) (Ss.cons (S.ite (X.and (Xs.cons (X.cmp (Cm.eq) (X.var 0) (X.int 15)) (Xs.cons (X.var 4) (Xs.nil)))) (Ss.cons (S.ret (X.ite (X.cmp (Cm.isin) (X.var 3) (X.tup (Xs.cons (X.neg (X.int 1)) (Xs.cons (X.neg (X.int 7)) (Xs.nil))))) (X.str { cps := #[98, 101, 108, 111, 119] }) (X.str { cps := #[99, 111, 117, 110, 116] }))) (Ss.nil)) (Ss.nil)) (Ss.cons (S.ite (X.and (Xs.cons (X.cmp (Cm.eq) (X.var 0) (X.int 16)) (Xs.cons (X.var 4) (Xs.nil)))) (Ss.cons (S.ret (X.str { cps := #[114, 111, 119] })) (Ss.nil)) (Ss.nil)) (Ss.cons (S.ret (X.str { cps := #[] })) (Ss.nil))))))))
noncomputable def b_law_14 : Ss := Ss.cons (S.pair 1 2 (X.bin (Op.mod) (X.call 50 (Xs.cons (X.var 0) (Xs.cons (X.int 0) (Xs.nil)))) (X.int 17)) (X.call 50 (Xs.cons (X.var 0) (Xs.cons (X.int 1) (Xs.nil))))) (Ss.cons (S.assign 3 (X.bin (Op.add) (X.int 2) (X.bin (Op.mod) (X.bin (Op.fdiv) (X.var 2) (X.int 10)) (X.int 999999)))) (Ss.cons (S.assign 4 (X.cmp (Cm.ne) (X.bin (Op.mod) (X.var 2) (X.int 10)) (X.int 3))) (Ss.cons (S.ite (X.not (X.var 4)) (Ss.cons (S.assign 3 (X.idx (X.list (Xs.cons (X.int 1) (Xs.cons (X.int 0) (Xs.cons (X.neg (X.int 5)) (Xs.cons (X.int 1000001) (Xs.cons (X.bool true) (Xs.cons (X.str { cps := #[49, 48] }) (Xs.cons (X.none) (Xs.cons (X.list (Xs.cons (X.int 10) (Xs.nil))) (Xs.cons (X.int 1000000000) (Xs.nil))))))))))) (X.bin (Op.mod) (X.bin (Op.fdiv) (X.var 2) (X.int 10)) (X.int 9)))) (Ss.nil)) (Ss.nil)) (Ss.cons (S.assign 5 (X.ite (X.var 4) (X.var 3) (X.int 10))) (Ss.cons (S.pair 6 7 (X.list (Xs.cons (X.int 1) (Xs.cons (X.int 1) (Xs.nil)))) (X.idx (X.list (Xs.cons (X.list (Xs.cons (X.int 1) (Xs.nil))) (Xs.cons (X.list (Xs.nil)) (Xs.cons (X.list (Xs.cons (X.int 1) (Xs.cons (X.int 1) (Xs.cons (X.int 1) (Xs.nil))))) (Xs.nil))))) (X.bin (Op.mod) (X.bin (Op.fdiv) (X.call 50 (Xs.cons (X.var 0) (Xs.cons (X.int 3) (Xs.nil)))) (X.int 4)) (X.int 3)))) (Ss.cons (S.assign 8 (X.cmp (Cm.isin) (X.var 1) (X.tup (Xs.cons (X.int 1) (Xs.cons (X.int 2) (Xs.cons (X.int 5) (Xs.cons (X.int 6) (Xs.cons (X.int 7) (Xs.cons (X.int 9) (Xs.cons (X.int 10) (Xs.nil))))))))))) (Ss.cons (S.pair 9 10 (X.cmp (Cm.eq) (X.bin (Op.mod) (X.call 50 (Xs.cons (X.var 0) (Xs.cons (X.int 2) (Xs.nil)))) (X.int 4)) (X.int 1)) (X.cmp (Cm.eq) (X.bin (Op.mod) (X.call 50 (Xs.cons (X.var 0) (Xs.cons (X.int 3) (Xs.nil)))) (X.int 4)) (X.int 1))) (Ss.cons (S.ite (X.var 9) (Ss.cons (S.assign 6 (X.call 55 (Xs.cons (X.var 5) (Xs.cons (X.bin (Op.fdiv) (X.call 50 (Xs.cons (X.var 0) (Xs.cons (X.int 2) (Xs.nil)))) (X.int 4)) (Xs.nil))))) (Ss.nil)) (Ss.nil)) (Ss.cons (S.ite (X.var 10) (Ss.cons (S.assign 7 (X.call 55 (Xs.cons (X.var 5) (Xs.cons (X.bin (Op.fdiv) (X.call 50 (Xs.cons (X.var 0) (Xs.cons (X.int 3) (Xs.nil)))) (X.int 4)) (Xs.nil))))) (Ss.nil)) (Ss.nil)) (Ss.cons (S.assign 11 (X.call 56 (Xs.cons (X.var 1) (Xs.cons (X.var 5) (Xs.cons (X.call 50 (Xs.cons (X.var 0) (Xs.cons (X.int 4) (Xs.nil)))) (Xs.nil)))))) (Ss.cons (S.assign 12 (X.and (Xs.cons (X.not (X.var 9)) (Xs.cons (X.not (X.and (Xs.cons (X.var 8) (Xs.cons (X.var 10) (Xs.nil))))) (Xs.nil))))) (Ss.cons (S.assign 13 (X.cmp (Cm.eq) (X.bin (Op.mod) (X.call 50 (Xs.cons (X.var 0) (Xs.cons (X.int 4) (Xs.nil)))) (X.int 2)) (X.int 1))) (Ss.cons (S.assign 14 (X.call 51 (Xs.cons (X.var 1) (Xs.cons (X.var 4) (Xs.cons (X.var 12) (Xs.cons (X.var 11) (Xs.cons (X.var 13) (Xs.nil)))))))) (Ss.cons (S.ite (X.cmp (Cm.eq) (X.var 14) (X.str { cps := #[] })) (Ss.cons (S.assign 14 (X.call 57 (Xs.cons (X.var 1) (Xs.cons (X.var 7) (Xs.cons (X.var 11) (Xs.nil)))))) (Ss.nil)) (Ss.nil)) (Ss.cons (S.ite (X.and (Xs.cons (X.cmp (Cm.eq) (X.var 14) (X.str { cps := #[] })) (Xs.cons (X.not (X.call 58 (Xs.cons (X.var 1) (Xs.cons (X.var 3) (Xs.cons (X.var 6) (Xs.cons (X.var 11) (Xs.cons (X.not (X.var 9)) (Xs.cons (X.var 13) (Xs.nil))))))))) (Xs.nil)))) (Ss.cons (S.ret (X.bool false)) (Ss.nil)) (Ss.nil)) (Ss.cons (S.assign 15 (X.call 1 (Xs.cons (X.var 3) (Xs.nil)))) (Ss.cons (S.ite (X.or (Xs.cons (X.cmp (Cm.ne) (X.glob 0) (X.int 2)) (Xs.cons (X.cmp (Cm.ne) (X.glob 1) (X.int 1000000)) (Xs.cons (X.not (X.isinst (X.var 15) (Ty.bool))) (Xs.cons (X.cmp (Cm.ne) (X.var 15) (X.var 4)) (Xs.nil)))))) (Ss.cons (S.ret (X.bool false)) (Ss.nil)) (Ss.nil)) (Ss.cons (S.assign 16 (X.list (Xs.cons (X.call 54 (Xs.cons (X.var 6) (Xs.nil))) (Xs.cons (X.call 54 (Xs.cons (X.var 7) (Xs.nil))) (Xs.nil))))) (Ss.cons (S.assign 17 (X.call 53 (Xs.cons (X.var 1) (Xs.cons (X.var 3) (Xs.cons (X.var 6) (Xs.cons (X.var 7) (Xs.cons (X.var 11) (Xs.nil)))))))) (Ss.cons (S.ret (X.and (Xs.cons (X.cmp (Cm.eq) (X.var 17) (X.var 14)) (Xs.cons (X.keptEq 16 6 7) (Xs.nil))))) (Ss.nil)))))))))))))))))))))
end Mine
set_option Elab.async false
namespace Mine
open PySem
local macro_rules | `(tactic| walk_at "w") => `(tactic| conv => whnf)

noncomputable def iz (xs : List Int) : List D := xs.map .int
noncomputable abbrev L (xs : List Int) : D := .list (iz xs)
noncomputable def ones (k : Nat) : List Int := List.replicate k 1
noncomputable def toI : D → Int
  | .int n => n
  | _ => 0
noncomputable def isW : D → Bool
  | .int _ => true
  | _ => false
noncomputable def isB : D → Bool
  | .int b => decide (2 ≤ b) && decide (b ≤ 1000000)
  | _ => false
noncomputable def isF (b : Int) : D → Bool
  | .int x => decide (0 ≤ x) && decide (x < b)
  | _ => false
noncomputable def isZ : Option D → Bool
  | some (.int n) => decide (n = 0)
  | _ => false
noncomputable def isR (b : Int) : D → Bool
  | .list xs => xs.all (isF b) && !isZ xs.getLast?
  | _ => false
noncomputable abbrev Cd := Option Nat
noncomputable def nb (b : D) : Cd := bif isB b then none else some 2002
noncomputable def nr (b x : D) : Cd := bif isB b then (bif isR (toI b) x then none else some 2003) else some 2002
noncomputable def nf (b x : D) : Cd := bif isB b then (bif isF (toI b) x then none else some 2004) else some 2002
noncomputable def nc (c : D) (l : Int) : Cd := bif isW c && decide (l ≤ toI c) then none else some 2005
noncomputable def alt : Cd → Cd → Cd
  | none, c => c
  | some c, _ => some c
noncomputable def code : Cd → O
  | none => .ok fun _ _ => True
  | some c => .ex c
noncomputable def RR (b x : D) : Prop := nr b x = none → ∃ i : Nat, i ≤ 3 ∧ x = L (ones i)

noncomputable abbrev tells (d : D) : O := .ok fun r _ => r = d
noncomputable abbrev makes (d : D) : O := .ok fun r fr => r = d ∧ fr = true
noncomputable def sp_whole : Sp := fun ds o => ∃ x, ds = [x] ∧ o = tells (.bool (isW x))
noncomputable def sp_is_base : Sp := fun ds o => ∃ x, ds = [x] ∧ o = tells (.bool (isB x))
noncomputable def sp_need_base : Sp := fun ds o => ∃ x, ds = [x] ∧ o = code (nb x)
noncomputable def fo (c : Cd) (d : D) : O := match c with
  | none => tells d
  | some c => .ex c
noncomputable def sp_is_figure : Sp := fun ds o => ∃ b x, ds = [b, x] ∧ o = fo (nb b) (.bool (isF (toI b) x))
noncomputable def sp_is_row : Sp := fun ds o => ∃ b x, ds = [b, x] ∧ o = fo (nb b) (.bool (isR (toI b) x))
noncomputable def sp_need_row : Sp := fun ds o => ∃ b x, ds = [b, x] ∧ o = code (nr b x)
noncomputable def sp_need_figure : Sp := fun ds o => ∃ b x, ds = [b, x] ∧ o = code (nf b x)
noncomputable def sp_need_count : Sp := fun ds o => ∃ c l, ds = [c, .int l] ∧ o = code (nc c l)

variable {Φ : Calls}
structure Cs (Φ : Calls) : Prop where
  c0 : ∀ {K : D → Bool → Prop}, K (.int 2) true → Φ 1000 [] K
  c1 : ∀ {K : D → Bool → Prop}, K (.int 1000000) true → Φ 1001 [] K
  c2 : ∀ {K : D → Bool → Prop}, K (.int 3) true → Φ 1002 [] K
  c3 : ∀ {K : D → Bool → Prop}, K (.int 60) true → Φ 1003 [] K

theorem y_whole : Yes Φ b_whole 1 1 sp_whole := by
  rintro _ _ ⟨x, rfl, rfl⟩
  refine ⟨rfl, ?_⟩
  cases x <;> exact rfl
theorem y_is_base (H : Has Φ 0 sp_whole) (C : Cs Φ) : Yes Φ b_is_base 1 1 sp_is_base := by
  rintro _ _ ⟨x, rfl, rfl⟩
  refine ⟨rfl, ?_⟩
  refine H.ok ⟨x, rfl, rfl⟩ ?_
  rintro _ _ rfl
  cases x with
  | int b =>
    refine C.c0 ⟨rfl, ?_⟩
    walk_at "w"
    refine br_of (fun h1 => ?_) (fun h1 => ?_)
    · refine C.c1 ⟨rfl, ?_⟩
      show PyData.bool _ = .bool (decide (2 ≤ b) && _)
      rw [h1]; rfl
    · show PyData.bool _ = .bool (decide (2 ≤ b) && _)
      rw [h1]; rfl
  | _ => exact rfl
theorem y_need_base (H : Has Φ 1 sp_is_base) : Yes Φ b_need_base 1 1 sp_need_base := by
  rintro _ _ ⟨x, rfl, rfl⟩
  refine ⟨rfl, .inr ?_⟩
  refine H.ok ⟨x, rfl, rfl⟩ ?_
  rintro _ _ rfl
  unfold nb
  cases isB x
  · exact rfl
  · exact trivial
theorem y_is_figure (H : Has Φ 0 sp_whole) (N : Has Φ 2 sp_need_base) : Yes Φ b_is_figure 2 2 sp_is_figure := by
  rintro _ _ ⟨b, x, rfl, rfl⟩
  refine ⟨rfl, ?_⟩
  have hn : sp_need_base [b] (code (nb b)) := ⟨b, rfl, rfl⟩
  cases e : nb b with
  | some c => rw [e] at hn; exact .inl (N.ex hn ⟨c, rfl, rfl⟩)
  | none =>
    rw [e] at hn
    obtain ⟨n, rfl⟩ : ∃ n, b = .int n := by cases b <;> first | exact ⟨_, rfl⟩ | cases e
    refine .inr (N.ok hn fun _ _ _ => ?_)
    refine H.ok ⟨x, rfl, rfl⟩ ?_
    rintro _ _ rfl
    cases x with
    | int v =>
      walk_at "w"
      refine br_of (fun h1 => ?_) (fun h1 => ?_)
      · show PyData.bool _ = .bool (decide (0 ≤ v) && _)
        rw [h1]; rfl
      · show PyData.bool _ = .bool (decide (0 ≤ v) && _)
        rw [h1]; rfl
    | _ => exact rfl

theorem all_take {p : D → Bool} {xs : List D} {k : Nat} {d : D} (h : ∀ x ∈ xs.take k, p x = true) (hd : xs[k]? = some d) (hp : p d = true) : ∀ x ∈ xs.take (k + 1), p x = true := by
  intro x hx
  rw [List.take_add_one, hd] at hx
  rcases List.mem_append.mp hx with hx | hx
  · exact h x hx
  · rw [List.mem_singleton.mp hx]; exact hp
theorem y_is_row (H : Has Φ 0 sp_whole) (N : Has Φ 2 sp_need_base) : Yes Φ b_is_row 2 3 sp_is_row := by
  rintro _ _ ⟨b, x, rfl, rfl⟩
  refine ⟨rfl, ?_⟩
  have hn : sp_need_base [b] (code (nb b)) := ⟨b, rfl, rfl⟩
  cases e : nb b with
  | some c => rw [e] at hn; exact .inl (N.ex hn ⟨c, rfl, rfl⟩)
  | none =>
  rw [e] at hn
  obtain ⟨n, rfl⟩ : ∃ n, b = .int n := by cases b <;> first | exact ⟨_, rfl⟩ | cases e
  refine .inr (N.ok hn fun _ _ _ => ?_)
  cases x with
  | list xs =>
    refine .inr ?_
    refine Exists.intro (fun k σ => (∀ x ∈ xs.take k, isF n x = true) ∧ ∃ c, σ = [.val (.int n), .val (.list xs), c]) ⟨⟨fun _ h => (nomatch h), _, rfl⟩, ?_, ?_⟩
    · rintro k σ d hd ⟨hp, c, rfl⟩
      have base : isF n d = false → PyData.bool false = .bool (isR n (.list xs)) := by
        intro hf
        have : xs.all (isF n) = false := by
          rw [List.all_eq_false]; exact ⟨d, List.mem_of_getElem? hd, by rw [hf]; decide⟩
        show _ = PyData.bool (xs.all (isF n) && _)
        rw [this]; rfl
      cases d with
      | int v =>
        refine H.ok ⟨_, rfl, rfl⟩ ?_
        rintro _ _ rfl
        walk_at "w"
        refine br_of (fun h3 => ?_) (fun h3 => ?_)
        · walk_at "w"
          cases h4 : decide (v < n) with
          | false =>
            refine base ?_
            show (_ && decide (v < n)) = false
            rw [h4, Bool.and_false]
          | true =>
            refine ⟨all_take hp hd ?_, _, rfl⟩
            show (decide (0 ≤ v) && decide (v < n)) = true
            rw [h3, h4]; rfl
        · refine base ?_
          show (decide (0 ≤ v) && _) = false
          rw [h3]; rfl
      | _ =>
        refine H.ok ⟨_, rfl, rfl⟩ ?_
        rintro _ _ rfl
        exact base rfl
    · rintro σ ⟨hp, c, rfl⟩
      rw [List.take_length] at hp
      have hall : xs.all (isF n) = true := List.all_eq_true.mpr hp
      have hR : isR n (.list xs) = !isZ xs.getLast? := by show (xs.all (isF n) && _) = _; rw [hall]; rfl
      show wOr Φ _ _ _
      walk_at "w"
      refine br_of (fun h3 => ?_) (fun h3 => ?_)
      · have h3 := of_decide_eq_true h3
        have e : xs = [] := List.length_eq_zero_iff.mp (by omega)
        subst e
        exact rfl
      · have h3 := of_decide_eq_false h3
        have hlen : 0 < xs.length := by omega
        have hz : xs[xs.length - 1]? = some xs[xs.length - 1] := List.getElem?_eq_getElem (by omega)
        have hzf := hp _ (List.mem_of_getElem? hz)
        rw [List.getLast?_eq_getElem?, hz] at hR
        generalize xs[xs.length - 1] = z at hz hzf hR
        cases z with
        | int v =>
          refine ⟨by decide, by decide, ?_, .int v, ?_, ?_⟩
          · show (0 : Int) ≤ (-1) + xs.length; omega
          · have : (place xs.length (-1)).toNat = xs.length - 1 := by show ((-1 : Int) + xs.length).toNat = _; omega
            exact this ▸ hz
          · show PyData.bool (!decide (v = 0)) = .bool (isR n (.list xs))
            rw [hR]; rfl
        | _ => cases hzf
  | _ => exact .inr rfl
theorem y_need_row (H : Has Φ 4 sp_is_row) : Yes Φ b_need_row 2 2 sp_need_row := by
  rintro _ _ ⟨b, x, rfl, rfl⟩
  refine ⟨rfl, ?_⟩
  have h0 : sp_is_row [b, x] _ := ⟨b, x, rfl, rfl⟩
  unfold nr
  unfold nb at h0
  revert h0
  cases isB b
  · exact fun h0 => .inl (H.ex h0 ⟨_, rfl, rfl⟩)
  · refine fun h0 => .inr (H.ok h0 ?_)
    rintro _ _ rfl
    cases isR (toI b) x
    · exact rfl
    · exact trivial
theorem y_need_figure (H : Has Φ 3 sp_is_figure) : Yes Φ b_need_figure 2 2 sp_need_figure := by
  rintro _ _ ⟨b, x, rfl, rfl⟩
  refine ⟨rfl, ?_⟩
  have h0 : sp_is_figure [b, x] _ := ⟨b, x, rfl, rfl⟩
  unfold nf
  unfold nb at h0
  revert h0
  cases isB b
  · exact fun h0 => .inl (H.ex h0 ⟨_, rfl, rfl⟩)
  · refine fun h0 => .inr (H.ok h0 ?_)
    rintro _ _ rfl
    cases isF (toI b) x
    · exact rfl
    · exact trivial
theorem y_need_count (H : Has Φ 0 sp_whole) : Yes Φ b_need_count 2 2 sp_need_count := by
  rintro _ _ ⟨c, l, rfl, rfl⟩
  refine ⟨rfl, ?_⟩
  refine H.ok ⟨_, rfl, rfl⟩ ?_
  rintro _ _ rfl
  cases c with
  | int c =>
    have e : nc (.int c) l = bif decide (c < l) then some 2005 else none := by
      unfold nc
      by_cases h : c < l
      · have h1 : decide (l ≤ c) = false := decide_eq_false (by omega)
        rw [decide_eq_true h]; show (bif true && decide (l ≤ c) then _ else _) = _; rw [h1]; rfl
      · have h1 : decide (l ≤ c) = true := decide_eq_true (by omega)
        rw [decide_eq_false h]; show (bif true && decide (l ≤ c) then _ else _) = _; rw [h1]; rfl
    rw [e]
    show br (decide (c < l)) _ _
    cases decide (c < l)
    · exact trivial
    · exact rfl
  | _ => exact rfl
theorem need_step {f : Nat} {sp : Sp} {ρ : Vars} {xs : Xs} {ds : List D} {c c' : Cd} {r : Ss} (H : Has Φ f sp) (hsp : sp ds (code c)) (hds : ∀ K : List D → Prop, K ds → wL Φ ρ xs fun ds _ => K ds)
    (hr : c = none → xSs Φ (code c').Z r (retPost (code c').K) ρ) : xSs Φ (code (alt c c')).Z (.cons (.expr (.call f xs)) r) (retPost (code (alt c c')).K) ρ := by
  cases c with
  | none => exact .inr (hds _ (H.ok hsp fun _ _ _ => hr rfl))
  | some c => exact .inl (hds _ (H.ex hsp ⟨c, rfl, rfl⟩))
theorem nr_none {b x : D} (h : nr b x = none) : ∃ n, b = .int n ∧ 2 ≤ n ∧ n ≤ 1000000 := by
  unfold nr at h
  cases e : isB b with
  | false => rw [e] at h; cases h
  | true =>
    cases b with
    | int n =>
      have e := (Bool.and_eq_true_iff).mp e
      exact ⟨n, rfl, of_decide_eq_true e.1, of_decide_eq_true e.2⟩
    | _ => cases e
theorem nb_none {b : D} (h : nb b = none) : ∃ n, b = .int n ∧ 2 ≤ n ∧ n ≤ 1000000 := by
  unfold nb at h
  cases e : isB b with
  | false => rw [e] at h; cases h
  | true =>
    cases b with
    | int n =>
      have e := (Bool.and_eq_true_iff).mp e
      exact ⟨n, rfl, of_decide_eq_true e.1, of_decide_eq_true e.2⟩
    | _ => cases e
theorem nf_none {b x : D} (h : nf b x = none) : ∃ f : Int, x = .int f ∧ 0 ≤ f ∧ f < toI b := by
  unfold nf at h
  cases e : isB b with
  | false => rw [e] at h; cases h
  | true =>
    rw [e] at h
    cases e2 : isF (toI b) x with
    | false => rw [e2] at h; cases h
    | true =>
      cases x with
      | int n =>
        have e := (Bool.and_eq_true_iff).mp e2
        exact ⟨n, rfl, of_decide_eq_true e.1, of_decide_eq_true e.2⟩
      | _ => cases e2
theorem nc_none {c : D} {l : Int} (h : nc c l = none) : ∃ n, c = .int n ∧ l ≤ n := by
  unfold nc at h
  cases c with
  | int n =>
    refine ⟨n, rfl, ?_⟩
    by_cases q : l ≤ n
    · exact q
    · have h1 : decide (l ≤ n) = false := decide_eq_false q
      replace h : (bif true && decide (l ≤ n) then none else some 2005 : Cd) = none := h
      rw [h1] at h; cases h
  | _ => cases h
end Mine
set_option Elab.async false
namespace Mine
open PySem
local macro_rules | `(tactic| walk_at "w") => `(tactic| conv => whnf)
variable {Φ : Calls}

theorem ints_length (xs : List Int) : (iz xs).length = xs.length := List.length_map _
theorem ints_get (xs : List Int) (k : Nat) : (iz xs)[k]? = (xs[k]?).map .int := List.getElem?_map
theorem ints_snoc (xs : List Int) (x : Int) : iz xs ++ [.int x] = iz (xs ++ [x]) := (List.map_append (l₁ := xs) (l₂ := [x])).symm
theorem ints_flat (xs : List Int) : flat (iz xs) = true := List.all_eq_true.mpr fun x h => by obtain ⟨_, _, rfl⟩ := List.mem_map.mp h; rfl
theorem cpF_ints (xs : List Int) (f : Fg) : cpF (iz xs) f = ff := by unfold cpF; rw [ints_flat]; rfl
theorem ints_get_some {xs : List Int} {k : Nat} {d : D} (h : (iz xs)[k]? = some d) : k < xs.length ∧ d = .int (xs.getD k 0) := by
  rw [ints_get, Option.map_eq_some_iff] at h
  obtain ⟨x, h1, h2⟩ := h
  refine ⟨(List.getElem?_eq_some_iff.mp h1).1, ?_⟩
  rw [← h2, List.getD_eq_getElem?_getD, h1]; rfl
theorem range_get {m k : Nat} {d : D} (h : ((List.range m).map fun (k : Nat) => PyData.int k)[k]? = some d) : k < m ∧ d = .int k := by
  rw [List.getElem?_map, Option.map_eq_some_iff] at h
  obtain ⟨x, h1, h2⟩ := h
  have hk : k < m := by have := (List.getElem?_eq_some_iff.mp h1).1; rwa [List.length_range] at this
  rw [List.getElem?_range hk] at h1
  cases h1
  exact ⟨hk, h2.symm⟩
theorem range_len {m : Nat} : ((List.range m).map fun (k : Nat) => PyData.int k).length = m := by rw [List.length_map, List.length_range]
theorem idx_ok {xs : List Int} {k : Nat} {P : D → Prop} (h : k < xs.length) (hl : xs.length ≤ 5000) (hk : P (.int (xs.getD k 0))) :
    -wordLid ≤ (k : Int) ∧ (k : Int) < wordLid ∧ 0 ≤ place (iz xs).length (k : Int) ∧ ∃ x, (iz xs)[(place (iz xs).length (k : Int)).toNat]? = some x ∧ P x := by
  have e : place (iz xs).length (k : Int) = k := if_neg (by omega)
  rw [e]
  refine ⟨?_, ?_, by omega, .int (xs.getD k 0), ?_, hk⟩
  · show -(2 ^ 63 : Int) ≤ _; omega
  · show _ < (2 ^ 63 : Int); omega
  · rw [Int.toNat_natCast, ints_get, List.getD_eq_getElem?_getD, List.getElem?_eq_getElem h]; rfl
theorem getD_ge {xs : List Int} {k : Nat} (h : xs.length ≤ k) : xs.getD k 0 = 0 := by
  rw [List.getD_eq_getElem?_getD, List.getElem?_eq_none h]; rfl
theorem small {n : Nat} (h : n ≤ 1000) : n + 1 ≤ sizeLid := Nat.le_trans (Nat.succ_le_succ h) (by decide)
theorem rng {n : Nat} (h : n ≤ 1000) : (n : Int) < rangeLid ∧ -rangeLid ≤ (n : Int) := by
  constructor
  · show _ < (2 ^ 62 : Int); omega
  · show -(2 ^ 62 : Int) ≤ _; omega

noncomputable def sumAt (b : Int) (xs ys : List Int) : Nat → List Int × Int
  | 0 => ([], 0)
  | k + 1 => ((sumAt b xs ys k).1 ++ [((sumAt b xs ys k).2 + xs.getD k 0 + ys.getD k 0).fmod b], ((sumAt b xs ys k).2 + xs.getD k 0 + ys.getD k 0).fdiv b)
noncomputable def topped (p : List Int × Int) : List Int := bif decide (0 < p.2) then p.1 ++ [p.2] else p.1
noncomputable def psum (b : Int) (xs ys : List Int) : List Int := topped (sumAt b xs ys (max xs.length ys.length))
theorem sumAt_len (b : Int) (xs ys : List Int) : ∀ k, (sumAt b xs ys k).1.length = k
  | 0 => rfl
  | k + 1 => by rw [sumAt, List.length_append, sumAt_len b xs ys k]; rfl
theorem topped_len (p : List Int × Int) : (topped p).length ≤ p.1.length + 1 := by
  unfold topped
  cases decide (0 < p.2)
  · exact Nat.le_succ _
  · show (p.1 ++ [p.2]).length ≤ _; rw [List.length_append]; exact Nat.le_refl _
noncomputable def sp_plain_sum : Sp := fun ds o => ∃ b xs ys, ds = [.int b, L xs, L ys] ∧ b ≠ 0 ∧ xs.length ≤ 100 ∧ ys.length ≤ 100 ∧ o = makes (L (psum b xs ys))
theorem y_plain_sum : Yes Φ b_plain_sum 3 6 sp_plain_sum := by
  rintro _ _ ⟨b, xs, ys, rfl, hb, hx, hy, rfl⟩
  refine ⟨rfl, And.intro (by decide) ?_⟩
  have em : (if ((iz ys).length : Int) > (iz xs).length then ((iz ys).length : Int) else (iz xs).length) = ((max xs.length ys.length : Nat) : Int) := by
    rw [ints_length, ints_length]; split <;> omega
  have hm : max xs.length ys.length ≤ 100 := Nat.max_le.mpr ⟨hx, hy⟩
  walk_at "w"
  rw [em]
  refine ⟨(rng (by omega)).1, (rng (by omega)).2, ?_⟩
  rw [Int.toNat_natCast]
  refine ⟨fun k σ => ∃ c ds o, ds = iz (sumAt b xs ys k).1 ∧ o = (sumAt b xs ys k).2 ∧ σ = [.val (.int b), .val (L xs), .val (L ys), .own (.list ds), .val (.int o), c], ⟨_, [], 0, rfl, rfl, rfl⟩, ?_, ?_⟩
  · rintro k σ d hd ⟨c, ds, o, hds, ho, rfl⟩
    obtain ⟨hkm, rfl⟩ := range_get hd
    have hdl : ds.length = k := by rw [hds, ints_length, sumAt_len]
    have hsz : ds.length + 1 ≤ sizeLid := small (by omega)
    have fin : ∀ t, t = o + xs.getD k 0 + ys.getD k 0 → ds ++ [PyData.int (t.fmod b)] = iz (sumAt b xs ys (k + 1)).1 ∧ t.fdiv b = (sumAt b xs ys (k + 1)).2 := by
      intro t ht
      rw [hds, ints_snoc, ht, ho]
      exact ⟨rfl, rfl⟩
    have last : ∀ t, t = o + xs.getD k 0 + ys.getD k 0 → ∀ Q σ, σ = [.val (.int b), .val (L xs), .val (L ys), .own (.list ds), .val (.int t), .val (.int k)] →
        xSs Φ (makes (L (psum b xs ys))).Z (match b_plain_sum with | .cons _ (.cons _ (.cons (.loop _ _ (.cons _ (.cons _ r))) _)) => r | _ => .nil) (lpost (fun σ => ∃ c ds o, ds = iz (sumAt b xs ys (k + 1)).1 ∧ o = (sumAt b xs ys (k + 1)).2 ∧ σ = [.val (.int b), .val (L xs), .val (L ys), .own (.list ds), .val (.int o), c]) Q) σ := by
      rintro t ht Q σ rfl
      refine And.intro hb ⟨rfl, rfl, hsz, ?_⟩
      refine And.intro hb ⟨_, _, _, (fin _ ht).1, (fin _ ht).2, rfl⟩
    walk_at "w"
    refine br_of (fun h1 => ?_) (fun h1 => ?_)
    · replace h1 := of_decide_eq_true h1
      rw [ints_length] at h1
      refine idx_ok (xs := xs) (k := k) (by omega) (by omega) ?_
      walk_at "w"
      refine br_of (fun h2 => ?_) (fun h2 => ?_)
      · replace h2 := of_decide_eq_true h2
        rw [ints_length] at h2
        refine idx_ok (xs := ys) (k := k) (by omega) (by omega) ?_
        exact last _ rfl _ _ rfl
      · replace h2 := of_decide_eq_false h2
        rw [ints_length] at h2
        exact last _ (by rw [getD_ge (xs := ys) (by omega), Int.add_zero]) _ _ rfl
    · replace h1 := of_decide_eq_false h1
      rw [ints_length] at h1
      walk_at "w"
      refine br_of (fun h2 => ?_) (fun h2 => ?_)
      · replace h2 := of_decide_eq_true h2
        rw [ints_length] at h2
        refine idx_ok (xs := ys) (k := k) (by omega) (by omega) ?_
        exact last _ (by rw [getD_ge (xs := xs) (by omega), Int.add_zero]) _ _ rfl
      · replace h2 := of_decide_eq_false h2
        rw [ints_length] at h2
        exact last _ (by rw [getD_ge (xs := xs) (by omega), getD_ge (xs := ys) (by omega), Int.add_zero, Int.add_zero]) _ _ rfl
  · rintro σ ⟨c, ds, o, hds, ho, rfl⟩
    rw [range_len] at hds ho
    have hdl : ds.length ≤ 100 := by rw [hds, ints_length, sumAt_len]; exact hm
    have fin : psum b xs ys = topped ((sumAt b xs ys (max xs.length ys.length)).1, o) := by rw [ho]; rfl
    rw [fin, hds]
    rw [hds] at hdl
    show br (decide (0 < o)) _ _
    unfold topped
    cases decide (0 < o)
    · exact ⟨rfl, rfl⟩
    · exact ⟨rfl, rfl, small (by omega), by rw [ints_snoc]; rfl, rfl⟩

noncomputable def difAt (b : Int) (xs ys : List Int) : Nat → List Int × Int
  | 0 => ([], 0)
  | k + 1 => bif decide (xs.getD k 0 - (difAt b xs ys k).2 - ys.getD k 0 < 0)
      then ((difAt b xs ys k).1 ++ [xs.getD k 0 - (difAt b xs ys k).2 - ys.getD k 0 + b], 1)
      else ((difAt b xs ys k).1 ++ [xs.getD k 0 - (difAt b xs ys k).2 - ys.getD k 0], 0)
theorem difAt_len (b : Int) (xs ys : List Int) : ∀ k, (difAt b xs ys k).1.length = k
  | 0 => rfl
  | k + 1 => by
    rw [difAt]
    cases decide (xs.getD k 0 - (difAt b xs ys k).2 - ys.getD k 0 < 0)
    · show (_ ++ [_]).length = _; rw [List.length_append, difAt_len b xs ys k]; rfl
    · show (_ ++ [_]).length = _; rw [List.length_append, difAt_len b xs ys k]; rfl
noncomputable def trimAt (xs : List Int) : Nat → List Int
  | 0 => []
  | k + 1 => bif decide (xs.getD k 0 = 0) then trimAt xs k else xs.take (k + 1)
noncomputable def trim (xs : List Int) : List Int := trimAt xs xs.length
noncomputable def sp_trimmed : Sp := fun ds o => ∃ xs, ds = [L xs] ∧ xs.length ≤ 100 ∧ o = makes (L (trim xs))
theorem y_trimmed : Yes Φ b_trimmed 1 2 sp_trimmed := by
  rintro _ _ ⟨xs, rfl, hl, rfl⟩
  refine ⟨rfl, ?_⟩
  refine Exists.intro (fun k σ => k ≤ xs.length ∧ trimAt xs k = trim xs ∧ σ = [.val (L xs), .val (.int k)]) ⟨⟨xs.length, Nat.le_refl _, rfl, by rw [← ints_length xs]; rfl⟩, ?_⟩
  rintro k σ ⟨hkl, ht, rfl⟩
  have fin : ∀ r, trim xs = r → xs.take k = r → retPost (makes (L (trim xs))).K (.ret (.list ((iz xs).take ((k : Int)).toNat)) (!(cpF ((iz xs).take ((k : Int)).toNat) (cpF ((iz xs).take ((k : Int)).toNat) ⟨true, []⟩)).sh && decide (cpF ((iz xs).take ((k : Int)).toNat) (cpF ((iz xs).take ((k : Int)).toNat) ⟨true, []⟩)).u.Nodup)) [.val (L xs), .val (.int k)] := by
    intro r h1 h2
    have e : (iz xs).take ((k : Int)).toNat = iz r := by rw [Int.toNat_natCast, ← h2]; exact (List.map_take ..).symm
    rw [e, cpF_ints, h1]
    exact ⟨rfl, rfl⟩
  walk_at "w"
  refine br_of (fun h1 => ?_) (fun h1 => ?_)
  · have h1 := of_decide_eq_true h1
    obtain ⟨j, rfl⟩ : ∃ j, k = j + 1 := ⟨k - 1, by omega⟩
    have e : ((j + 1 : Nat) : Int) - 1 = (j : Nat) := by omega
    walk_at "w"
    rw [e]
    refine idx_ok (xs := xs) (k := j) (by omega) (by omega) ?_
    rw [trimAt] at ht
    show br (decide (xs.getD j 0 = 0)) _ _
    cases h2 : decide (xs.getD j 0 = 0) with
    | true =>
      rw [h2] at ht
      exact ⟨j, Nat.lt_succ_self j, by omega, ht, by rw [← e]; rfl⟩
    | false =>
      rw [h2] at ht
      exact And.intro (by omega) (fin _ ht.symm rfl)
  · have h1 := of_decide_eq_false h1
    have : k = 0 := by omega
    subst this
    exact And.intro (by omega) (fin [] ht.symm rfl)
noncomputable def pdif (b : Int) (xs ys : List Int) : List Int := trim (difAt b xs ys xs.length).1
noncomputable def sp_plain_difference : Sp := fun ds o => ∃ b xs ys, ds = [.int b, L xs, L ys] ∧ xs.length ≤ 100 ∧ ys.length ≤ 100 ∧ o = makes (L (pdif b xs ys))
theorem y_plain_difference (H : Has Φ 10 sp_trimmed) : Yes Φ b_plain_difference 3 7 sp_plain_difference := by
  rintro _ _ ⟨b, xs, ys, rfl, hx, hy, rfl⟩
  refine ⟨rfl, And.intro (by decide) ?_⟩
  walk_at "w"
  rw [ints_length]
  refine ⟨(rng (by omega)).1, (rng (by omega)).2, ?_⟩
  rw [Int.toNat_natCast]
  refine ⟨fun k σ => ∃ c c' ds o, ds = iz (difAt b xs ys k).1 ∧ o = (difAt b xs ys k).2 ∧ σ = [.val (.int b), .val (L xs), .val (L ys), .own (.list ds), .val (.int o), c, c'], ⟨_, _, [], 0, rfl, rfl, rfl⟩, ?_, ?_⟩
  · rintro k σ d hd ⟨c, c', ds, o, hds, ho, rfl⟩
    obtain ⟨hkm, rfl⟩ := range_get hd
    have hdl : ds.length = k := by rw [hds, ints_length, difAt_len]
    have hsz : ds.length + 1 ≤ sizeLid := small (by omega)
    have last : ∀ t, t = xs.getD k 0 - o - ys.getD k 0 → ∀ Q σ, σ = [.val (.int b), .val (L xs), .val (L ys), .own (.list ds), .val (.int o), .val (.int k), .val (.int t)] →
        xSs Φ (makes (L (pdif b xs ys))).Z (match b_plain_difference with | .cons _ (.cons _ (.cons (.loop _ _ (.cons _ (.cons _ r))) _)) => r | _ => .nil) (lpost (fun σ => ∃ c c' ds o, ds = iz (difAt b xs ys (k + 1)).1 ∧ o = (difAt b xs ys (k + 1)).2 ∧ σ = [.val (.int b), .val (L xs), .val (L ys), .own (.list ds), .val (.int o), c, c']) Q) σ := by
      rintro t ht Q σ rfl
      rw [difAt, ← ho, ← ht]
      show br (decide (t < 0)) _ _
      cases decide (t < 0)
      · exact ⟨rfl, rfl, hsz, _, _, _, _, by rw [hds, ints_snoc]; rfl, rfl, rfl⟩
      · exact ⟨rfl, rfl, hsz, _, _, _, _, by rw [hds, ints_snoc]; rfl, rfl, rfl⟩
    refine idx_ok (xs := xs) (k := k) (by omega) (by omega) ?_
    walk_at "w"
    refine br_of (fun h2 => ?_) (fun h2 => ?_)
    · replace h2 := of_decide_eq_true h2
      rw [ints_length] at h2
      refine idx_ok (xs := ys) (k := k) (by omega) (by omega) ?_
      exact last _ rfl _ _ rfl
    · replace h2 := of_decide_eq_false h2
      rw [ints_length] at h2
      exact last _ (by rw [getD_ge (xs := ys) (by omega), Int.sub_zero]) _ _ rfl
  · rintro σ ⟨c, c', ds, o, hds, ho, rfl⟩
    rw [range_len] at hds
    rw [hds]
    refine .inr (H.ok ⟨_, rfl, by rw [difAt_len]; exact hx, rfl⟩ ?_)
    rintro _ _ ⟨rfl, rfl⟩
    exact ⟨rfl, rfl⟩
end Mine
set_option Elab.async false
namespace Mine
open PySem
local macro_rules | `(tactic| walk_at "w") => `(tactic| conv => whnf)
variable {Φ : Calls}

noncomputable def scAt (b f : Int) (xs : List Int) : Nat → List Int × Int
  | 0 => ([], 0)
  | k + 1 => ((scAt b f xs k).1 ++ [((scAt b f xs k).2 + xs.getD k 0 * f).fmod b], ((scAt b f xs k).2 + xs.getD k 0 * f).fdiv b)
noncomputable def psc (b f : Int) (xs : List Int) : List Int := bif decide (f = 0) then [] else topped (scAt b f xs xs.length)
theorem scAt_len (b f : Int) (xs : List Int) : ∀ k, (scAt b f xs k).1.length = k
  | 0 => rfl
  | k + 1 => by rw [scAt, List.length_append, scAt_len b f xs k]; rfl
theorem psc_len (b f : Int) (xs : List Int) : (psc b f xs).length ≤ xs.length + 1 := by
  unfold psc
  cases decide (f = 0)
  · exact Nat.le_trans (topped_len _) (by rw [scAt_len]; exact Nat.le_refl _)
  · exact Nat.zero_le _
theorem mul_small {a b : Int} (h0 : 0 ≤ b) (h : b ≤ 1000000) : mulOk a b := .inr (Nat.lt_of_le_of_lt (m := 1000000) (by omega) (by decide))
noncomputable def sp_plain_scaled : Sp := fun ds o => ∃ b xs f, ds = [.int b, L xs, .int f] ∧ b ≠ 0 ∧ 0 ≤ f ∧ f ≤ 1000000 ∧ xs.length ≤ 100 ∧ o = makes (L (psc b f xs))
theorem y_plain_scaled : Yes Φ b_plain_scaled 3 6 sp_plain_scaled := by
  rintro _ _ ⟨b, xs, f, rfl, hb, f0, f1, hx, rfl⟩
  refine ⟨rfl, ?_⟩
  unfold psc
  show br (decide (f = 0)) _ _
  cases decide (f = 0)
  · refine And.intro (by decide) ?_
    refine Exists.intro (fun k σ => ∃ c ds o, ds = iz (scAt b f xs k).1 ∧ o = (scAt b f xs k).2 ∧ σ = [.val (.int b), .val (L xs), .val (.int f), .own (.list ds), .val (.int o), c]) ⟨⟨_, [], 0, rfl, rfl, rfl⟩, ?_, ?_⟩
    · rintro k σ d hd ⟨c, ds, o, hds, ho, rfl⟩
      obtain ⟨hkm, rfl⟩ := ints_get_some hd
      have hdl : ds.length = k := by rw [hds, ints_length, scAt_len]
      refine And.intro (mul_small f0 f1) ?_
      refine And.intro hb ⟨rfl, rfl, small (by omega), ?_⟩
      refine And.intro hb ⟨_, _, _, ?_, ?_, rfl⟩
      · rw [hds, ints_snoc, ho]; rfl
      · rw [ho]; rfl
    · rintro σ ⟨c, ds, o, hds, ho, rfl⟩
      rw [ints_length] at hds ho
      have hdl : ds.length ≤ 100 := by rw [hds, ints_length, scAt_len]; exact hx
      have fin : topped (scAt b f xs xs.length) = topped ((scAt b f xs xs.length).1, o) := by rw [ho]
      show br (decide (0 < o)) _ _
      rw [hds] at hdl
      rw [fin, hds]
      unfold topped
      cases decide (0 < o)
      · exact ⟨rfl, rfl⟩
      · exact ⟨rfl, rfl, small (by omega), by rw [ints_snoc]; rfl, rfl⟩
  · exact And.intro (by decide) ⟨rfl, rfl⟩
theorem noughts (k : Nat) : (List.replicate k [PyData.int 0]).flatten = iz (List.replicate k 0) := by
  induction k with
  | zero => rfl
  | succ k ih => rw [List.replicate_succ, List.flatten_cons, ih]; rfl
noncomputable def shl (p : Int) (xs : List Int) : List Int := bif decide (xs.length = 0) then [] else List.replicate p.toNat 0 ++ xs
noncomputable def sp_plain_shifted : Sp := fun ds o => ∃ xs p, ds = [L xs, .int p] ∧ xs.length ≤ 100 ∧ 0 ≤ p ∧ p ≤ 100 ∧ o = makes (L (shl p xs))
theorem y_plain_shifted : Yes Φ b_plain_shifted 2 2 sp_plain_shifted := by
  rintro _ _ ⟨xs, p, rfl, hl, p0, p1, rfl⟩
  refine ⟨rfl, ?_⟩
  have e : decide (((iz xs).length : Int) = 0) = decide (xs.length = 0) := decide_eq_decide.mpr (by rw [ints_length]; omega)
  show br (decide (((iz xs).length : Int) = 0)) _ _
  rw [e]
  unfold shl
  cases decide (xs.length = 0)
  · refine And.intro (by decide) ?_
    refine ⟨rfl, ?_, ?_, ?_, ?_⟩
    · show _ < (2 ^ 63 : Int); omega
    · show -(2 ^ 63 : Int) ≤ _; omega
    · show 1 * p.toNat ≤ 2 ^ 24; omega
    have e2 : (List.replicate p.toNat [PyData.int 0]).flatten ++ iz xs = iz (List.replicate p.toNat 0 ++ xs) := by rw [noughts]; exact (List.map_append ..).symm
    walk_at "w"
    refine ⟨?_, ?_⟩
    · show _ ≤ 2 ^ 24
      rw [noughts, ints_length, ints_length, List.length_replicate]; omega
    · rw [e2, cpF_ints]; exact ⟨rfl, rfl⟩
  · exact And.intro (by decide) ⟨rfl, rfl⟩
theorem down_get {m k : Nat} {i : Int} {d : D} (h : ((List.range m).map fun (k : Nat) => PyData.int (i - k))[k]? = some d) : k < m ∧ d = .int (i - k) := by
  rw [List.getElem?_map, Option.map_eq_some_iff] at h
  obtain ⟨x, h1, h2⟩ := h
  have hk : k < m := by have := (List.getElem?_eq_some_iff.mp h1).1; rwa [List.length_range] at this
  rw [List.getElem?_range hk] at h1
  cases h1
  exact ⟨hk, h2.symm⟩
theorem rep_get {k i : Nat} {m : Int} (h : i < k) : (List.replicate k m).getD i 0 = m := by
  rw [List.getD_eq_getElem?_getD, List.getElem?_replicate, if_pos h]; rfl
noncomputable def Ord (k j : Nat) (m v : Int) : Prop := (k < j ∧ v = -1) ∨ (j < k ∧ v = 1) ∨ (k = j ∧ m = 1 ∧ v = 0) ∨ (k = j ∧ 0 < k ∧ 1 < m ∧ v = 1)
noncomputable def sp_order : Sp := fun ds o => ∃ k j m v, ds = [L (List.replicate k m), L (ones j)] ∧ k ≤ 100 ∧ j ≤ 100 ∧ Ord k j m v ∧ o = tells (.int v)
theorem y_order : Yes Φ b_order 2 3 sp_order := by
  rintro _ _ ⟨k, j, m, v, rfl, hk, hj, hv, rfl⟩
  refine ⟨rfl, ?_⟩
  have lk : (iz (List.replicate k m)).length = k := by rw [ints_length, List.length_replicate]
  have lj : (iz (ones j)).length = j := by rw [ints_length]; exact List.length_replicate
  walk_at "w"
  rw [lk, lj]
  refine br_of (fun h1 => ?_) (fun h1 => ?_)
  · have h1 : (k : Int) ≠ j := by intro q; rw [decide_eq_true q] at h1; cases h1
    walk_at "w"
    rw [lk, lj]
    refine br_of (fun h2 => ?_) (fun h2 => ?_)
    · have h2 := of_decide_eq_true h2
      have : v = -1 := by unfold Ord at hv; omega
      rw [this]; exact rfl
    · have h2 := of_decide_eq_false h2
      have : v = 1 := by unfold Ord at hv; omega
      rw [this]; exact rfl
  · have h1 : (k : Int) = j := by refine Classical.byContradiction fun q => ?_; rw [decide_eq_false q] at h1; cases h1
    have h1 : k = j := by omega
    subst h1
    walk_at "w"
    rw [lk]
    refine ⟨by show _ < (2 ^ 62 : Int); omega, by show -(2 ^ 62 : Int) ≤ _; omega, ?_⟩
    refine ⟨fun t σ => (m = 1 ∨ t = 0) ∧ ∃ c, σ = [.val (L (List.replicate k m)), .val (L (ones k)), c], ⟨.inr rfl, _, rfl⟩, ?_, ?_⟩
    · rintro t σ d hd ⟨he, c, rfl⟩
      obtain ⟨hkm, rfl⟩ := down_get hd
      obtain ⟨i, hi⟩ : ∃ i : Nat, (k : Int) - 1 - t = i := ⟨k - 1 - t, by omega⟩
      have hik : i < k := by omega
      rw [hi]
      have g1 : (List.replicate k m).getD i 0 = m := rep_get hik
      have g2 : (ones k).getD i 0 = 1 := rep_get hik
      have lk' : (List.replicate k m).length = k := List.length_replicate
      have lj' : (ones k).length = k := List.length_replicate
      refine idx_ok (xs := List.replicate k m) (k := i) (by omega) (by omega) (idx_ok (xs := ones k) (k := i) (by omega) (by omega) ?_)
      rw [g1, g2]
      walk_at "w"
      refine br_of (fun h2 => ?_) (fun h2 => ?_)
      · have h2 : m ≠ 1 := by intro q; rw [decide_eq_true q] at h2; cases h2
        refine idx_ok (xs := List.replicate k m) (k := i) (by omega) (by omega) (idx_ok (xs := ones k) (k := i) (by omega) (by omega) ?_)
        rw [g1, g2]
        have hv1 : v = 1 ∧ ¬ m < 1 := by unfold Ord at hv; omega
        refine br_ff (decide_eq_false hv1.2) ?_
        rw [hv1.1]; exact rfl
      · have h2 : m = 1 := by refine Classical.byContradiction fun q => ?_; rw [decide_eq_false q] at h2; cases h2
        exact ⟨.inl h2, _, rfl⟩
    · rintro σ ⟨he, c, rfl⟩
      rw [List.length_map, List.length_range] at he
      have hv0 : v = 0 := by unfold Ord at hv; omega
      rw [hv0]; exact rfl
theorem scAt_ones {b f : Int} (f0 : 0 ≤ f) (f1 : f < b) (n : Nat) : ∀ k, k ≤ n → scAt b f (ones n) k = (List.replicate k f, 0)
  | 0, _ => rfl
  | k + 1, h => by
    have g : (ones n).getD k 0 = 1 := rep_get (by omega)
    rw [scAt, scAt_ones f0 f1 n k (by omega), g, Int.one_mul, Int.zero_add, Int.fmod_eq_emod_of_nonneg _ (by omega), Int.fdiv_eq_ediv_of_nonneg _ (by omega), Int.emod_eq_of_lt f0 f1, Int.ediv_eq_zero_of_lt f0 f1, List.replicate_succ']
theorem psc_ones {b f : Int} (f0 : 0 < f) (f1 : f < b) (n : Nat) : psc b f (ones n) = List.replicate n f := by
  unfold psc
  rw [decide_eq_false (by omega), show (ones n).length = n from List.length_replicate, scAt_ones (by omega) f1 n n (Nat.le_refl _)]
  rfl
noncomputable def sp_how_often : Sp := fun ds o => ∃ b j k, ds = [.int b, L (ones j), L (ones k)] ∧ 2 ≤ b ∧ b ≤ 1000000 ∧ 1 ≤ j ∧ j ≤ k ∧ k ≤ 3 ∧ o = tells (.int (if j = k then 1 else 0))
theorem y_how_often (O : Has Φ 11 sp_order) (P : Has Φ 14 sp_plain_scaled) : Yes Φ b_how_often 3 6 sp_how_often := by
  rintro _ _ ⟨b, j, k, rfl, b0, b1, j1, jk, k3, rfl⟩
  refine ⟨rfl, ?_⟩
  refine Exists.intro (fun q σ => ∃ lo hi c, 0 ≤ lo ∧ lo ≤ (if j = k then 1 else 0) ∧ (if j = k then 1 else 0) ≤ hi ∧ hi < b ∧ (hi - lo).toNat = q ∧ σ = [.val (.int b), .val (L (ones j)), .val (L (ones k)), .val (.int lo), .val (.int hi), c]) ⟨⟨_, 0, b - 1, _, by omega, by split <;> omega, by split <;> omega, by omega, rfl, rfl⟩, ?_⟩
  rintro q σ ⟨lo, hi, c, l0, l1, h0, h1, rfl, rfl⟩
  walk_at "w"
  refine br_of (fun h2 => ?_) (fun h2 => ?_)
  · have h2 := of_decide_eq_true h2
    refine And.intro (by decide) ?_
    have e2 : (lo + hi + 1).fdiv 2 = (lo + hi + 1) / 2 := Int.fdiv_eq_ediv_of_nonneg _ (by decide)
    rw [e2]
    obtain ⟨m, hm⟩ : ∃ m, m = (lo + hi + 1) / 2 := ⟨_, rfl⟩
    rw [← hm]
    have hk : (ones k).length ≤ 100 := by show (List.replicate k _).length ≤ _; rw [List.length_replicate]; omega
    refine P.ok ⟨b, ones k, m, rfl, by omega, by omega, by omega, hk, rfl⟩ ?_
    rintro _ _ ⟨rfl, rfl⟩
    rw [psc_ones (by omega) (by omega)]
    by_cases hjk : j = k
    · rw [if_pos hjk] at l1 h0 ⊢
      subst hjk
      by_cases h3 : m = 1
      · refine O.ok ⟨j, j, m, 0, rfl, by omega, by omega, .inr (.inr (.inl ⟨rfl, h3, rfl⟩)), rfl⟩ ?_
        rintro _ _ rfl
        exact ⟨(hi - m).toNat, by omega, m, hi, _, by omega, by omega, by omega, by omega, rfl, rfl⟩
      · refine O.ok ⟨j, j, m, 1, rfl, by omega, by omega, .inr (.inr (.inr ⟨rfl, by omega, by omega, rfl⟩)), rfl⟩ ?_
        rintro _ _ rfl
        exact ⟨(m - 1 - lo).toNat, by omega, lo, m - 1, _, by omega, by omega, by omega, by omega, rfl, rfl⟩
    · rw [if_neg hjk] at l1 h0 ⊢
      refine O.ok ⟨k, j, m, 1, rfl, by omega, by omega, .inr (.inl ⟨by omega, rfl⟩), rfl⟩ ?_
      rintro _ _ rfl
      exact ⟨(m - 1 - lo).toNat, by omega, lo, m - 1, _, by omega, by omega, by omega, by omega, rfl, rfl⟩
  · have h2 := of_decide_eq_false h2
    have : lo = (if j = k then 1 else 0) := by omega
    rw [this]
    exact rfl
end Mine
set_option Elab.async false
namespace Mine
open PySem
local macro_rules | `(tactic| walk_at "w") => `(tactic| conv => whnf)
variable {Φ : Calls}

theorem ones_len (k : Nat) : (ones k).length = k := List.length_replicate
theorem sumAt_ones {b : Int} (b0 : 2 ≤ b) {xs ys : List Int} : ∀ n, (∀ t, t < n → xs.getD t 0 + ys.getD t 0 = 1) → sumAt b xs ys n = (ones n, 0)
  | 0, _ => rfl
  | n + 1, h => by
    have e := h n (Nat.lt_succ_self n)
    rw [sumAt, sumAt_ones b0 n fun t ht => h t (Nat.lt_succ_of_lt ht), Int.zero_add, e, Int.fmod_eq_emod_of_nonneg _ (by omega), Int.fdiv_eq_ediv_of_nonneg _ (by omega), Int.emod_eq_of_lt (by decide) (by omega), Int.ediv_eq_zero_of_lt (by decide) (by omega)]
    show (ones n ++ [1], (0 : Int)) = (List.replicate (n + 1) 1, 0)
    rw [List.replicate_succ']; rfl
theorem psum_ones {b : Int} (b0 : 2 ≤ b) {j : Nat} (h : j ≤ 2) : psum b (shl 1 (ones j)) [1] = ones (j + 1) := by
  have key : ∀ n xs, max (List.length xs) (List.length [(1 : Int)]) = n → (∀ t, t < n → xs.getD t 0 + [(1 : Int)].getD t 0 = 1) → psum b xs [1] = ones n := by
    intro n xs h1 h2
    unfold psum
    rw [h1, sumAt_ones b0 n h2]; rfl
  match j, h with
  | 0, _ => exact key _ _ rfl (by decide)
  | 1, _ => exact key _ _ rfl (by decide)
  | 2, _ => exact key _ _ rfl (by decide)
theorem dif_step {b : Int} (b0 : 2 ≤ b) {j k : Nat} (h : j < k) (hk : k ≤ 3) : pdif b (ones (j + 1)) (psc b (if j + 1 = k then 1 else 0) (ones k)) = ones ((j + 1) % k) := by
  by_cases e : j + 1 = k
  · rw [if_pos e, psc_ones (by decide) (by omega)]
    subst e
    rw [Nat.mod_self]
    match j, hk with
    | 0, _ => rfl
    | 1, _ => rfl
    | 2, _ => rfl
  · rw [if_neg e, Nat.mod_eq_of_lt (by omega)]
    match j, hk with
    | 0, _ => rfl
    | 1, _ => rfl
    | j + 2, _ => omega
theorem ones_rev (k : Nat) : (iz (ones k)).reverse = iz (ones k) := by
  show ((List.replicate k 1).map PyData.int).reverse = (List.replicate k 1).map PyData.int
  rw [List.map_replicate, List.reverse_replicate]
theorem ones_get {k t : Nat} {d : D} (h : (iz (ones k))[t]? = some d) : t < k ∧ d = .int 1 := by
  obtain ⟨h1, h2⟩ := ints_get_some h
  rw [ones_len] at h1
  exact ⟨h1, by rw [h2]; congr 1; exact rep_get h1⟩
theorem iz_rev (xs : List Int) : (iz xs).reverse = iz xs.reverse := List.map_reverse.symm
noncomputable def sp_plain_divided : Sp := fun ds o => ∃ b i k, ds = [.int b, L (ones i), L (ones k)] ∧ 2 ≤ b ∧ b ≤ 1000000 ∧ i ≤ 3 ∧ 1 ≤ k ∧ k ≤ 3 ∧ o = .ok fun d fr => ∃ F, d = .tuple [L F, L (ones (i % k))] ∧ fr = true
theorem y_plain_divided (S : Has Φ 12 sp_plain_sum) (D : Has Φ 13 sp_plain_difference) (P : Has Φ 14 sp_plain_scaled) (H : Has Φ 15 sp_plain_shifted) (W : Has Φ 28 sp_how_often) (T : Has Φ 10 sp_trimmed) : Yes Φ b_plain_divided 3 7 sp_plain_divided := by
  rintro _ _ ⟨b, i, k, rfl, b0, b1, i3, k1, k3, rfl⟩
  refine ⟨rfl, And.intro (by decide) (And.intro (by decide) ?_)⟩
  walk_at "w"
  rw [ones_rev]
  refine ⟨fun t σ => ∃ c c' F, List.length F = t ∧ σ = [.val (.int b), .val (L (ones i)), .val (L (ones k)), .own (L F), .own (L (ones (t % k))), c, c'], ⟨_, _, [], rfl, by rw [Nat.zero_mod]; rfl⟩, ?_, ?_⟩
  · rintro t σ d hd ⟨c, c', F, hF, rfl⟩
    obtain ⟨ht, rfl⟩ := ones_get hd
    have hj : t % k < k := Nat.mod_lt _ k1
    have hs : (t + 1) % k = (t % k + 1) % k := (Nat.mod_add_mod t k 1).symm
    generalize t % k = j at hj hs
    refine H.ok ⟨ones j, 1, rfl, by rw [ones_len]; omega, by decide, by decide, rfl⟩ ?_
    rintro _ _ ⟨rfl, rfl⟩
    refine And.intro (by decide) ?_
    have hl : (shl 1 (ones j)).length ≤ 100 := by
      match j, hj with
      | 0, _ => decide
      | 1, _ => decide
      | 2, _ => decide
      | j + 3, _ => omega
    refine S.ok ⟨b, _, [1], rfl, by omega, hl, by decide, rfl⟩ ?_
    rintro _ _ ⟨rfl, rfl⟩
    rw [psum_ones b0 (by omega)]
    refine W.ok ⟨b, j + 1, k, rfl, b0, b1, by omega, by omega, k3, rfl⟩ ?_
    rintro _ _ rfl
    refine And.intro rfl (And.intro rfl (And.intro (by rw [ints_length]; exact small (by omega)) ?_))
    refine P.ok ⟨b, ones k, (if j + 1 = k then 1 else 0), rfl, by omega, by split <;> decide, by split <;> decide, by rw [ones_len]; omega, rfl⟩ ?_
    rintro _ _ ⟨rfl, rfl⟩
    refine D.ok ⟨b, ones (j + 1), _, rfl, by rw [ones_len]; omega, Nat.le_trans (psc_len _ _ _) (by rw [ones_len]; omega), rfl⟩ ?_
    rintro _ _ ⟨rfl, rfl⟩
    rw [dif_step b0 hj k3]
    exact ⟨_, _, F ++ [(if j + 1 = k then 1 else 0)], by rw [List.length_append, hF]; rfl, by rw [hs, ints_snoc]; rfl⟩
  · rintro σ ⟨c, c', F, hF, rfl⟩
    rw [ints_length, ones_len] at hF
    rw [ints_length, ones_len]
    walk_at "w"
    rw [iz_rev]
    refine T.ok ⟨_, rfl, by rw [List.length_reverse]; omega, rfl⟩ ?_
    rintro _ _ ⟨rfl, rfl⟩
    exact ⟨(by decide : 2 ≤ sizeLid), _, rfl, rfl⟩
noncomputable def sp_plain_parted : Sp := fun ds o => ∃ b i f, ds = [.int b, L (ones i), .int f] ∧ 2 ≤ b ∧ b ≤ 1000000 ∧ i ≤ 3 ∧ f ≠ 0 ∧ o = code none
theorem y_plain_parted (T : Has Φ 10 sp_trimmed) : Yes Φ b_plain_parted 3 6 sp_plain_parted := by
  rintro _ _ ⟨b, i, f, rfl, b0, b1, i3, f0, rfl⟩
  refine ⟨rfl, And.intro (by decide) ?_⟩
  walk_at "w"
  rw [ones_rev]
  refine ⟨fun t σ => ∃ c F l, List.length F = t ∧ σ = [.val (.int b), .val (L (ones i)), .val (.int f), .own (L F), .val (.int l), c], ⟨_, [], _, rfl, rfl⟩, ?_, ?_⟩
  · rintro t σ d hd ⟨c, F, l, hF, rfl⟩
    obtain ⟨ht, rfl⟩ := ones_get hd
    refine And.intro (mul_small (by omega) b1) (And.intro f0 ⟨rfl, rfl, by rw [ints_length]; exact small (by omega), And.intro f0 ⟨_, F ++ [(l * b + 1).fdiv f], (l * b + 1).fmod f, by rw [List.length_append, hF]; rfl, by rw [ints_snoc]; rfl⟩⟩)
  · rintro σ ⟨c, F, l, hF, rfl⟩
    rw [ints_length, ones_len] at hF
    walk_at "w"
    rw [iz_rev]
    refine T.ok ⟨_, rfl, by rw [List.length_reverse]; omega, rfl⟩ ?_
    rintro _ _ ⟨rfl, rfl⟩
    exact ⟨(by decide : 2 ≤ sizeLid), trivial⟩
noncomputable def sp_plain_slow : Sp := fun ds o => ∃ b i j, ds = [.int b, L (ones i), L (ones j)] ∧ 2 ≤ b ∧ i ≤ 3 ∧ j ≤ 3 ∧ o = code none
theorem y_plain_slow (S : Has Φ 12 sp_plain_sum) (P : Has Φ 14 sp_plain_scaled) (H : Has Φ 15 sp_plain_shifted) : Yes Φ b_plain_slow 3 6 sp_plain_slow := by
  rintro _ _ ⟨b, i, j, rfl, b0, i3, j3, rfl⟩
  refine ⟨rfl, And.intro (by decide) ?_⟩
  refine Exists.intro (fun t σ => ∃ c d m, List.length m ≤ 10 + t ∧ σ = [.val (.int b), .val (L (ones i)), .val (L (ones j)), .own (L m), c, d]) ⟨⟨_, _, [], Nat.zero_le _, rfl⟩, ?_, ?_⟩
  · rintro t σ d hd ⟨c, c', m, hm, rfl⟩
    obtain ⟨ht, rfl⟩ := ones_get hd
    refine P.ok ⟨b, ones i, 1, rfl, by omega, by decide, by decide, by rw [ones_len]; omega, rfl⟩ ?_
    rintro _ _ ⟨rfl, rfl⟩
    have l1 : (psc b 1 (ones i)).length ≤ 4 := Nat.le_trans (psc_len _ _ _) (by rw [ones_len]; omega)
    refine H.ok ⟨_, t, rfl, by omega, by omega, by omega, rfl⟩ ?_
    rintro _ _ ⟨rfl, rfl⟩
    have l2 : (shl t (psc b 1 (ones i))).length ≤ 8 := by
      unfold shl
      cases decide ((psc b 1 (ones i)).length = 0)
      · show (List.replicate _ _ ++ _).length ≤ _; rw [List.length_append, List.length_replicate]; omega
      · exact Nat.zero_le _
    refine S.ok ⟨b, m, _, rfl, by omega, by omega, by omega, rfl⟩ ?_
    rintro _ _ ⟨rfl, rfl⟩
    refine ⟨_, _, _, ?_, rfl⟩
    have := topped_len (sumAt b m (shl t (psc b 1 (ones i))) (max m.length (shl t (psc b 1 (ones i))).length))
    rw [sumAt_len] at this
    exact Nat.le_trans this (by omega)
  · rintro σ ⟨c, c', m, hm, rfl⟩
    exact trivial
noncomputable def sp_plain_product : Sp := fun ds o => ∃ b i j l, ds = [.int b, L (ones i), L (ones j), .int l] ∧ 2 ≤ b ∧ i ≤ 3 ∧ j ≤ 3 ∧ 3 ≤ l ∧ o = code none
theorem y_plain_product (S : Has Φ 20 sp_plain_slow) : Yes Φ b_plain_product 4 14 sp_plain_product := by
  rintro _ _ ⟨b, i, j, l, rfl, b0, i3, j3, l3, rfl⟩
  refine ⟨rfl, ?_⟩
  walk_at "w"
  rw [ints_length, ones_len]
  refine br_tt (decide_eq_true (by omega)) ?_
  rw [decide_eq_true (show (i : Int) ≤ l by omega)]
  exact .inr (S.ok ⟨b, i, j, rfl, b0, i3, j3, rfl⟩ fun _ _ _ => trivial)
theorem y_plain_effort : Yes Φ b_plain_effort 4 10 sp_plain_product := by
  rintro _ _ ⟨b, i, j, l, rfl, b0, i3, j3, l3, rfl⟩
  refine ⟨rfl, ?_⟩
  walk_at "w"
  rw [ints_length, ones_len]
  refine br_tt (decide_eq_true (by omega)) ?_
  rw [decide_eq_true (show (i : Int) ≤ l by omega)]
  refine And.intro (.inl ?_) trivial
  rw [ints_length, ones_len]
  exact Nat.lt_of_le_of_lt (m := 3) (by omega) (by decide)
end Mine
set_option Elab.async false
namespace Mine
open PySem
local macro_rules | `(tactic| walk_at "w") => `(tactic| conv => whnf)
variable {Φ : Calls}

theorem one_row {b x : D} {c' : Cd} {r : Ss} {σ : Vars} (H : Has Φ 5 sp_need_row) (hx : RR b x)
    (hr : ∀ n i, b = .int n → 2 ≤ n → n ≤ 1000000 → i ≤ 3 → x = L (ones i) → xSs Φ (code c').Z r (retPost (code c').K) (.val b :: .val x :: σ)) :
    xSs Φ (code (alt (nr b x) c')).Z (.cons (.expr (.call 5 (.cons (.var 0) (.cons (.var 1) .nil)))) r) (retPost (code (alt (nr b x) c')).K) (.val b :: .val x :: σ) :=
  need_step H ⟨b, x, rfl, rfl⟩ (fun _ h => h) fun e => by
    obtain ⟨n, h1, h2, h3⟩ := nr_none e
    obtain ⟨i, h4, h5⟩ := hx e
    exact hr n i h1 h2 h3 h4 h5
theorem two_rows {b x y : D} {c' : Cd} {r : Ss} {σ : Vars} (H : Has Φ 5 sp_need_row) (hx : RR b x) (hy : RR b y)
    (hr : ∀ n i j, b = .int n → 2 ≤ n → n ≤ 1000000 → i ≤ 3 → x = L (ones i) → j ≤ 3 → y = L (ones j) → xSs Φ (code c').Z r (retPost (code c').K) (.val b :: .val x :: .val y :: σ)) :
    xSs Φ (code (alt (nr b x) (alt (nr b y) c'))).Z (.cons (.expr (.call 5 (.cons (.var 0) (.cons (.var 1) .nil)))) (.cons (.expr (.call 5 (.cons (.var 0) (.cons (.var 2) .nil)))) r)) (retPost (code (alt (nr b x) (alt (nr b y) c'))).K) (.val b :: .val x :: .val y :: σ) :=
  one_row H hx fun n i h1 h2 h3 h4 h5 => need_step H ⟨b, y, rfl, rfl⟩ (fun _ h => h) fun e => by
    obtain ⟨j, h6, h7⟩ := hy e
    exact hr n i j h1 h2 h3 h4 h5 h6 h7
noncomputable def lenD : D → Nat
  | .list xs => xs.length
  | _ => 0
theorem lenD_ones (i : Nat) : lenD (L (ones i)) = i := (ints_length _).trans (ones_len i)
noncomputable def sp_two (c : D → D → Cd) : Sp := fun ds o => ∃ b x y, ds = [b, x, y] ∧ RR b x ∧ RR b y ∧ o = code (alt (nr b x) (alt (nr b y) (c x y)))
noncomputable def fine (_ _ : D) : Cd := none
noncomputable def below (x y : D) : Cd := bif decide (lenD x < lenD y) then some 2000 else none
noncomputable def byR (_ y : D) : Cd := bif decide (lenD y = 0) then some 2001 else none
theorem y_added (N : Has Φ 5 sp_need_row) (S : Has Φ 12 sp_plain_sum) : Yes Φ b_added 3 3 (sp_two fine) := by
  rintro _ _ ⟨b, x, y, rfl, hx, hy, rfl⟩
  refine ⟨rfl, two_rows N hx hy ?_⟩
  rintro n i j rfl n0 n1 hi rfl hj rfl
  exact .inr (S.ok ⟨n, _, _, rfl, by omega, by rw [ones_len]; omega, by rw [ones_len]; omega, rfl⟩ fun _ _ _ => trivial)
theorem y_slow (N : Has Φ 5 sp_need_row) (S : Has Φ 20 sp_plain_slow) : Yes Φ b_slow 3 3 (sp_two fine) := by
  rintro _ _ ⟨b, x, y, rfl, hx, hy, rfl⟩
  refine ⟨rfl, two_rows N hx hy ?_⟩
  rintro n i j rfl n0 n1 hi rfl hj rfl
  exact .inr (S.ok ⟨n, _, _, rfl, n0, hi, hj, rfl⟩ fun _ _ _ => trivial)
theorem y_taken (N : Has Φ 5 sp_need_row) (O : Has Φ 11 sp_order) (S : Has Φ 13 sp_plain_difference) : Yes Φ b_taken 3 3 (sp_two below) := by
  rintro _ _ ⟨b, x, y, rfl, hx, hy, rfl⟩
  refine ⟨rfl, two_rows N hx hy ?_⟩
  rintro n i j rfl n0 n1 hi rfl hj rfl
  unfold below
  rw [lenD_ones, lenD_ones]
  have good : ∀ v : Int, ¬ v < 0 → Ord i j 1 v → ¬ i < j → xSs Φ (code (bif decide (i < j) then some 2000 else none)).Z (match b_taken with | .cons _ (.cons _ r) => r | _ => .nil) (retPost (code (bif decide (i < j) then some 2000 else none)).K) [.val (.int n), .val (L (ones i)), .val (L (ones j))] := by
    intro v hv hO hij
    rw [decide_eq_false hij]
    refine O.ok ⟨i, j, 1, v, rfl, by omega, by omega, hO, rfl⟩ ?_
    rintro _ _ rfl
    refine br_ff (decide_eq_false hv) ?_
    exact .inr (S.ok ⟨n, _, _, rfl, by rw [ones_len]; omega, by rw [ones_len]; omega, rfl⟩ fun _ _ _ => trivial)
  rcases Nat.lt_trichotomy i j with h | h | h
  · rw [decide_eq_true h]
    refine O.ok ⟨i, j, 1, -1, rfl, by omega, by omega, .inl ⟨h, rfl⟩, rfl⟩ ?_
    rintro _ _ rfl
    exact rfl
  · exact good 0 (by decide) (.inr (.inr (.inl ⟨h, rfl, rfl⟩))) (by omega)
  · exact good 1 (by decide) (.inr (.inl ⟨h, rfl⟩)) (by omega)
noncomputable def sp_scaled : Sp := fun ds o => ∃ b x f, ds = [b, x, f] ∧ RR b x ∧ o = code (alt (nr b x) (alt (nf b f) none))
theorem y_scaled (N : Has Φ 5 sp_need_row) (F : Has Φ 6 sp_need_figure) (P : Has Φ 14 sp_plain_scaled) : Yes Φ b_scaled 3 3 sp_scaled := by
  rintro _ _ ⟨b, x, f, rfl, hx, rfl⟩
  refine ⟨rfl, one_row N hx ?_⟩
  rintro n i rfl n0 n1 hi rfl
  refine need_step F ⟨_, f, rfl, rfl⟩ (fun _ h => h) fun e => ?_
  obtain ⟨v, rfl, v0, v1⟩ := nf_none e
  exact .inr (P.ok ⟨n, _, v, rfl, by omega, v0, Int.le_trans (Int.le_of_lt v1) n1, by rw [ones_len]; omega, rfl⟩ fun _ _ _ => trivial)
noncomputable def sp_shifted : Sp := fun ds o => ∃ b x p, ds = [b, x, p] ∧ RR b x ∧ toI p ≤ 100 ∧ o = code (alt (nr b x) (alt (nc p 0) none))
theorem y_shifted (N : Has Φ 5 sp_need_row) (C : Has Φ 7 sp_need_count) (P : Has Φ 15 sp_plain_shifted) : Yes Φ b_shifted 3 3 sp_shifted := by
  rintro _ _ ⟨b, x, p, rfl, hx, hp, rfl⟩
  refine ⟨rfl, one_row N hx ?_⟩
  rintro n i rfl n0 n1 hi rfl
  refine need_step C ⟨p, 0, rfl, rfl⟩ (fun _ h => h) fun e => ?_
  obtain ⟨v, rfl, v0⟩ := nc_none e
  exact .inr (P.ok ⟨_, v, rfl, by rw [ones_len]; omega, v0, hp, rfl⟩ fun _ _ _ => trivial)
noncomputable def byF (f : D) : Cd := bif isZ (some f) then some 2001 else none
noncomputable def sp_parted : Sp := fun ds o => ∃ b x f, ds = [b, x, f] ∧ RR b x ∧ o = code (alt (nr b x) (alt (nf b f) (byF f)))
theorem y_parted (N : Has Φ 5 sp_need_row) (F : Has Φ 6 sp_need_figure) (P : Has Φ 27 sp_plain_parted) : Yes Φ b_parted 3 3 sp_parted := by
  rintro _ _ ⟨b, x, f, rfl, hx, rfl⟩
  refine ⟨rfl, one_row N hx ?_⟩
  rintro n i rfl n0 n1 hi rfl
  refine need_step F ⟨_, f, rfl, rfl⟩ (fun _ h => h) fun e => ?_
  obtain ⟨v, rfl, v0, v1⟩ := nf_none e
  unfold byF
  show br (decide (v = 0)) _ _
  show br (decide (v = 0)) (xSs Φ (code (bif decide (v = 0) then _ else _)).Z _ _ _) (xSs Φ (code (bif decide (v = 0) then _ else _)).Z _ (fun fl σ => match fl with | .next => xSs Φ (code (bif decide (v = 0) then _ else _)).Z _ (retPost (code (bif decide (v = 0) then _ else _)).K) σ | .ret d fr => retPost (code (bif decide (v = 0) then _ else _)).K (.ret d fr) σ) _)
  cases h : decide (v = 0)
  · exact .inr (P.ok ⟨n, i, v, rfl, n0, n1, hi, of_decide_eq_false h, rfl⟩ fun _ _ _ => trivial)
  · exact rfl
theorem y_divided (N : Has Φ 5 sp_need_row) (P : Has Φ 29 sp_plain_divided) : Yes Φ b_divided 3 3 (sp_two byR) := by
  rintro _ _ ⟨b, x, y, rfl, hx, hy, rfl⟩
  refine ⟨rfl, two_rows N hx hy ?_⟩
  rintro n i j rfl n0 n1 hi rfl hj rfl
  unfold byR
  rw [lenD_ones]
  walk_at "w"
  rw [ints_length, ones_len, show decide ((j : Int) = 0) = decide (j = 0) from decide_eq_decide.mpr (by omega)]
  cases h : decide (j = 0)
  · have h := of_decide_eq_false h
    exact .inr (P.ok ⟨n, i, j, rfl, n0, n1, hi, by omega, hj, rfl⟩ fun _ _ _ => trivial)
  · exact rfl
theorem y_ladder (N : Has Φ 5 sp_need_row) (P : Has Φ 29 sp_plain_divided) : Yes Φ b_ladder 3 7 (sp_two fine) := by
  rintro _ _ ⟨b, x, y, rfl, hx, hy, rfl⟩
  refine ⟨rfl, two_rows N hx hy ?_⟩
  rintro n i j rfl n0 n1 hi rfl hj rfl
  refine And.intro (by decide) ?_
  walk_at "w"
  rw [cpF_ints]
  walk_at "w"
  rw [cpF_ints]
  refine Exists.intro (fun k σ => k ≤ 3 ∧ ∃ i' xs c, i' ≤ 3 ∧ List.length xs + k ≤ 3 ∧ σ = [.val (.int n), .val (L (ones i)), .val (L (ones j)), .own (.list xs), .own (L (ones i')), .own (L (ones k)), c]) ⟨⟨j, hj, i, [], _, hi, by show 0 + j ≤ 3; omega, rfl⟩, ?_⟩
  rintro k σ ⟨hk, i', xs, c, hi', hl, rfl⟩
  walk_at "w"
  rw [ints_length, ones_len]
  refine br_of (fun h1 => ?_) (fun h1 => ?_)
  · have h1 := of_decide_eq_true h1
    refine P.ok ⟨n, i', k, rfl, n0, n1, hi', by omega, hk, rfl⟩ ?_
    rintro _ _ ⟨F, rfl, rfl⟩
    refine ⟨xs, L F, L (ones (i' % k)), L (ones k), rfl, rfl, rfl, small (by omega), ?_⟩
    have hm : i' % k < k := Nat.mod_lt _ (by omega)
    exact ⟨i' % k, hm, by omega, k, xs ++ [L F], _, hk, by rw [List.length_append]; show xs.length + 1 + _ ≤ 3; omega, rfl⟩
  · exact ⟨(by decide : 2 ≤ sizeLid), trivial⟩
noncomputable def sp_product : Sp := fun ds o => ∃ b x y l, ds = [b, x, y, l] ∧ RR b x ∧ RR b y ∧ o = code (alt (nr b x) (alt (nr b y) (alt (nc l 3) none)))
theorem y_product (N : Has Φ 5 sp_need_row) (C : Has Φ 7 sp_need_count) (G : Cs Φ) (P : Has Φ 22 sp_plain_product) : Yes Φ b_product 4 4 sp_product := by
  rintro _ _ ⟨b, x, y, l, rfl, hx, hy, rfl⟩
  refine ⟨rfl, two_rows N hx hy ?_⟩
  rintro n i j rfl n0 n1 hi rfl hj rfl
  refine need_step C ⟨l, 3, rfl, rfl⟩ (fun _ h => G.c2 ⟨rfl, h⟩) fun e => ?_
  obtain ⟨v, rfl, v0⟩ := nc_none e
  exact .inr (P.ok ⟨n, i, j, v, rfl, n0, hi, hj, v0, rfl⟩ fun _ _ _ => trivial)
theorem y_effort (N : Has Φ 5 sp_need_row) (C : Has Φ 7 sp_need_count) (G : Cs Φ) (P : Has Φ 23 sp_plain_product) : Yes Φ b_effort 4 4 sp_product := by
  rintro _ _ ⟨b, x, y, l, rfl, hx, hy, rfl⟩
  refine ⟨rfl, two_rows N hx hy ?_⟩
  rintro n i j rfl n0 n1 hi rfl hj rfl
  refine need_step C ⟨l, 3, rfl, rfl⟩ (fun _ h => G.c2 ⟨rfl, h⟩) fun e => ?_
  obtain ⟨v, rfl, v0⟩ := nc_none e
  exact .inr (P.ok ⟨n, i, j, v, rfl, n0, hi, hj, v0, rfl⟩ fun _ _ _ => trivial)
noncomputable def sp_one : Sp := fun ds o => ∃ b x, ds = [b, x] ∧ RR b x ∧ o = code (alt (nr b x) none)
theorem y_number_of (N : Has Φ 5 sp_need_row) : Yes Φ b_number_of 2 4 sp_one := by
  rintro _ _ ⟨b, x, rfl, hx, rfl⟩
  refine ⟨rfl, one_row N hx ?_⟩
  rintro n i rfl n0 n1 hi rfl
  walk_at "w"
  rw [ones_rev]
  refine ⟨fun k σ => ∃ c o, σ = [.val (.int n), .val (L (ones i)), .val (.int o), c], ⟨_, _, rfl⟩, ?_, ?_⟩
  · rintro k σ d hd ⟨c, o, rfl⟩
    obtain ⟨_, rfl⟩ := ones_get hd
    exact And.intro (mul_small (by omega) n1) ⟨_, _, rfl⟩
  · rintro σ ⟨c, o, rfl⟩
    exact trivial
theorem y_written (N : Has Φ 5 sp_need_row) : Yes Φ b_written 2 2 sp_one := by
  rintro _ _ ⟨b, x, rfl, hx, rfl⟩
  refine ⟨rfl, one_row N hx ?_⟩
  rintro n i rfl n0 n1 hi rfl
  walk_at "w"
  refine br_of (fun h1 => ?_) (fun h1 => ?_)
  · exact trivial
  · refine Exists.intro (ones i) ⟨rfl, by rw [ones_len]; omega, fun m hm => ?_, fun _ => trivial⟩
    rw [List.eq_of_mem_replicate hm]
    decide
theorem fig_step {r c : Int} (c0 : 2 ≤ c) (h : 0 < r) : 0 ≤ r.fdiv c ∧ r.fdiv c < r := by
  rw [Int.fdiv_eq_ediv_of_nonneg _ (by omega)]
  exact ⟨Int.ediv_nonneg (by omega) (by omega), Int.ediv_lt_self_of_pos_of_ne_one h (by omega)⟩
noncomputable def ro : D → Cd
  | .int n => bif decide (n < 0) then some 2000 else none
  | _ => some 2005
noncomputable def sp_row_of : Sp := fun ds o => ∃ b x, ds = [b, x] ∧ toI x ≤ 10 ∧ o = code (alt (nb b) (ro x))
theorem y_row_of (H : Has Φ 0 sp_whole) (N : Has Φ 2 sp_need_base) : Yes Φ b_row_of 2 3 sp_row_of := by
  rintro _ _ ⟨b, x, rfl, hx, rfl⟩
  refine ⟨rfl, need_step N ⟨b, rfl, rfl⟩ (fun _ h => h) fun e => ?_⟩
  obtain ⟨n, rfl, n0, n1⟩ := nb_none e
  refine .inr (H.ok ⟨x, rfl, rfl⟩ ?_)
  rintro _ _ rfl
  cases x with
  | int m =>
    show br (decide (m < 0)) (xSs Φ (code (bif decide (m < 0) then _ else _)).Z _ _ _) (xSs Φ (code (bif decide (m < 0) then _ else _)).Z _ (fun fl σ => match fl with | .next => xSs Φ (code (bif decide (m < 0) then _ else _)).Z _ (retPost (code (bif decide (m < 0) then _ else _)).K) σ | .ret d fr => retPost (code (bif decide (m < 0) then _ else _)).K (.ret d fr) σ) _)
    cases h : decide (m < 0)
    · have h := of_decide_eq_false h
      replace hx : m ≤ 10 := hx
      refine And.intro (by decide) ?_
      refine Exists.intro (fun k σ => ∃ F r, 0 ≤ r ∧ r.toNat = k ∧ List.length F + k ≤ 10 ∧ σ = [.val (.int n), .val (.int r), .own (L F)]) ⟨⟨_, [], m, by omega, rfl, by show 0 + _ ≤ _; omega, rfl⟩, ?_⟩
      rintro k σ ⟨F, r, r0, rfl, hF, rfl⟩
      walk_at "w"
      refine br_of (fun h1 => ?_) (fun h1 => ?_)
      · have h1 := of_decide_eq_true h1
        obtain ⟨s0, s1⟩ := fig_step n0 h1
        refine And.intro (by omega) ⟨rfl, rfl, by rw [ints_length]; exact small (by omega), And.intro (by omega) ⟨_, ?_, F ++ [r.fmod n], _, s0, rfl, ?_, by rw [ints_snoc]; rfl⟩⟩
        · omega
        · rw [List.length_append]; show F.length + 1 + _ ≤ _; omega
      · exact trivial
    · exact rfl
  | _ => exact rfl
noncomputable def sp_turned : Sp := fun ds o => ∃ b x c, ds = [b, x, c] ∧ RR b x ∧ o = code (alt (nr b x) (alt (nb c) none))
theorem y_turned (N : Has Φ 5 sp_need_row) (B : Has Φ 2 sp_need_base) : Yes Φ b_turned 3 6 sp_turned := by
  rintro _ _ ⟨b, x, c, rfl, hx, rfl⟩
  refine ⟨rfl, one_row N hx ?_⟩
  rintro n i rfl n0 n1 hi rfl
  refine need_step B ⟨c, rfl, rfl⟩ (fun _ h => h) fun e => ?_
  obtain ⟨m, rfl, m0, m1⟩ := nb_none e
  walk_at "w"
  rw [ones_rev]
  refine ⟨fun k σ => ∃ u o, 0 ≤ o ∧ o + 1 ≤ (1000000 : Int) ^ k ∧ σ = [.val (.int n), .val (L (ones i)), .val (.int m), .val (.int o), u, .unset], ⟨_, 0, by decide, by decide, rfl⟩, ?_, ?_⟩
  · rintro k σ d hd ⟨u, o, o0, o1, rfl⟩
    obtain ⟨_, rfl⟩ := ones_get hd
    refine And.intro (mul_small (by omega) n1) ⟨_, o * n + 1, ?_, ?_, rfl⟩
    · have := Int.mul_nonneg o0 (show 0 ≤ n by omega); omega
    · have h1 : (o + 1) * n ≤ (1000000 : Int) ^ k * n := Int.mul_le_mul_of_nonneg_right o1 (by omega)
      have h2 : (1000000 : Int) ^ k * n ≤ (1000000 : Int) ^ k * 1000000 := Int.mul_le_mul_of_nonneg_left n1 (by omega)
      rw [Int.pow_succ]
      rw [Int.add_mul, Int.one_mul] at h1
      omega
  · rintro σ ⟨u, o, o0, o1, rfl⟩
    rw [ints_length, ones_len] at o1
    have o2 : o < 2 ^ 60 := by
      have : (1000000 : Int) ^ i ≤ 2 ^ 60 := by
        match i, hi with
        | 0, _ => decide
        | 1, _ => decide
        | 2, _ => decide
        | 3, _ => decide
      omega
    refine And.intro (by decide) ?_
    refine Exists.intro (fun k σ => ∃ F r, 0 ≤ r ∧ r < 2 ^ k ∧ List.length F + k ≤ 60 ∧ σ = [.val (.int n), .val (L (ones i)), .val (.int m), .val (.int r), u, .own (L F)]) ⟨⟨60, [], o, o0, o2, by decide, rfl⟩, ?_⟩
    rintro k σ ⟨F, r, r0, r1, hF, rfl⟩
    walk_at "w"
    refine br_of (fun h1 => ?_) (fun h1 => ?_)
    · have h1 := of_decide_eq_true h1
      match k with
      | 0 => exact absurd r1 (by rw [Int.pow_zero]; omega)
      | k + 1 =>
        have s0 : 0 ≤ r.fdiv m := (fig_step m0 h1).1
        have s1 : r.fdiv m < 2 ^ k := by
          rw [Int.fdiv_eq_ediv_of_nonneg _ (by omega)]
          refine Int.ediv_lt_of_lt_mul (by omega) ?_
          rw [Int.pow_succ] at r1
          have := Int.mul_le_mul_of_nonneg_left m0 (show (0 : Int) ≤ 2 ^ k from Int.le_of_lt (Int.pow_pos (by decide)))
          omega
        refine And.intro (by omega) ⟨rfl, rfl, by rw [ints_length]; exact small (by omega), And.intro (by omega) ⟨k, Nat.lt_succ_self k, F ++ [r.fmod m], _, s0, s1, ?_, by rw [ints_snoc]; rfl⟩⟩
        rw [List.length_append]; show F.length + 1 + _ ≤ _; omega
    · exact trivial
noncomputable def sp_figure_of : Sp := fun ds o => ∃ b w, ds = [.int b, .str (st w)] ∧ 2 ≤ b ∧ ((w = [] ∧ o = .ex 2003) ∨ ∃ c : Nat, (c = 48 ∨ c = 49) ∧ w = [c] ∧ o = tells (.int ((c - 48 : Nat) : Int)))
theorem y_figure_of (C : Cs Φ) : Yes Φ b_figure_of 2 4 sp_figure_of := by
  rintro _ _ ⟨b, w, rfl, b0, ⟨rfl, rfl⟩ | ⟨c, hc, rfl, rfl⟩⟩
  · exact ⟨rfl, rfl⟩
  · refine ⟨rfl, C.c3 ⟨rfl, ?_⟩⟩
    have h1 : isDig c = true ∧ (!([48, 49, 50, 51, 52, 53, 54, 55, 56, 57] : List Nat).contains c) = false ∧ c - 48 ≤ 1 := by
      rcases hc with rfl | rfl <;> decide
    refine Exists.intro (fun k σ => ∃ u, σ = [.val (.int b), .val (.str (st [c])), u, .unset]) ⟨⟨_, rfl⟩, ?_, ?_⟩
    · rintro k σ d hd ⟨u, rfl⟩
      match k, hd with
      | 0, rfl => exact Exists.intro c ⟨rfl, br_ff h1.2.1 ⟨_, rfl⟩⟩
    · rintro σ ⟨u, rfl⟩
      refine And.intro (fun q => nomatch q) ⟨(by decide : 1 ≤ 640), fun x hx => by rw [List.mem_singleton.mp hx]; exact h1.1, ?_⟩
      have e : dval (st [c]).cps.toList = c - 48 := by show 0 * 10 + (c - 48) = _; omega
      rw [e]
      exact br_ff (decide_eq_false (by omega)) rfl
noncomputable def RdC (x : D) (c : Cd) : Prop := (c = none ∧ (x = .str (st [49]) ∨ x = .str (st [48]) ∨ x = .str (st [49, 46, 48]))) ∨ (c = some 2003 ∧ (x = .str (st []) ∨ x = .str (st [49, 46]) ∨ isTy .str x = false))
noncomputable def sp_read : Sp := fun ds o => ∃ b x c, ds = [b, x] ∧ RdC x c ∧ o = code (alt (nb b) c)
theorem ne_st {l l' : List Nat} (h : l ≠ l') : PyData.str (st l) ≠ .str (st l') := fun q => by
  injection q with q
  injection q with q
  exact h (congrArg Array.toList q)
theorem shp {l : List Nat} (h : l.all (fun c => decide (c < 0x110000)) = true) : SeqAt.shaped (.str (st l)) = true := by
  show (PyData.strOk (st l) && true) = true
  rw [Bool.and_true]
  unfold PyData.strOk
  show (l.toArray.all fun c => decide (c < 0x110000)) = true
  rw [List.all_toArray]; exact h
theorem eqv_ne {l l' : List Nat} (h : l ≠ l') : PyData.eqv (.str (st l)) (.str (st l')) = false := by
  show (st l == st l') = false
  rw [beq_eq_false_iff_ne]
  exact fun q => ne_st h (congrArg PyData.str q)
noncomputable def Words (l : List Nat) (ws : List (List Nat)) : Prop := Txt.split (st l) ⟨#[46]⟩ = ws.map st
theorem words1 : Words [49] [[49]] := by unfold Words; decide +kernel
theorem words2 : Words [49, 46, 48] [[49], [48]] := by unfold Words; decide +kernel
theorem words3 : Words [] [[]] := by unfold Words; decide +kernel
theorem words4 : Words [49, 46] [[49], []] := by unfold Words; decide +kernel
theorem y_read (N : Has Φ 2 sp_need_base) (F : Has Φ 35 sp_figure_of) : Yes Φ b_read 2 3 sp_read := by
  rintro _ _ ⟨b, x, c, rfl, hc, rfl⟩
  refine ⟨rfl, need_step N ⟨b, rfl, rfl⟩ (fun _ h => h) fun e => ?_⟩
  obtain ⟨n, rfl, n0, n1⟩ := nb_none e
  have w1 : ∀ K : D → Bool → Prop, K (.int 1) true ∧ K (.int 1) false → Φ 35 [.int n, .str (st [49])] K := fun K h => F.ok ⟨n, [49], rfl, n0, .inr ⟨49, .inr rfl, rfl, rfl⟩⟩ fun _ fr q => by rw [q]; cases fr; exact h.2; exact h.1
  have w0 : ∀ K : D → Bool → Prop, K (.int 0) true ∧ K (.int 0) false → Φ 35 [.int n, .str (st [48])] K := fun K h => F.ok ⟨n, [48], rfl, n0, .inr ⟨48, .inl rfl, rfl, rfl⟩⟩ fun _ fr q => by rw [q]; cases fr; exact h.2; exact h.1
  have wx : ∀ K : D → Bool → Prop, K (.int (2003 : Nat)) true → Φ (500 + 35) [.int n, .str (st [])] K := fun K h => F.ex ⟨n, [], rfl, n0, .inl ⟨rfl, rfl⟩⟩ h
  rcases hc with ⟨rfl, rfl | rfl | rfl⟩ | ⟨rfl, rfl | rfl | h⟩
  · refine .inr (And.intro (shp rfl) ⟨shp (l := [48]) rfl, ?_⟩)
    rw [show PyData.eqv (.str (st [49])) (.str ⟨#[48]⟩) = false from eqv_ne (by decide)]
    walk_at "w"
    rw [show Txt.split (st [49]) ⟨#[46]⟩ = [st [49]] from words1]
    refine ⟨by decide, by decide, by decide, ?_⟩
    refine Exists.intro (fun _ z => z = 1) ⟨.int n, rfl, rfl, rfl, by decide, fun w hw => ?_, fun zs hl hz => ?_⟩
    · rw [List.mem_singleton.mp hw]; exact .inl ⟨1, rfl, w1 _ ⟨rfl, rfl⟩⟩
    · match zs, hl, hz with
      | [z], _, hz =>
        rw [hz 0 _ z rfl rfl]
        exact And.intro (by decide) ⟨by decide, by decide, _, rfl, trivial⟩
  · exact .inr (And.intro (shp rfl) ⟨shp (l := [48]) rfl, And.intro (by decide) trivial⟩)
  · refine .inr (And.intro (shp rfl) ⟨shp (l := [48]) rfl, ?_⟩)
    rw [show PyData.eqv (.str (st [49, 46, 48])) (.str ⟨#[48]⟩) = false from eqv_ne (by decide)]
    walk_at "w"
    rw [show Txt.split (st [49, 46, 48]) ⟨#[46]⟩ = [st [49], st [48]] from words2]
    refine ⟨by decide, by decide, by decide, ?_⟩
    refine Exists.intro (fun w z => w = .str (st [49]) → z = 1) ⟨.int n, rfl, rfl, rfl, by decide, fun w hw => ?_, fun zs hl hz => ?_⟩
    · rcases List.mem_cons.mp hw with rfl | hw
      · exact .inl ⟨1, fun _ => rfl, w1 _ ⟨rfl, rfl⟩⟩
      · rw [List.mem_singleton.mp hw]
        exact .inl ⟨0, fun q => absurd q (ne_st (l := [48]) (by decide)), w0 _ ⟨rfl, rfl⟩⟩
    · match zs, hl, hz with
      | [z, z'], _, hz =>
        rw [hz 0 _ z rfl rfl rfl]
        exact And.intro (by decide) ⟨by decide, Int.le_refl 0, _, rfl, trivial⟩
  · refine .inr (And.intro (shp rfl) ⟨shp (l := [48]) rfl, ?_⟩)
    rw [show PyData.eqv (.str (st [])) (.str ⟨#[48]⟩) = false from eqv_ne (by decide)]
    walk_at "w"
    rw [show Txt.split (st []) ⟨#[46]⟩ = [st []] from words3]
    refine ⟨by decide, by decide, by decide, ?_⟩
    refine Exists.intro (fun _ _ => False) ⟨.int n, rfl, rfl, rfl, by decide, fun w hw => ?_, fun zs hl hz => ?_⟩
    · rw [List.mem_singleton.mp hw]; exact .inr (wx _ ⟨2003, rfl, rfl⟩)
    · match zs, hl, hz with
      | [z], _, hz => exact (hz 0 _ z rfl rfl).elim
  · refine .inr (And.intro (shp rfl) ⟨shp (l := [48]) rfl, ?_⟩)
    rw [show PyData.eqv (.str (st [49, 46])) (.str ⟨#[48]⟩) = false from eqv_ne (by decide)]
    walk_at "w"
    rw [show Txt.split (st [49, 46]) ⟨#[46]⟩ = [st [49], st []] from words4]
    refine ⟨by decide, by decide, by decide, ?_⟩
    refine Exists.intro (fun w _ => w = .str (st [49])) ⟨.int n, rfl, rfl, rfl, by decide, fun w hw => ?_, fun zs hl hz => ?_⟩
    · rcases List.mem_cons.mp hw with rfl | hw
      · exact .inl ⟨1, rfl, w1 _ ⟨rfl, rfl⟩⟩
      · rw [List.mem_singleton.mp hw]
        exact .inr (wx _ ⟨2003, rfl, rfl⟩)
    · match zs, hl, hz with
      | [z, z'], _, hz => exact absurd (hz 1 _ z' rfl rfl) (ne_st (l := []) (by decide))
  · refine .inr ?_
    cases x <;> first | exact rfl | cases h
end Mine
set_option Elab.async false
namespace Mine
open PySem
local macro_rules | `(tactic| walk_at "w") => `(tactic| conv => whnf)
variable {Φ : Calls}

noncomputable def word : Cd → List Nat
  | none => []
  | some c => wordOf c
noncomputable def isin (js : List Int) (t : D) : Bool := js.any fun j => PyData.eqv (.int j) t
noncomputable def sp_draw : Sp := fun ds o => ∃ ns k, ds = [L ns, .int (k : Nat)] ∧ k ≤ 1000 ∧ ns.length ≤ 63 ∧ o = tells (.int (ns.getD k 0))
theorem y_draw : Yes Φ b_law_draw 2 2 sp_draw := by
  rintro _ _ ⟨ns, k, rfl, hk, hn, rfl⟩
  refine ⟨rfl, ?_⟩
  walk_at "w"
  rw [ints_length]
  refine br_of (fun h => ?_) (fun h => ?_)
  · have h := of_decide_eq_true h
    refine idx_ok (xs := ns) (k := k) (by omega) (by omega) rfl
  · have h := of_decide_eq_false h
    rw [getD_ge (by omega)]
    exact rfl
noncomputable def sp_copy : Sp := fun ds o => ∃ x, ds = [x] ∧ o = tells x
theorem y_copy : Yes Φ b_law_copy 1 1 sp_copy := by
  rintro _ _ ⟨x, rfl, rfl⟩
  refine ⟨rfl, ?_⟩
  cases x <;> exact rfl
noncomputable def dueC (w : Int) (good has oth : Bool) (t : D) : Cd :=
    bif !good then some 2002 else
    bif decide (w < 13) && !has then some 2003 else
    bif isin [3, 8] (.int w) && oth then some 2004 else
    bif isin [4, 6, 7] (.int w) && oth then some 2005 else
    bif decide (w = 11) && oth then some 2002 else
    bif decide (w = 15) && oth then (bif isin [-1, -7] t then some 2000 else some 2005) else
    bif decide (w = 16) && oth then some 2003 else none
noncomputable def sp_due : Sp := fun ds o => ∃ w good has t oth, ds = [.int w, .bool good, .bool has, t, .bool oth] ∧ (w = 15 → SeqAt.shaped t = true) ∧ o = tells (.str (st (word (dueC w good has oth t))))
noncomputable def Test (Φ : Calls) (ρ : Vars) (Z : Nat → Prop) (t : X) (p : Bool) : Prop := ∀ P : Bool → Prop, P p → orX Φ ρ Z t (wT Φ ρ t P)
theorem if_word {ρ : Vars} {Z : Nat → Prop} {t : X} {p : Bool} {c q : Cd} {a r : Ss} (ht : Test Φ ρ Z t p) (ha : p = true → ∀ Q : Fl → Vars → Prop, Q (.ret (.str (st (word c))) true) ρ → xSs Φ Z a Q ρ) (hr : xSs Φ Z r (retPost (tells (.str (st (word q)))).K) ρ) :
    xSs Φ Z (.cons (.ite t a .nil) r) (retPost (tells (.str (st (word (bif p then c else q))))).K) ρ := by
  refine ht _ ?_
  cases p
  · exact hr
  · exact ha rfl _ rfl
theorem y_due : Yes Φ b_law_due 5 5 sp_due := by
  rintro _ _ ⟨w, good, has, t, oth, rfl, ht, rfl⟩
  refine ⟨rfl, ?_⟩
  unfold dueC
  refine if_word ?_ ?_ ?_
  · exact fun P h => .inr h
  · exact fun _ _ h => h
  refine if_word ?_ ?_ ?_
  · intro P h
    show br (decide (w < 13)) _ _
    revert h; cases decide (w < 13) <;> exact id
  · exact fun _ _ h => h
  refine if_word ?_ ?_ ?_
  · refine fun P h => And.intro (by decide) (And.intro rfl (Exists.intro [3, 8] (And.intro rfl ?_)))
    show br (isin [3, 8] (.int w)) (P oth) (P (isin [3, 8] (.int w)))
    revert h; cases isin [3, 8] (.int w) <;> exact id
  · exact fun _ _ h => h
  refine if_word ?_ ?_ ?_
  · refine fun P h => And.intro (by decide) (And.intro rfl (Exists.intro [4, 6, 7] (And.intro rfl ?_)))
    show br (isin [4, 6, 7] (.int w)) (P oth) (P (isin [4, 6, 7] (.int w)))
    revert h; cases isin [4, 6, 7] (.int w) <;> exact id
  · exact fun _ _ h => h
  refine if_word ?_ ?_ ?_
  · intro P h
    show br (decide (w = 11)) _ _
    revert h; cases decide (w = 11) <;> exact id
  · exact fun _ _ h => h
  refine if_word ?_ ?_ ?_
  · intro P h
    show br (decide (w = 15)) _ _
    revert h; cases decide (w = 15) <;> exact id
  · refine fun hp _ h => And.intro (by decide) (And.intro (ht (of_decide_eq_true (Bool.and_eq_true_iff.mp hp).1)) (Exists.intro [-1, -7] (And.intro rfl ?_)))
    show br (isin [-1, -7] t) _ _
    revert h; cases isin [-1, -7] t <;> exact id
  refine if_word ?_ ?_ ?_
  · intro P h
    show br (decide (w = 16)) _ _
    revert h; cases decide (w = 16) <;> exact id
  · exact fun _ _ h => h
  exact rfl
noncomputable def cannotC (w : Int) (y t : D) : Cd :=
  bif decide (w = 2) && PyData.eqv y (L (ones 3)) then some 2000 else
  bif (decide (w = 9) && PyData.eqv y (.list [])) || (decide (w = 8) && decide (toI t = 0)) then some 2001 else none
noncomputable def sp_cannot : Sp := fun ds o => ∃ w y t, ds = [.int w, y, t] ∧ (w = 2 ∨ w = 9 → ∃ j, j ≤ 3 ∧ y = L (ones j)) ∧ (w = 8 → isW t = true) ∧ o = tells (.str (st (word (cannotC w y t))))
theorem shp_ones {j : Nat} (h : j ≤ 3) : SeqAt.shaped (L (ones j)) = true := by
  match j, h with
  | 0, _ => rfl
  | 1, _ => rfl
  | 2, _ => rfl
  | 3, _ => rfl
theorem y_cannot : Yes Φ b_law_cannot 3 3 sp_cannot := by
  rintro _ _ ⟨w, y, t, rfl, hy, ht, rfl⟩
  refine ⟨rfl, ?_⟩
  unfold cannotC
  refine if_word ?_ ?_ ?_
  · intro P h
    show br (decide (w = 2)) _ _
    cases e : decide (w = 2)
    · rw [e] at h; exact h
    · rw [e] at h
      obtain ⟨j, hj, rfl⟩ := hy (.inl (of_decide_eq_true e))
      exact And.intro (by decide) ⟨shp_ones hj, shp_ones (j := 3) (by decide), h⟩
  · exact fun _ _ h => h
  refine if_word ?_ ?_ rfl
  rotate_left
  · exact fun _ _ h => h
  intro P h
  have last : P (decide (w = 8) && decide (toI t = 0)) → wAnd Φ [.val (.int w), .val y, .val t] (.cons (.cmp .eq (.var 0) (.int 8)) (.cons (.cmp .eq (.var 2) (.int 0)) .nil)) fun d _ => tr d P := by
    intro h
    show br (decide (w = 8)) _ _
    cases e : decide (w = 8)
    · rw [e] at h; exact h
    · rw [e] at h
      cases t with
      | int n => exact h
      | _ => cases ht (of_decide_eq_true e)
  show br (decide (w = 9)) _ _
  cases e : decide (w = 9)
  · rw [e] at h; exact last h
  · rw [e] at h
    obtain ⟨j, hj, rfl⟩ := hy (.inr (of_decide_eq_true e))
    refine And.intro (by decide) ⟨shp_ones hj, shp_ones (j := 0) (by decide), ?_⟩
    show br (PyData.eqv (L (ones j)) (.list [])) (P (PyData.eqv (L (ones j)) (.list []))) _
    revert h
    cases PyData.eqv (L (ones j)) (.list [])
    · exact last
    · exact id
noncomputable def sp_answers : Sp := fun ds o => ∃ w b x t rg oth, ds = [.int w, b, x, t, .bool rg, .bool oth] ∧ nb b = none ∧ (w = 13 → isR (toI b) x = rg) ∧ (w = 14 → isF (toI b) t = !oth) ∧ o = tells (.bool true)
theorem y_answers (R : Has Φ 4 sp_is_row) (F : Has Φ 3 sp_is_figure) : Yes Φ b_law_answers 6 7 sp_answers := by
  rintro _ _ ⟨w, b, x, t, rg, oth, rfl, hb, hr, hf, rfl⟩
  refine ⟨rfl, ?_⟩
  show br (decide (w = 13)) _ _
  refine br_of (fun h => ?_) (fun h => ?_)
  · refine R.ok ⟨b, x, rfl, by rw [hb]; rfl⟩ ?_
    rintro _ _ rfl
    rw [hr (of_decide_eq_true h)]
    cases rg <;> exact ⟨rfl, rfl, rfl⟩
  show br (decide (w = 14)) _ _
  refine br_of (fun h => ?_) (fun h => ?_)
  · refine F.ok ⟨b, t, rfl, by rw [hb]; rfl⟩ ?_
    rintro _ _ rfl
    rw [hf (of_decide_eq_true h)]
    cases oth <;> exact ⟨rfl, rfl, rfl⟩
  exact rfl
end Mine
set_option Elab.async false
namespace Mine
open PySem
local macro_rules | `(tactic| walk_at "w") => `(tactic| conv => whnf)
variable {Φ : Calls}

noncomputable def co (b x y t : D) (c : Cd) : Nat → Cd
  | 0 => alt (nr b x) none
  | 1 => alt (nr b x) (alt (nr b y) none)
  | 2 => alt (nr b x) (alt (nr b y) (below x y))
  | 3 => alt (nr b x) (alt (nf b t) none)
  | 4 => alt (nr b x) (alt (nc t 0) none)
  | 5 => alt (nr b x) (alt (nr b y) none)
  | 6 => alt (nr b x) (alt (nr b y) (alt (nc t 3) none))
  | 7 => alt (nr b x) (alt (nr b y) (alt (nc t 3) none))
  | 8 => alt (nr b x) (alt (nf b t) (byF t))
  | 9 => alt (nr b x) (alt (nr b y) (byR x y))
  | 10 => alt (nr b x) (alt (nr b y) none)
  | 11 => alt (nr b x) (alt (nb t) none)
  | 12 => alt (nr b x) none
  | 13 => nb b
  | 14 => nb b
  | 15 => alt (nb b) (ro t)
  | _ => alt (nb b) c
noncomputable abbrev a2 (i j : Nat) : Xs := .cons (.var i) (.cons (.var j) .nil)
noncomputable abbrev a3 (i j k : Nat) : Xs := .cons (.var i) (a2 j k)
noncomputable abbrev a4 (i j k l : Nat) : Xs := .cons (.var i) (a3 j k l)
noncomputable def disp : Nat → X
  | 0 => .call 9 (a2 1 2)
  | 1 => .call 16 (a3 1 2 3)
  | 2 => .call 17 (a3 1 2 3)
  | 3 => .call 18 (a3 1 2 4)
  | 4 => .call 19 (a3 1 2 4)
  | 5 => .call 24 (a3 1 2 3)
  | 6 => .call 25 (a4 1 2 3 4)
  | 7 => .call 26 (a4 1 2 3 4)
  | 8 => .call 30 (a3 1 2 4)
  | 9 => .call 31 (a3 1 2 3)
  | 10 => .call 32 (a3 1 2 3)
  | 11 => .call 33 (a3 1 2 4)
  | 12 => .call 34 (a2 1 2)
  | 13 => .call 4 (a2 1 2)
  | 14 => .call 3 (a2 1 4)
  | 15 => .call 8 (a2 1 4)
  | _ => .call 36 (a2 1 4)
theorem upto16 {P : Nat → Prop} (h0 : P 0) (h1 : P 1) (h2 : P 2) (h3 : P 3) (h4 : P 4) (h5 : P 5) (h6 : P 6) (h7 : P 7) (h8 : P 8) (h9 : P 9) (h10 : P 10) (h11 : P 11) (h12 : P 12) (h13 : P 13) (h14 : P 14) (h15 : P 15) (h16 : P 16) : ∀ w, w ≤ 16 → P w
  | 0, _ => h0
  | 1, _ => h1
  | 2, _ => h2
  | 3, _ => h3
  | 4, _ => h4
  | 5, _ => h5
  | 6, _ => h6
  | 7, _ => h7
  | 8, _ => h8
  | 9, _ => h9
  | 10, _ => h10
  | 11, _ => h11
  | 12, _ => h12
  | 13, _ => h13
  | 14, _ => h14
  | 15, _ => h15
  | 16, _ => h16
  | n + 17, h => absurd h (by omega)
theorem call_body {Z : Nat → Prop} {K : D → Bool → Prop} {b x y t : D} {w : Nat} (hw : w ≤ 16) : (xE Φ [.val (.int w), .val b, .val x, .val y, .val t] Z (disp w) ∨ wE Φ [.val (.int w), .val b, .val x, .val y, .val t] (disp w) fun d f => K d (!f.sh && decide f.u.Nodup)) →
    xSs Φ Z b_law_call (retPost K) [.val (.int w), .val b, .val x, .val y, .val t] :=
  upto16 (P := fun w : Nat => (xE Φ [.val (.int w), .val b, .val x, .val y, .val t] Z (disp w) ∨ wE Φ [.val (.int w), .val b, .val x, .val y, .val t] (disp w) fun d f => K d (!f.sh && decide f.u.Nodup)) → xSs Φ Z b_law_call (retPost K) [.val (.int w), .val b, .val x, .val y, .val t])
    (fun h => h) (fun h => h) (fun h => h) (fun h => h) (fun h => h) (fun h => h) (fun h => h) (fun h => h) (fun h => h) (fun h => h) (fun h => h) (fun h => h) (fun h => h) (fun h => h) (fun h => h) (fun h => h) (fun h => h) w hw
theorem ret_call {f : Nat} {sp : Sp} {ρ : Vars} {xs : Xs} {ds : List D} {c : Cd} (H : Has Φ f sp) (hsp : sp ds (code c)) (hds : ∀ K : List D → Prop, K ds → wL Φ ρ xs fun ds _ => K ds) :
    xE Φ ρ (code c).Z (.call f xs) ∨ wE Φ ρ (.call f xs) fun d f => (code c).K d (!f.sh && decide f.u.Nodup) := by
  cases c with
  | some c => exact .inl (hds _ (H.ex hsp ⟨c, rfl, rfl⟩))
  | none => exact .inr (hds _ (H.ok hsp fun _ _ _ => trivial))
theorem ret_is {f : Nat} {sp : Sp} {ρ : Vars} {xs : Xs} {ds : List D} {c : Cd} {d : D} (H : Has Φ f sp) (hsp : sp ds (fo c d)) (hds : ∀ K : List D → Prop, K ds → wL Φ ρ xs fun ds _ => K ds) :
    xE Φ ρ (code c).Z (.call f xs) ∨ wE Φ ρ (.call f xs) fun d f => (code c).K d (!f.sh && decide f.u.Nodup) := by
  cases c with
  | some c => exact .inl (hds _ (H.ex hsp ⟨c, rfl, rfl⟩))
  | none => exact .inr (hds _ (H.ok hsp fun _ _ _ => trivial))
noncomputable def Dom (w : Nat) (t : D) (c : Cd) : Prop := (w = 4 → toI t ≤ 100) ∧ (w = 15 → toI t ≤ 10) ∧ (w = 16 → RdC t c)
noncomputable def sp_call : Sp := fun ds o => ∃ w b x y t c, ds = [.int (w : Nat), b, x, y, t] ∧ w ≤ 16 ∧ RR b x ∧ RR b y ∧ Dom w t c ∧ o = code (co b x y t c w)
structure Tops (Φ : Calls) : Prop where
  h9 : Has Φ 9 sp_one
  h16 : Has Φ 16 (sp_two fine)
  h17 : Has Φ 17 (sp_two below)
  h18 : Has Φ 18 sp_scaled
  h19 : Has Φ 19 sp_shifted
  h24 : Has Φ 24 (sp_two fine)
  h25 : Has Φ 25 sp_product
  h26 : Has Φ 26 sp_product
  h30 : Has Φ 30 sp_parted
  h31 : Has Φ 31 (sp_two byR)
  h32 : Has Φ 32 (sp_two fine)
  h33 : Has Φ 33 sp_turned
  h34 : Has Φ 34 sp_one
  h4 : Has Φ 4 sp_is_row
  h3 : Has Φ 3 sp_is_figure
  h8 : Has Φ 8 sp_row_of
  h36 : Has Φ 36 sp_read
theorem y_call (T : Tops Φ) : Yes Φ b_law_call 5 5 sp_call := by
  rintro _ _ ⟨w, b, x, y, t, c, rfl, hw, hx, hy, hd, rfl⟩
  refine ⟨rfl, call_body hw ?_⟩
  revert hd
  refine upto16 (P := fun w : Nat => Dom w t c → xE Φ [.val (.int w), .val b, .val x, .val y, .val t] (code (co b x y t c w)).Z (disp w) ∨ wE Φ [.val (.int w), .val b, .val x, .val y, .val t] (disp w) fun d f => (code (co b x y t c w)).K d (!f.sh && decide f.u.Nodup)) ?_ ?_ ?_ ?_ ?_ ?_ ?_ ?_ ?_ ?_ ?_ ?_ ?_ ?_ ?_ ?_ ?_ w hw
  · exact fun _ => ret_call T.h9 ⟨b, x, rfl, hx, rfl⟩ fun _ h => h
  · exact fun _ => ret_call T.h16 ⟨b, x, y, rfl, hx, hy, rfl⟩ fun _ h => h
  · exact fun _ => ret_call T.h17 ⟨b, x, y, rfl, hx, hy, rfl⟩ fun _ h => h
  · exact fun _ => ret_call T.h18 ⟨b, x, t, rfl, hx, rfl⟩ fun _ h => h
  · exact fun hd => ret_call T.h19 ⟨b, x, t, rfl, hx, hd.1 rfl, rfl⟩ fun _ h => h
  · exact fun _ => ret_call T.h24 ⟨b, x, y, rfl, hx, hy, rfl⟩ fun _ h => h
  · exact fun _ => ret_call T.h25 ⟨b, x, y, t, rfl, hx, hy, rfl⟩ fun _ h => h
  · exact fun _ => ret_call T.h26 ⟨b, x, y, t, rfl, hx, hy, rfl⟩ fun _ h => h
  · exact fun _ => ret_call T.h30 ⟨b, x, t, rfl, hx, rfl⟩ fun _ h => h
  · exact fun _ => ret_call T.h31 ⟨b, x, y, rfl, hx, hy, rfl⟩ fun _ h => h
  · exact fun _ => ret_call T.h32 ⟨b, x, y, rfl, hx, hy, rfl⟩ fun _ h => h
  · exact fun _ => ret_call T.h33 ⟨b, x, t, rfl, hx, rfl⟩ fun _ h => h
  · exact fun _ => ret_call T.h34 ⟨b, x, rfl, hx, rfl⟩ fun _ h => h
  · exact fun _ => ret_is T.h4 ⟨b, x, rfl, rfl⟩ fun _ h => h
  · exact fun _ => ret_is T.h3 ⟨b, t, rfl, rfl⟩ fun _ h => h
  · exact fun hd => ret_call T.h8 ⟨b, t, rfl, hd.2.1 rfl, rfl⟩ fun _ h => h
  · exact fun hd => ret_call T.h36 ⟨b, t, c, rfl, hd.2.2 rfl, rfl⟩ fun _ h => h
noncomputable def okC : Cd → Prop
  | none => True
  | some c => 2000 ≤ c ∧ c ≤ 2005
theorem okC_alt {c d : Cd} (h1 : okC c) (h2 : okC d) : okC (alt c d) := by
  cases c
  · exact h2
  · exact h1
theorem okC_if {c d : Cd} (p : Bool) (h1 : okC c) (h2 : okC d) : okC (bif p then c else d) := by
  cases p
  · exact h2
  · exact h1
theorem okC_nb (b : D) : okC (nb b) := okC_if _ trivial (by decide : 2000 ≤ 2002 ∧ 2002 ≤ 2005)
theorem okC_nr (b x : D) : okC (nr b x) := okC_if _ (okC_if _ trivial (by decide : 2000 ≤ 2003 ∧ 2003 ≤ 2005)) (by decide : 2000 ≤ 2002 ∧ 2002 ≤ 2005)
theorem okC_nf (b x : D) : okC (nf b x) := okC_if _ (okC_if _ trivial (by decide : 2000 ≤ 2004 ∧ 2004 ≤ 2005)) (by decide : 2000 ≤ 2002 ∧ 2002 ≤ 2005)
theorem okC_nc (x : D) (l : Int) : okC (nc x l) := okC_if _ trivial (by decide : 2000 ≤ 2005 ∧ 2005 ≤ 2005)
theorem okC_below (x y : D) : okC (below x y) := okC_if _ (by decide : 2000 ≤ 2000 ∧ 2000 ≤ 2005) trivial
theorem okC_byR (x y : D) : okC (byR x y) := okC_if _ (by decide : 2000 ≤ 2001 ∧ 2001 ≤ 2005) trivial
theorem okC_byF (x : D) : okC (byF x) := okC_if _ (by decide : 2000 ≤ 2001 ∧ 2001 ≤ 2005) trivial
theorem okC_ro (x : D) : okC (ro x) := by
  cases x with
  | int n => exact okC_if _ (by decide : 2000 ≤ 2000 ∧ 2000 ≤ 2005) trivial
  | _ => exact (by decide : 2000 ≤ 2005 ∧ 2005 ≤ 2005)
theorem okC_rd {x : D} {c : Cd} (h : RdC x c) : okC c := by
  rcases h with ⟨rfl, _⟩ | ⟨rfl, _⟩
  · trivial
  · exact (by decide : 2000 ≤ 2003 ∧ 2003 ≤ 2005)
theorem okC_co {b x y t : D} {c : Cd} {w : Nat} (hw : w ≤ 16) (hd : Dom w t c) : okC (co b x y t c w) := by
  revert hd
  refine upto16 (P := fun w : Nat => Dom w t c → okC (co b x y t c w)) ?_ ?_ ?_ ?_ ?_ ?_ ?_ ?_ ?_ ?_ ?_ ?_ ?_ ?_ ?_ ?_ ?_ w hw
  · exact fun _ => okC_alt (okC_nr ..) trivial
  · exact fun _ => okC_alt (okC_nr ..) (okC_alt (okC_nr ..) trivial)
  · exact fun _ => okC_alt (okC_nr ..) (okC_alt (okC_nr ..) (okC_below ..))
  · exact fun _ => okC_alt (okC_nr ..) (okC_alt (okC_nf ..) trivial)
  · exact fun _ => okC_alt (okC_nr ..) (okC_alt (okC_nc ..) trivial)
  · exact fun _ => okC_alt (okC_nr ..) (okC_alt (okC_nr ..) trivial)
  · exact fun _ => okC_alt (okC_nr ..) (okC_alt (okC_nr ..) (okC_alt (okC_nc ..) trivial))
  · exact fun _ => okC_alt (okC_nr ..) (okC_alt (okC_nr ..) (okC_alt (okC_nc ..) trivial))
  · exact fun _ => okC_alt (okC_nr ..) (okC_alt (okC_nf ..) (okC_byF ..))
  · exact fun _ => okC_alt (okC_nr ..) (okC_alt (okC_nr ..) (okC_byR ..))
  · exact fun _ => okC_alt (okC_nr ..) (okC_alt (okC_nr ..) trivial)
  · exact fun _ => okC_alt (okC_nr ..) (okC_alt (okC_nb ..) trivial)
  · exact fun _ => okC_alt (okC_nr ..) trivial
  · exact fun _ => okC_nb ..
  · exact fun _ => okC_nb ..
  · exact fun _ => okC_alt (okC_nb ..) (okC_ro ..)
  · exact fun hd => okC_alt (okC_nb ..) (okC_rd (hd.2.2 rfl))
noncomputable def sp_told : Sp := fun ds o => ∃ w b x y t c, ds = [.int (w : Nat), b, x, y, t] ∧ w ≤ 16 ∧ RR b x ∧ RR b y ∧ Dom w t c ∧ o = tells (.str (st (word (co b x y t c w))))
theorem y_told (C : Has Φ 52 sp_call) : Yes Φ b_law_told 5 7 sp_told := by
  rintro _ _ ⟨w, b, x, y, t, c, rfl, hw, hx, hy, hd, rfl⟩
  refine ⟨rfl, ?_⟩
  have h : sp_call [.int w, b, x, y, t] (code (co b x y t c w)) := ⟨w, b, x, y, t, c, rfl, hw, hx, hy, hd, rfl⟩
  have ho := okC_co (b := b) (x := x) (y := y) hw hd
  generalize co b x y t c w = e at h ho
  cases e with
  | none => exact .inl (C.ok h fun _ _ _ => rfl)
  | some e => exact .inr ⟨rfl, rfl, C.ex h ⟨e, rfl, ho.1, ho.2, rfl⟩⟩
end Mine
set_option Elab.async false
namespace Mine
open PySem
local macro_rules | `(tactic| walk_at "w") => `(tactic| conv => whnf)
variable {Φ : Calls}

noncomputable def allP (P : D → Prop) : List D → Prop
  | [] => True
  | x :: xs => P x ∧ allP P xs
theorem allP_get {P : D → Prop} : ∀ {xs : List D} {i : Nat}, allP P xs → i < xs.length → ∃ x, xs[i]? = some x ∧ P x
  | [], i, _, h => absurd h (Nat.not_lt_zero i)
  | x :: _, 0, h, _ => ⟨x, rfl, h.1⟩
  | _ :: xs, i + 1, h, hi => allP_get (xs := xs) (i := i) h.2 (Nat.lt_of_succ_lt_succ hi)
theorem pickN {xs : List D} {k : Nat} {f : Fg} {K : D → Fg → Prop} (h1 : k < xs.length) (hl : xs.length ≤ 100) (h : ∃ x, xs[k]? = some x ∧ K x (if imm x then ff else f)) : idxK (.list xs) f (.int k) K := by
  have e : place xs.length (k : Int) = k := if_neg (by omega)
  obtain ⟨x, h2, h3⟩ := h
  exact And.intro (by show -(2 ^ 63 : Int) ≤ _; omega) ⟨by show _ < (2 ^ 63 : Int); omega, by rw [e]; omega, x, by rw [e]; exact h2, h3⟩
theorem pick {xs : List D} {i : Int} {f : Fg} {K : D → Fg → Prop} (h0 : 0 ≤ i) (h1 : i < xs.length) (hl : xs.length ≤ 100) (h : allP (fun x => K x (if imm x then ff else f)) xs) : idxK (.list xs) f (.int i) K := by
  obtain ⟨k, rfl⟩ : ∃ k : Nat, i = k := ⟨i.toNat, by omega⟩
  exact pickN (by omega) hl (allP_get h (by omega))
theorem fmod_lo (c : Int) {k : Int} (h : 0 < k) : 0 ≤ c.fmod k ∧ c.fmod k < k := by
  rw [Int.fmod_eq_emod_of_nonneg _ (Int.le_of_lt h)]
  exact ⟨Int.emod_nonneg _ (by omega), Int.emod_lt_of_pos _ h⟩
theorem picks {xs : List D} {c k : Int} {f : Fg} {K : D → Fg → Prop} (hk : (xs.length : Int) = k) (h1 : 0 < k) (h2 : k ≤ 100) (h : allP (fun x => K x (if imm x then ff else f)) xs) : idxK (.list xs) f (.int (c.fmod k)) K := by
  obtain ⟨a1, a2⟩ := fmod_lo c h1
  exact pick a1 (by omega) (by omega) h
structure Third (w : Nat) (n : Int) (oth : Bool) (t : D) : Prop where
  f38 : w = 3 ∨ w = 8 → (oth = true → isF n t = false) ∧ (oth = false → t = .int 0 ∨ t = .int 1)
  f4 : w = 4 → nc t 0 = (bif oth then some 2005 else none) ∧ toI t ≤ 100
  f67 : w = 6 ∨ w = 7 → nc t 3 = bif oth then some 2005 else none
  f11 : w = 11 → nb t = bif oth then some 2002 else none
  f14 : w = 14 → isF n t = !oth
  f15 : w = 15 → ro t = (bif oth then (bif isin [-1, -7] t then some 2000 else some 2005) else none) ∧ SeqAt.shaped t = true ∧ toI t ≤ 10
  f16 : w = 16 → RdC t (bif oth then some 2003 else none)
theorem third1 {w : Nat} {n : Int} {oth : Bool} {t : D} (hw : w = 3 ∨ w = 8) (h0 : oth = false) (ht : t = .int 0 ∨ t = .int 1) : Third w n oth t :=
  ⟨fun _ => ⟨fun h => by rw [h0] at h; (cases h), fun _ => ht⟩, fun _ => by omega, fun _ => by omega, fun _ => by omega, fun _ => by omega, fun _ => by omega, fun _ => by omega⟩
theorem third3 {w : Nat} {n : Int} {oth : Bool} {t : D} (hw : w = 3 ∨ w = 8 ∨ w = 14) (h0 : oth = true) (ht : isF n t = false) : Third w n oth t :=
  ⟨fun _ => ⟨fun _ => ht, fun h => by rw [h0] at h; (cases h)⟩, fun _ => by omega, fun _ => by omega, fun _ => by omega, fun _ => by rw [ht, h0]; rfl, fun _ => by omega, fun _ => by omega⟩
theorem third11 {n : Int} {oth : Bool} {t : D} (ht : nb t = bif oth then some 2002 else none) : Third 11 n oth t :=
  ⟨fun _ => by omega, fun _ => by omega, fun _ => by omega, fun _ => ht, fun _ => by omega, fun _ => by omega, fun _ => by omega⟩
theorem third4 {n : Int} {oth : Bool} {t : D} (ht : nc t 0 = bif oth then some 2005 else none) (h : toI t ≤ 100) : Third 4 n oth t :=
  ⟨fun _ => by omega, fun _ => ⟨ht, h⟩, fun _ => by omega, fun _ => by omega, fun _ => by omega, fun _ => by omega, fun _ => by omega⟩
theorem third67 {w : Nat} {n : Int} {oth : Bool} {t : D} (hw : w = 6 ∨ w = 7) (ht : nc t 3 = bif oth then some 2005 else none) : Third w n oth t :=
  ⟨fun _ => by omega, fun _ => by omega, fun _ => ht, fun _ => by omega, fun _ => by omega, fun _ => by omega, fun _ => by omega⟩
theorem third15 {w : Nat} {n : Int} {oth : Bool} {t : D} (hw : ¬ (w = 3 ∨ w = 8 ∨ w = 14 ∨ w = 11 ∨ w = 4 ∨ w = 6 ∨ w = 7 ∨ w = 16))
    (ht : ro t = (bif oth then (bif isin [-1, -7] t then some 2000 else some 2005) else none)) (h1 : SeqAt.shaped t = true) (h2 : toI t ≤ 10) : Third w n oth t :=
  ⟨fun _ => by omega, fun _ => by omega, fun _ => by omega, fun _ => by omega, fun _ => by omega, fun _ => ⟨ht, h1, h2⟩, fun _ => by omega⟩
theorem third16 {n : Int} {oth : Bool} {t : D} (ht : RdC t (bif oth then some 2003 else none)) : Third 16 n oth t :=
  ⟨fun _ => by omega, fun _ => by omega, fun _ => by omega, fun _ => by omega, fun _ => by omega, fun _ => by omega, fun _ => ht⟩
theorem third14 {n : Int} (h : 2 ≤ n) : Third 14 n false (.int 1) :=
  ⟨fun _ => by omega, fun _ => by omega, fun _ => by omega, fun _ => by omega, fun _ => by show (true && decide (1 < n)) = true; rw [decide_eq_true (by omega)]; rfl, fun _ => by omega, fun _ => by omega⟩
theorem if_ret {ρ : Vars} {Z : Nat → Prop} {t : X} {p : Bool} {a r : Ss} {K : D → Bool → Prop} (ht : Test Φ ρ Z t p) (ha : p = true → xSs Φ Z a (fun fl σ => match fl with | .next => xSs Φ Z r (retPost K) σ | .ret d fr => K d fr) ρ) (hr : p = false → xSs Φ Z r (retPost K) ρ) :
    xSs Φ Z (.cons (.ite t a .nil) r) (retPost K) ρ := by
  refine ht _ ?_
  cases p
  · exact hr rfl
  · exact ha rfl
theorem third_even {w : Nat} {n : Int} (hn : 2 ≤ n) (hw : w ≤ 16) : ¬ (w = 3 ∨ w = 8) → w ≠ 16 → ∃ (j : Nat) (v : Int), ([0, 0, 0, 0, 1, 0, 1, 1, 0, 0, 0, 2, 0, 0, 0, 1] : List Int)[w]? = some (j : Int) ∧ ([1, 3, 10] : List Int)[j]? = some v ∧ Third w n false (.int v) :=
  upto16 (P := fun w => ¬ (w = 3 ∨ w = 8) → w ≠ 16 → ∃ (j : Nat) (v : Int), ([0, 0, 0, 0, 1, 0, 1, 1, 0, 0, 0, 2, 0, 0, 0, 1] : List Int)[w]? = some (j : Int) ∧ ([1, 3, 10] : List Int)[j]? = some v ∧ Third w n false (.int v))
    (fun _ _ => ⟨0, 1, rfl, rfl, third15 (by decide) rfl rfl (by decide)⟩)
    (fun _ _ => ⟨0, 1, rfl, rfl, third15 (by decide) rfl rfl (by decide)⟩)
    (fun _ _ => ⟨0, 1, rfl, rfl, third15 (by decide) rfl rfl (by decide)⟩)
    (fun h => absurd (.inl rfl) h)
    (fun _ _ => ⟨1, 3, rfl, rfl, third4 rfl (by decide)⟩)
    (fun _ _ => ⟨0, 1, rfl, rfl, third15 (by decide) rfl rfl (by decide)⟩)
    (fun _ _ => ⟨1, 3, rfl, rfl, third67 (by decide) rfl⟩)
    (fun _ _ => ⟨1, 3, rfl, rfl, third67 (by decide) rfl⟩)
    (fun h => absurd (.inr rfl) h)
    (fun _ _ => ⟨0, 1, rfl, rfl, third15 (by decide) rfl rfl (by decide)⟩)
    (fun _ _ => ⟨0, 1, rfl, rfl, third15 (by decide) rfl rfl (by decide)⟩)
    (fun _ _ => ⟨2, 10, rfl, rfl, third11 rfl⟩)
    (fun _ _ => ⟨0, 1, rfl, rfl, third15 (by decide) rfl rfl (by decide)⟩)
    (fun _ _ => ⟨0, 1, rfl, rfl, third15 (by decide) rfl rfl (by decide)⟩)
    (fun _ _ => ⟨0, 1, rfl, rfl, third14 hn⟩)
    (fun _ _ => ⟨1, 3, rfl, rfl, third15 (by decide) rfl rfl (by decide)⟩)
    (fun _ h => absurd rfl h) w hw
noncomputable def sp_third : Sp := fun ds o => ∃ w n c, ds = [.int (w : Nat), .int n, .int c] ∧ w ≤ 16 ∧ 2 ≤ n ∧ o = .ok fun t _ => Third w n (decide (c.fmod 2 = 1)) t
theorem y_third : Yes Φ b_law_third 3 3 sp_third := by
  rintro _ _ ⟨w, n, c, rfl, hw, hn, rfl⟩
  refine ⟨rfl, ?_⟩
  have h2 := fmod_lo c (k := 2) (by decide)
  have he : c.fmod 2 = 0 → decide (c.fmod 2 = 1) = false := fun h => by rw [h]; rfl
  have ho : c.fmod 2 ≠ 0 → decide (c.fmod 2 = 1) = true := fun h => decide_eq_true (by omega)
  have hq : ∀ k : Nat, decide (((w : Nat) : Int) = (k : Int)) = decide (w = k) := fun k => decide_eq_decide.mpr (by omega)
  refine if_ret (p := decide (c.fmod 2 = 0) && (decide (w = 3) || decide (w = 8))) ?_ ?_ ?_
  · refine fun P h => And.intro (by decide) ?_
    show br (decide (c.fmod 2 = 0)) _ _
    revert h
    cases decide (c.fmod 2 = 0)
    · exact id
    · rw [← hq 3, ← hq 8]
      show _ → br (decide ((w : Int) = 3)) (P (decide ((w : Int) = 3))) _
      show P (true && (decide ((w : Int) = 3) || decide ((w : Int) = 8))) → _
      cases decide ((w : Int) = 3) <;> exact id
  · intro h
    obtain ⟨h3, h4⟩ := Bool.and_eq_true_iff.mp h
    have h4 : w = 3 ∨ w = 8 := (Bool.or_eq_true_iff.mp h4).imp of_decide_eq_true of_decide_eq_true
    refine And.intro (by decide) (And.intro (by decide) ?_)
    have := fmod_lo (c.fdiv 2) (k := 2) (by decide)
    refine third1 h4 (he (of_decide_eq_true h3)) ?_
    have e : (c.fdiv 2).fmod 2 = 0 ∨ (c.fdiv 2).fmod 2 = 1 := by omega
    rcases e with e | e
    · rw [e]; exact .inl rfl
    · rw [e]; exact .inr rfl
  intro h38
  refine if_ret (p := decide (w = 16)) ?_ ?_ ?_
  · intro P h
    rw [← hq 16] at h
    exact h
  · intro h
    have h := of_decide_eq_true h
    subst h
    refine And.intro (by decide) (And.intro (by decide) (And.intro (by decide) ?_))
    obtain ⟨a1, a2⟩ := fmod_lo c (k := 10) (by decide)
    have e2 : c.fmod 2 = (c.fmod 10) % 2 := by
      rw [Int.fmod_eq_emod_of_nonneg _ (by decide), Int.fmod_eq_emod_of_nonneg _ (by decide)]; omega
    rw [e2]
    generalize c.fmod 10 = i at a1 a2
    obtain ⟨k, rfl⟩ : ∃ k : Nat, i = k := ⟨i.toNat, by omega⟩
    have hk : k < 10 := by omega
    have key : ∀ x, RdC x (bif decide ((k : Int) % 2 = 1) then some 2003 else none) → Third 16 n (decide ((k : Int) % 2 = 1)) x := fun x h => third16 h
    refine pickN hk (by decide) ?_
    match k, hk with
    | 0, _ => exact ⟨_, rfl, key _ (.inl ⟨rfl, .inl rfl⟩)⟩
    | 1, _ => exact ⟨_, rfl, key _ (.inr ⟨rfl, .inr (.inr rfl)⟩)⟩
    | 2, _ => exact ⟨_, rfl, key _ (.inl ⟨rfl, .inr (.inl rfl)⟩)⟩
    | 3, _ => exact ⟨_, rfl, key _ (.inr ⟨rfl, .inr (.inr rfl)⟩)⟩
    | 4, _ => exact ⟨_, rfl, key _ (.inl ⟨rfl, .inr (.inr rfl)⟩)⟩
    | 5, _ => exact ⟨_, rfl, key _ (.inr ⟨rfl, .inl rfl⟩)⟩
    | 6, _ => exact ⟨_, rfl, key _ (.inl ⟨rfl, .inl rfl⟩)⟩
    | 7, _ => exact ⟨_, rfl, key _ (.inr ⟨rfl, .inr (.inl rfl)⟩)⟩
    | 8, _ => exact ⟨_, rfl, key _ (.inl ⟨rfl, .inr (.inl rfl)⟩)⟩
    | 9, _ => exact ⟨_, rfl, key _ (.inr ⟨rfl, .inr (.inr rfl)⟩)⟩
  intro h16
  have h16 := of_decide_eq_false h16
  refine if_ret (p := decide (c.fmod 2 = 0)) ?_ ?_ ?_
  · exact fun P h => And.intro (by decide) h
  · intro h
    rw [h] at h38
    have h38 : ¬ (w = 3 ∨ w = 8) := by
      intro q
      have : (decide (w = 3) || decide (w = 8)) = true := Bool.or_eq_true_iff.mpr (q.imp (fun h => decide_eq_true h) fun h => decide_eq_true h)
      rw [this] at h38; cases h38
    rw [he (of_decide_eq_true h)]
    obtain ⟨j, v, h1, h2, h3⟩ := third_even hn hw h38 h16
    have j3 : j < 3 := (List.getElem?_eq_some_iff.mp h2).1
    have g1 : ([0, 0, 0, 0, 1, 0, 1, 1, 0, 0, 0, 2, 0, 0, 0, 1] : List Int).getD w 0 = j := by rw [List.getD_eq_getElem?_getD, h1]; rfl
    have g2 : ([1, 3, 10] : List Int).getD j 0 = v := by rw [List.getD_eq_getElem?_getD, h2]; rfl
    refine And.intro (by decide) (And.intro (by decide) ?_)
    refine idx_ok (xs := [0, 0, 0, 0, 1, 0, 1, 1, 0, 0, 0, 2, 0, 0, 0, 1]) (k := w) (by show w < 16; omega) (by decide) ?_
    rw [g1]
    refine idx_ok (xs := [1, 3, 10]) (k := j) j3 (by decide) ?_
    rw [g2]
    exact h3
  intro hc
  have ho := ho (of_decide_eq_false hc)
  rw [ho]
  have hi : isin [3, 8, 14] (.int w) = decide (w = 3 ∨ w = 8 ∨ w = 14) := by
    show (((3 : Int) == w) || (((8 : Int) == w) || (((14 : Int) == w) || false))) = _
    rw [Bool.eq_iff_iff, decide_eq_true_eq]
    simp only [Bool.or_false, Bool.or_eq_true, beq_iff_eq]
    omega
  refine if_ret (p := isin [3, 8, 14] (.int w)) ?_ ?_ ?_
  · exact fun P h => And.intro (by decide) (And.intro rfl (Exists.intro [3, 8, 14] (And.intro rfl h)))
  · intro h
    rw [hi] at h
    have h := of_decide_eq_true h
    have key : ∀ x, isF n x = false → Third w n true x := fun x hx => third3 h rfl hx
    have big : ∀ v : Int, n ≤ v → isF n (.int v) = false := fun v hv => by
      show (_ && decide (v < n)) = false
      rw [show decide (v < n) = false from decide_eq_false (by omega), Bool.and_false]
    exact And.intro (by decide) (And.intro (by decide) (And.intro (by show 8 ≤ sizeLid; decide) (And.intro (by decide) (And.intro (by decide) (picks rfl (by decide) (by decide) ⟨key _ (big n (Int.le_refl n)), key _ rfl, key _ rfl, key _ rfl, key _ rfl, key _ (big (n + 1) (by omega)), key _ rfl, key _ rfl, trivial⟩)))))
  intro h3
  rw [hi] at h3
  have h3 := of_decide_eq_false h3
  refine if_ret (p := decide (w = 11)) ?_ ?_ ?_
  · intro P h
    rw [← hq 11] at h
    exact h
  · intro h
    have h := of_decide_eq_true h
    subst h
    exact And.intro (by decide) (And.intro (by decide) (And.intro (by decide) (picks rfl (by decide) (by decide) ⟨third11 rfl, third11 rfl, third11 rfl, third11 rfl, third11 rfl, third11 rfl, third11 rfl, trivial⟩)))
  intro h11
  have h11 := of_decide_eq_false h11
  refine if_ret (p := decide (w = 4)) ?_ ?_ ?_
  · intro P h
    rw [← hq 4] at h
    exact h
  · intro h
    have h := of_decide_eq_true h
    subst h
    exact And.intro (by decide) (And.intro (by decide) (And.intro (by decide) (And.intro (by decide) (picks rfl (by decide) (by decide) ⟨third4 rfl (by decide), third4 rfl (by decide), third4 rfl (by decide), third4 rfl (by decide), third4 rfl (by decide), third4 rfl (by decide), trivial⟩))))
  intro h4
  have h4 := of_decide_eq_false h4
  refine if_ret (p := decide (w = 6) || decide (w = 7)) ?_ ?_ ?_
  · intro P h
    rw [← hq 6, ← hq 7] at h
    show br (decide ((w : Int) = 6)) (P (decide ((w : Int) = 6))) _
    replace h : P (decide ((w : Int) = 6) || decide ((w : Int) = 7)) := h
    revert h
    cases decide ((w : Int) = 6) <;> exact id
  · intro h
    have h : w = 6 ∨ w = 7 := (Bool.or_eq_true_iff.mp h).imp of_decide_eq_true of_decide_eq_true
    exact And.intro (by decide) (And.intro (by decide) (And.intro (by decide) (And.intro (by decide) (picks rfl (by decide) (by decide) ⟨third67 h rfl, third67 h rfl, third67 h rfl, third67 h rfl, third67 h rfl, third67 h rfl, third67 h rfl, trivial⟩))))
  intro h67
  have h67 : ¬ (w = 6 ∨ w = 7) := by
    intro q
    rw [Bool.or_eq_true_iff.mpr (q.imp (fun h => decide_eq_true h) fun h => decide_eq_true h)] at h67
    cases h67
  have key : ∀ x, ro x = (bif isin [-1, -7] x then some 2000 else some 2005) → SeqAt.shaped x = true → toI x ≤ 10 → Third w n true x := fun x h1 h2 h3 => third15 (by omega) h1 h2 h3
  exact And.intro (by decide) (And.intro (by decide) (And.intro (by decide) (And.intro (by decide) (picks rfl (by decide) (by decide) ⟨key _ rfl rfl (by decide), key _ rfl rfl (by decide), key _ rfl (shp (l := [51]) rfl) (by decide), key _ rfl rfl (by decide), key _ rfl rfl (by decide), key _ rfl rfl (by decide), trivial⟩))))
end Mine
set_option Elab.async false
namespace Mine
open PySem
local macro_rules | `(tactic| walk_at "w") => `(tactic| conv => whnf)
variable {Φ : Calls}

theorem canLayAll {xs : List D} (h : ∀ x ∈ xs, x.canLay0 = true) : PyData.canLayAll0 xs = true := by
  induction xs with
  | nil => rfl
  | cons x xs ih =>
    show (x.canLay0 && PyData.canLayAll0 xs) = true
    rw [h x (.head _), ih fun y hy => h y (.tail _ hy)]; rfl
theorem depthAll {xs : List D} {k : Nat} (h : ∀ x ∈ xs, x.depth ≤ k) : PyData.depthAll xs ≤ k := by
  induction xs with
  | nil => exact Nat.zero_le _
  | cons x xs ih => exact Nat.max_le.mpr ⟨h x (.head _), ih fun y hy => h y (.tail _ hy)⟩
theorem eqvAll {xs : List D} (h : ∀ x ∈ xs, PyData.eqv x x = true) : PyData.eqvAll xs xs = true := by
  induction xs with
  | nil => rfl
  | cons x xs ih =>
    show (PyData.eqv x x && PyData.eqvAll xs xs) = true
    rw [h x (.head _), ih fun y hy => h y (.tail _ hy)]; rfl
structure Smooth (d : D) : Prop where
  lay : d.canLay0 = true
  dep : d.depth ≤ 1
  eq : PyData.eqv d d = true
theorem plain_int (n : Int) : Smooth (.int n) := ⟨rfl, Nat.zero_le _, by show (n == n) = true; rw [beq_iff_eq]⟩
theorem plain_str {l : List Nat} (h : l.all (fun c => decide (c < 0x110000)) = true) : Smooth (.str (st l)) :=
  ⟨(Bool.and_eq_true_iff.mp (shp h)).1, Nat.zero_le _, by show (st l == st l) = true; rw [beq_iff_eq]⟩
theorem same_list {xs : List D} (h : ∀ x ∈ xs, Smooth x) : same2 (.list xs) (.list xs) := by
  have s : SeqAt.shaped (.list xs) = true := by
    show (PyData.canLayAll0 xs && decide (PyData.depthAll xs + 1 ≤ 64)) = true
    have := depthAll fun x hx => (h x hx).dep
    rw [canLayAll fun x hx => (h x hx).lay, decide_eq_true (by omega)]; rfl
  exact .inl ⟨s, s, eqvAll fun x hx => (h x hx).eq⟩
theorem same_plain {d : D} (h : Smooth d) : same2 d d := by
  have s : SeqAt.shaped d = true := by
    unfold SeqAt.shaped
    rw [h.lay, decide_eq_true (Nat.le_trans h.dep (by decide))]; rfl
  exact .inl ⟨s, s, h.eq⟩
theorem iz_plain {xs : List Int} : ∀ x ∈ iz xs, Smooth x := fun x hx => by
  obtain ⟨n, _, rfl⟩ := List.mem_map.mp hx
  exact plain_int n
theorem set_plain {xs : List Int} {m : Nat} {d : D} (hd : Smooth d) : ∀ x ∈ (iz xs).set m d, Smooth x := fun x hx => by
  rcases List.mem_or_eq_of_mem_set hx with h | rfl
  · exact iz_plain x h
  · exact hd
theorem set_bad {n : Int} {xs : List D} {m : Nat} {d : D} (hm : m < xs.length) (hd : isF n d = false) : isR n (.list (xs.set m d)) = false := by
  have : (xs.set m d).all (isF n) = false := by
    rw [List.all_eq_false]
    exact ⟨d, List.mem_set hm d, by rw [hd]; decide⟩
  show ((xs.set m d).all (isF n) && _) = false
  rw [this]; rfl
theorem onesF (k : Nat) : (List.replicate k [PyData.int 1]).flatten = iz (ones k) := by
  induction k with
  | zero => rfl
  | succ k ih => rw [List.replicate_succ, List.flatten_cons, ih]; rfl
noncomputable def sp_bad_row : Sp := fun ds o => ∃ n c, ds = [.int n, .int c] ∧ o = .ok fun d _ => isR n d = false ∧ same2 d d
theorem y_bad_row : Yes Φ b_law_bad_row 2 3 sp_bad_row := by
  rintro _ _ ⟨n, c, rfl, rfl⟩
  refine ⟨rfl, ?_⟩
  obtain ⟨a1, a2⟩ := fmod_lo c (k := 11) (by decide)
  refine if_ret (p := decide (c.fmod 11 < 7)) ?_ ?_ ?_
  · exact fun P h => And.intro (by decide) h
  · intro h
    have h := of_decide_eq_true h
    have e0 : ∀ xs : List D, xs.getLast? = some (.int 0) → isR n (.list xs) = false := fun xs hx => by
      show (_ && !isZ xs.getLast?) = false
      rw [hx]; exact Bool.and_false _
    refine And.intro (by decide) (And.intro (by decide) (And.intro (by decide) fun a => And.intro (show 7 ≤ sizeLid by decide) (And.intro (by decide) (pick a1 h (show 7 ≤ 100 by decide) ⟨⟨rfl, same_plain ⟨rfl, Nat.le_refl 1, rfl⟩⟩, ⟨rfl, same_plain ⟨rfl, Nat.zero_le _, rfl⟩⟩, ⟨e0 _ rfl, same_list (iz_plain (xs := [0]))⟩, ⟨e0 _ rfl, same_list (iz_plain (xs := [1, 0]))⟩, ⟨rfl, same_plain (plain_int 7)⟩, ⟨rfl, same_plain (plain_str (l := [49, 49]) rfl)⟩, ⟨rfl, .inr ⟨_, rfl, rfl⟩⟩, trivial⟩))))
  intro _
  obtain ⟨q1, q2⟩ := fmod_lo (c.fdiv 11) (k := 7) (by decide)
  refine And.intro (by decide) (And.intro (by decide) (And.intro (by decide) ?_))
  generalize (c.fdiv 11).fmod 7 = q at q1 q2
  obtain ⟨k, hk⟩ : ∃ k : Nat, 1 + q = k := ⟨(1 + q).toNat, by omega⟩
  walk_at "w"
  rw [hk, Int.toNat_natCast, onesF]
  refine ⟨rfl, by show _ < (2 ^ 63 : Int); omega, by show -(2 ^ 63 : Int) ≤ _; omega, by show 1 * k ≤ 2 ^ 24; omega, ?_⟩
  have l1 : (iz (ones k)).length = k := by rw [ints_length, ones_len]
  have k1 : 1 ≤ k := by omega
  have k2 : k ≤ 7 := by omega
  have big : ∀ v : Int, n ≤ v → isF n (.int v) = false := fun v hv => by
    show (_ && decide (v < n)) = false
    rw [show decide (v < n) = false from decide_eq_false (by omega), Bool.and_false]
  obtain ⟨m1, m2⟩ := fmod_lo (c.fdiv 77) (k := k) (by omega)
  have key : ∀ d : D, isF n d = false → Smooth d → wE Φ [.val (.int n), .val (.int c), .own (L (ones k))] (match b_law_bad_row with | .cons _ (.cons _ (.cons (.setAt _ k _) _)) => k | _ => .none) fun kd _ => onI kd fun m => 0 ≤ m ∧ m < (iz (ones k)).length ∧ flat (iz (ones k)) = true ∧ ff.sh = false ∧ ff.u = [] ∧ isR n (.list ((iz (ones k)).set m.toNat d)) = false ∧ same2 (.list ((iz (ones k)).set m.toNat d)) (.list ((iz (ones k)).set m.toNat d)) := by
    intro d h1 h2
    refine And.intro (by decide) ?_
    walk_at "w"
    rw [l1]
    refine ⟨by omega, m1, m2, ints_flat _, rfl, rfl, set_bad (by omega) h1, same_list (set_plain h2)⟩
  refine And.intro (show 1 ≤ sizeLid by decide) ?_
  exact And.intro (show 1 ≤ sizeLid by decide) (And.intro (show 8 ≤ sizeLid by decide) (And.intro (by decide) (And.intro (by decide) (picks rfl (by decide) (by decide)
    ⟨key _ (big n (Int.le_refl n)) (plain_int _), key _ rfl (plain_int _), key _ rfl ⟨rfl, Nat.zero_le _, rfl⟩, key _ rfl (plain_str (l := [49]) rfl), key _ rfl ⟨rfl, Nat.zero_le _, rfl⟩, key _ (big (n + 5) (by omega)) (plain_int _), key _ rfl ⟨rfl, Nat.le_refl 1, rfl⟩, key _ rfl ⟨rfl, Nat.le_refl 1, rfl⟩, trivial⟩))))
end Mine
set_option Elab.async false
namespace Mine
open PySem
local macro_rules | `(tactic| walk_at "w") => `(tactic| conv => whnf)
variable {Φ : Calls}

theorem isR_ones {n : Int} (h : 2 ≤ n) {j : Nat} (hj : j ≤ 3) : isR n (L (ones j)) = true := by
  have e : isF n (.int 1) = true := by show (true && decide (1 < n)) = true; rw [decide_eq_true (by omega)]; rfl
  match j, hj with
  | 0, _ => rfl
  | 1, _ => show ((isF n (.int 1) && true) && true) = true; rw [e]; rfl
  | 2, _ => show ((isF n (.int 1) && (isF n (.int 1) && true)) && true) = true; rw [e]; rfl
  | 3, _ => show ((isF n (.int 1) && (isF n (.int 1) && (isF n (.int 1) && true))) && true) = true; rw [e]; rfl
structure Drawn (good bad1 bad2 : Bool) (n : Int) (b x y : D) : Prop where
  hb : isB b = good
  hn : good = true → b = .int n
  n2 : 2 ≤ n
  x0 : bad1 = false → x = L (ones 2)
  x1 : bad1 = true → isR n x = false
  sx : same2 x x
  y0 : bad2 = false → ∃ j, (j = 0 ∨ j = 1 ∨ j = 3) ∧ y = L (ones j)
  y1 : bad2 = true → isR n y = false
  sy : same2 y y
section
variable {good bad1 bad2 oth : Bool} {n : Int} {b x y t : D} {w : Nat}
theorem nb_is (h : Drawn good bad1 bad2 n b x y) : nb b = bif good then none else some 2002 := by unfold nb; rw [h.hb]
theorem nr_is (h : Drawn good bad1 bad2 n b x y) {z : D} {bad : Bool} (hz : isR n z = !bad) : nr b z = bif good then (bif bad then some 2003 else none) else some 2002 := by
  unfold nr
  rw [h.hb]
  cases good
  · rfl
  · rw [h.hn rfl]
    show (bif isR n z then none else some 2003 : Cd) = _
    rw [hz]
    cases bad <;> rfl
theorem nx_is (h : Drawn good bad1 bad2 n b x y) : nr b x = bif good then (bif bad1 then some 2003 else none) else some 2002 := by
  refine nr_is h ?_
  cases bad1
  · rw [h.x0 rfl]; exact isR_ones h.n2 (by decide)
  · exact h.x1 rfl
theorem ny_is (h : Drawn good bad1 bad2 n b x y) : nr b y = bif good then (bif bad2 then some 2003 else none) else some 2002 := by
  refine nr_is h ?_
  cases bad2
  · obtain ⟨j, hj, e⟩ := h.y0 rfl
    rw [e]; exact isR_ones h.n2 (by omega)
  · exact h.y1 rfl
theorem rx_is (h : Drawn good bad1 bad2 n b x y) : RR b x := by
  intro e
  rw [nx_is h] at e
  cases good
  · cases e
  · cases bad1
    · exact ⟨2, by decide, h.x0 rfl⟩
    · cases e
theorem ry_is (h : Drawn good bad1 bad2 n b x y) : RR b y := by
  intro e
  rw [ny_is h] at e
  cases good
  · cases e
  · cases bad2
    · obtain ⟨j, hj, e⟩ := h.y0 rfl
      exact ⟨j, by omega, e⟩
    · cases e
theorem nf_is (h : Drawn good bad1 bad2 n b x y) (ht : Third w n oth t) (hw : w = 3 ∨ w = 8) : nf b t = bif good then (bif oth then some 2004 else none) else some 2002 := by
  unfold nf
  rw [h.hb]
  cases good
  · rfl
  · rw [h.hn rfl]
    show (bif isF n t then none else some 2004 : Cd) = _
    cases oth
    · have e : ∀ v : Int, 0 ≤ v → v ≤ 1 → isF n (.int v) = true := fun v v0 v1 => by
        have := h.n2
        show (decide (0 ≤ v) && decide (v < n)) = true
        rw [decide_eq_true v0, decide_eq_true (by omega)]; rfl
      rcases (ht.f38 hw).2 rfl with rfl | rfl
      · rw [e 0 (by decide) (by decide)]; rfl
      · rw [e 1 (by decide) (by decide)]; rfl
    · rw [(ht.f38 hw).1 rfl]; rfl
noncomputable abbrev twos : List Int := [1, 2, 5, 6, 7, 9, 10]
noncomputable abbrev dueOf (w : Nat) (good bad1 bad2 oth : Bool) (t : D) : Cd := dueC w good (!bad1 && !(isin twos (.int w) && bad2)) oth t
theorem agree (h : Drawn good bad1 bad2 n b x y) (hw : w ≤ 16) : Third w n oth t → alt (dueOf w good bad1 bad2 oth t) (cannotC w y t) = co b x y t (bif oth then some 2003 else none) w := by
  have hb := nb_is h
  have hx := nx_is h
  have hy := ny_is h
  refine upto16 (P := fun w : Nat => Third w n oth t → alt (dueOf w good bad1 bad2 oth t) (cannotC w y t) = co b x y t (bif oth then some 2003 else none) w) ?_ ?_ ?_ ?_ ?_ ?_ ?_ ?_ ?_ ?_ ?_ ?_ ?_ ?_ ?_ ?_ ?_ w hw
  · intro ht; show _ = alt (nr b x) none
    rw [hx]; cases good
    · rfl
    · cases bad1 <;> rfl
  · intro ht; show _ = alt (nr b x) (alt (nr b y) none)
    rw [hx, hy]; cases good
    · rfl
    · cases bad1
      · cases bad2 <;> rfl
      · rfl
  · intro ht; show _ = alt (nr b x) (alt (nr b y) (below x y))
    rw [hx, hy]; cases good
    · rfl
    · cases bad1
      · cases bad2
        · rw [h.x0 rfl]
          obtain ⟨j, hj, e⟩ := h.y0 rfl
          rw [e]
          rcases hj with rfl | rfl | rfl <;> rfl
        · rfl
      · rfl
  · intro ht; show _ = alt (nr b x) (alt (nf b t) none)
    have h3 := nf_is h ht (.inl rfl); rw [hx, h3]; cases good
    · rfl
    · cases bad1
      · cases oth <;> rfl
      · rfl
  · intro ht; show _ = alt (nr b x) (alt (nc t 0) none)
    have h3 := (ht.f4 rfl).1; rw [hx, h3]; cases good
    · rfl
    · cases bad1
      · cases oth <;> rfl
      · rfl
  · intro ht; show _ = alt (nr b x) (alt (nr b y) none)
    rw [hx, hy]; cases good
    · rfl
    · cases bad1
      · cases bad2 <;> rfl
      · rfl
  · intro ht; show _ = alt (nr b x) (alt (nr b y) (alt (nc t 3) none))
    have h3 := ht.f67 (.inl rfl); rw [hx, hy, h3]; cases good
    · rfl
    · cases bad1
      · cases bad2
        · cases oth <;> rfl
        · rfl
      · rfl
  · intro ht; show _ = alt (nr b x) (alt (nr b y) (alt (nc t 3) none))
    have h3 := ht.f67 (.inr rfl); rw [hx, hy, h3]; cases good
    · rfl
    · cases bad1
      · cases bad2
        · cases oth <;> rfl
        · rfl
      · rfl
  · intro ht; show _ = alt (nr b x) (alt (nf b t) (byF t))
    have h3 := nf_is h ht (.inr rfl); rw [hx, h3]; cases good
    · rfl
    · cases bad1
      · cases oth
        · rcases (ht.f38 (.inr rfl)).2 rfl with rfl | rfl <;> rfl
        · rfl
      · rfl
  · intro ht; show _ = alt (nr b x) (alt (nr b y) (byR x y))
    rw [hx, hy]; cases good
    · rfl
    · cases bad1
      · cases bad2
        · rw [h.x0 rfl]
          obtain ⟨j, hj, e⟩ := h.y0 rfl
          rw [e]
          rcases hj with rfl | rfl | rfl <;> rfl
        · rfl
      · rfl
  · intro ht; show _ = alt (nr b x) (alt (nr b y) none)
    rw [hx, hy]; cases good
    · rfl
    · cases bad1
      · cases bad2 <;> rfl
      · rfl
  · intro ht; show _ = alt (nr b x) (alt (nb t) none)
    have h3 := ht.f11 rfl; rw [hx, h3]; cases good
    · rfl
    · cases bad1
      · cases oth <;> rfl
      · rfl
  · intro ht; show _ = alt (nr b x) none
    rw [hx]; cases good
    · rfl
    · cases bad1 <;> rfl
  · intro ht; show _ = nb b
    rw [hb]; cases good <;> rfl
  · intro ht; show _ = nb b
    rw [hb]; cases good <;> rfl
  · intro ht; show _ = alt (nb b) (ro t)
    have h3 := (ht.f15 rfl).1; rw [hb, h3]; cases good
    · rfl
    · cases oth
      · rfl
      · show alt (bif isin [-1, -7] t then some 2000 else some 2005 : Cd) _ = bif isin [-1, -7] t then some 2000 else some 2005
        cases isin [-1, -7] t <;> rfl
  · intro ht; show _ = alt (nb b) (bif oth then some 2003 else none)
    rw [hb]; cases good
    · rfl
    · cases oth <;> rfl
theorem due_none (h : dueOf w good bad1 bad2 oth t = none) : good = true ∧ (w < 13 → bad1 = false) ∧ (w = 2 ∨ w = 9 → bad2 = false) ∧ (w = 8 → oth = false) := by
  unfold dueOf dueC at h
  cases good
  · cases h
  · refine ⟨rfl, fun hw => ?_, fun hw => ?_, fun hw => ?_⟩
    · cases bad1
      · rfl
      · replace h : (bif decide ((w : Int) < 13) && true then some 2003 else _ : Cd) = none := h
        rw [decide_eq_true (by omega)] at h; cases h
    · cases bad2
      · rfl
      · cases bad1 <;> rcases hw with rfl | rfl <;> cases h
    · cases oth
      · rfl
      · subst hw
        cases bad1 <;> cases h
theorem okC_due : okC (alt (dueOf w good bad1 bad2 oth t) (cannotC w y t)) :=
  okC_alt (okC_if _ (by decide : 2000 ≤ 2002 ∧ 2002 ≤ 2005) (okC_if _ (by decide : 2000 ≤ 2003 ∧ 2003 ≤ 2005) (okC_if _ (by decide : 2000 ≤ 2004 ∧ 2004 ≤ 2005) (okC_if _ (by decide : 2000 ≤ 2005 ∧ 2005 ≤ 2005) (okC_if _ (by decide : 2000 ≤ 2002 ∧ 2002 ≤ 2005) (okC_if _ (okC_if _ (by decide : 2000 ≤ 2000 ∧ 2000 ≤ 2005) (by decide : 2000 ≤ 2005 ∧ 2005 ≤ 2005)) (okC_if _ (by decide : 2000 ≤ 2003 ∧ 2003 ≤ 2005) trivial)))))))
    (okC_if _ (by decide : 2000 ≤ 2000 ∧ 2000 ≤ 2005) (okC_if _ (by decide : 2000 ≤ 2001 ∧ 2001 ≤ 2005) trivial))
end
theorem word_is {c : Cd} (h : okC c) : Smooth (.str (st (word c))) ∧ PyData.eqv (.str (st (word c))) (.str (st [])) = c.isNone := by
  have key : ∀ l : List Nat, (l.all fun c => decide (c < 0x110000)) = true → l ≠ [] → Smooth (.str (st l)) ∧ PyData.eqv (.str (st l)) (.str (st [])) = false := fun l h1 h2 => ⟨plain_str h1, eqv_ne h2⟩
  cases c with
  | none => exact ⟨plain_str rfl, (plain_str (l := []) rfl).eq⟩
  | some c =>
    obtain ⟨k, rfl⟩ : ∃ k, c = 2000 + k := ⟨c - 2000, by have := h.1; omega⟩
    have hk : k ≤ 5 := by have := h.2; omega
    match k, hk with
    | 0, _ => exact key _ rfl (by decide)
    | 1, _ => exact key _ rfl (by decide)
    | 2, _ => exact key _ rfl (by decide)
    | 3, _ => exact key _ rfl (by decide)
    | 4, _ => exact key _ rfl (by decide)
    | 5, _ => exact key _ rfl (by decide)
end Mine
set_option Elab.async false
namespace Mine
open PySem
local macro_rules | `(tactic| walk_at "w") => `(tactic| conv => whnf)
variable {Φ : Calls}

noncomputable def Hold (ρ : Vars) (i : Nat) (d : D) : Prop := ρ[i]? = some (.val d) ∨ ρ[i]? = some (.own d)
theorem rd_hold {ρ : Vars} {i : Nat} {d : D} {K : D → Fg → Prop} (h : Hold ρ i d) (hk : ∀ f, K d f) : rd ρ i K := by
  unfold rd
  rcases h with h | h <;> rw [h] <;> exact hk _
theorem hold_set {ρ : Vars} {i j : Nat} {d : D} {c : Cell} (h : Hold ρ i d) (hc : j ≠ i) : Hold (ρ.set j c) i d := by
  unfold Hold
  rw [List.getElem?_set_ne hc]; exact h
theorem dem_len : ∀ (u : List Nat) (ρ : Vars), (dem ρ u).length = ρ.length
  | [], _ => rfl
  | j :: u, ρ => by
    show (match ρ[j]? with | some (.own d) => dem (ρ.set j (.val d)) u | _ => dem ρ u).length = _
    split
    · rw [dem_len u, List.length_set]
    · exact dem_len u ρ
theorem dem_hold {i : Nat} {d : D} : ∀ (u : List Nat) {ρ : Vars}, Hold ρ i d → Hold (dem ρ u) i d
  | [], _, h => h
  | j :: u, ρ, h => by
    show Hold (match ρ[j]? with | some (.own d) => dem (ρ.set j (.val d)) u | _ => dem ρ u) i d
    split
    · rename_i e hj
      refine dem_hold u ?_
      by_cases q : j = i
      · subst q
        have hl : j < ρ.length := (List.getElem?_eq_some_iff.mp hj).1
        rcases h with h | h <;> rw [hj] at h <;> cases h
        exact .inl (List.getElem?_set_self hl)
      · exact hold_set h q
    · exact dem_hold u h
structure St (ρ : Vars) (vs : List (Option D)) : Prop where
  len : ρ.length = vs.length
  hold : ∀ {i d}, vs[i]? = some (some d) → Hold ρ i d
theorem St.asg {ρ : Vars} {vs : List (Option D)} (h : St ρ vs) (j : Nat) (e : D) (f : Fg) : St (asg ρ j e f) (vs.set j (some e)) := by
  have key : ∀ {ρ' : Vars} {c : Cell}, ρ'.length = ρ.length → (∀ {i d}, Hold ρ i d → Hold ρ' i d) → (c = .val e ∨ c = .own e) → St (ρ'.set j c) (vs.set j (some e)) := by
    intro ρ' c hl hh hc
    refine ⟨by rw [List.length_set, List.length_set, hl, h.len], fun {i d} hi => ?_⟩
    by_cases q : j = i
    · subst q
      have hj : j < vs.length := by have := (List.getElem?_eq_some_iff.mp hi).1; rwa [List.length_set] at this
      rw [List.getElem?_set_self hj] at hi
      cases hi
      have hj' : j < ρ'.length := by rw [hl, h.len]; exact hj
      unfold Hold
      rw [List.getElem?_set_self hj']
      rcases hc with rfl | rfl
      · exact .inl rfl
      · exact .inr rfl
    · rw [List.getElem?_set_ne q] at hi
      exact hold_set (hh (h.hold hi)) q
  unfold Mine.asg
  split
  · exact key rfl (fun h => h) (.inl rfl)
  · split
    · exact key rfl (fun h => h) (.inr rfl)
    · exact key (dem_len _ _) (fun h => dem_hold _ h) (.inl rfl)
noncomputable def Ev (Φ : Calls) (ρ : Vars) (e : X) (G : D → Prop) : Prop := ∀ P : D → Fg → Prop, (∀ d f, G d → P d f) → wE Φ ρ e P
noncomputable abbrev Is (Φ : Calls) (ρ : Vars) (e : X) (d : D) : Prop := Ev Φ ρ e (· = d)
noncomputable def EvL (Φ : Calls) (ρ : Vars) (xs : Xs) (ds : List D) : Prop := ∀ P : List D → Fg → Prop, (∀ f, P ds f) → wL Φ ρ xs P
section
variable {ρ : Vars} {vs : List (Option D)} {i : Nat} {d : D} {x y : X} {xs : Xs} {ds : List D} {p q : Bool} {G : D → Prop}
theorem ev_var (h : St ρ vs) (hi : vs[i]? = some (some d)) : Is Φ ρ (.var i) d := fun P hp => rd_hold (K := P) (h.hold hi) fun f => hp d f rfl
theorem evL_nil : EvL Φ ρ .nil [] := fun _ h => h _
theorem evL_cons (hx : Is Φ ρ x d) (hr : EvL Φ ρ xs ds) : EvL Φ ρ (.cons x xs) (d :: ds) := fun P h => hx _ fun _ f e => by subst e; exact hr _ fun g => h _
theorem ev_has {f : Nat} {sp : Sp} (H : Has Φ f sp) (ha : EvL Φ ρ xs ds) (hs : sp ds (.ok fun d _ => G d)) : Ev Φ ρ (.call f xs) G := fun P h => ha _ fun _ => H.ok hs fun d _ g => h d _ g
theorem ev_not (h : Is Φ ρ x (.bool p)) : Is Φ ρ (.not x) (.bool (!p)) := fun P hp => h _ fun _ f e => by subst e; exact hp _ _ rfl
theorem ev_and (h1 : Is Φ ρ x (.bool p)) (h2 : p = true → Is Φ ρ y (.bool q)) : Is Φ ρ (.and (.cons x (.cons y .nil))) (.bool (p && q)) := fun P hp => h1 _ fun _ f e => by
  subst e
  cases p
  · exact hp _ _ rfl
  · exact h2 rfl _ fun d f e => hp d f e
theorem ev_orF (h1 : Is Φ ρ x (.bool false)) (h2 : Ev Φ ρ (.or (.cons y xs)) G) : Ev Φ ρ (.or (.cons x (.cons y xs))) G := fun P hp => h1 _ fun _ f e => by
  subst e
  exact h2 P hp
theorem ev_or1 (h : Ev Φ ρ x G) : Ev Φ ρ (.or (.cons x .nil)) G := fun P hp => h P hp
theorem eqK_of {x y : D} {K : Bool → Prop} (hw : isW x = false) (h1 : SeqAt.shaped x = true) (h2 : SeqAt.shaped y = true) (h : K (PyData.eqv x y)) : eqK x y K := by
  cases x with
  | int n => cases hw
  | _ => exact ⟨h1, h2, h⟩
theorem ev_eq {a b : D} (h1 : Is Φ ρ x a) (h2 : Is Φ ρ y b) (hw : isW a = false) (s1 : SeqAt.shaped a = true) (s2 : SeqAt.shaped b = true) : Is Φ ρ (.cmp .eq x y) (.bool (PyData.eqv a b)) := fun P hp => h1 _ fun _ f e => by
  subst e
  refine h2 _ fun _ f e => ?_
  subst e
  exact eqK_of (K := fun r => P (.bool r) ff) hw s1 s2 (hp _ _ rfl)
theorem ev_ne {a b : D} (h1 : Is Φ ρ x a) (h2 : Is Φ ρ y b) (hw : isW a = false) (s1 : SeqAt.shaped a = true) (s2 : SeqAt.shaped b = true) : Is Φ ρ (.cmp .ne x y) (.bool (!PyData.eqv a b)) := fun P hp => h1 _ fun _ f e => by
  subst e
  refine h2 _ fun _ f e => ?_
  subst e
  exact eqK_of (K := fun r => P (.bool (!r)) ff) hw s1 s2 (hp _ _ rfl)
theorem ev_isb (h : Is Φ ρ x d) : Is Φ ρ (.isinst x .bool) (.bool (isTy .bool d)) := fun P hp => h _ fun _ f e => by subst e; exact hp _ _ rfl
theorem ev_str {s : Str} : Is Φ ρ (.str s) (.str s) := fun _ h => h _ _ rfl
theorem ev_int {n : Int} : Is Φ ρ (.int n) (.int n) := fun _ h => h _ _ rfl
theorem ev_list (h : EvL Φ ρ xs ds) (hl : ds.length ≤ sizeLid) : Is Φ ρ (.list xs) (.list ds) := fun P hp => h _ fun f => ⟨hl, hp _ f rfl⟩
theorem test_of {Z : Nat → Prop} (h : Is Φ ρ x (.bool p)) : Test Φ ρ Z x p := fun P hp => by
  have : wT Φ ρ x P := h _ fun _ f e => by subst e; exact hp
  unfold orX
  cases noX x
  · exact .inr this
  · exact this
end
theorem asg_step {ρ : Vars} {vs : List (Option D)} {i : Nat} {e : X} {r : Ss} {Z : Nat → Prop} {Q : Fl → Vars → Prop} {G : D → Prop} (h : St ρ vs) (he : Ev Φ ρ e G) (hr : ∀ d ρ', G d → St ρ' (vs.set i (some d)) → xSs Φ Z r Q ρ') : xSs Φ Z (.cons (.assign i e) r) Q ρ :=
  he _ fun d f g => hr d _ g (h.asg i d f)
theorem ite_step {ρ : Vars} {Z : Nat → Prop} {t : X} {p : Bool} {a r : Ss} {Q : Fl → Vars → Prop} (ht : Test Φ ρ Z t p) (ha : p = true → xSs Φ Z a (fun fl σ => match fl with | .next => xSs Φ Z r Q σ | .ret d fr => Q (.ret d fr) σ) ρ) (hr : p = false → xSs Φ Z r Q ρ) :
    xSs Φ Z (.cons (.ite t a .nil) r) Q ρ := by
  refine ht _ ?_
  cases p
  · exact hr rfl
  · exact ha rfl
structure Helps (Φ : Calls) : Prop where
  draw : Has Φ 50 sp_draw
  due : Has Φ 51 sp_due
  told : Has Φ 53 sp_told
  copy : Has Φ 54 sp_copy
  badRow : Has Φ 55 sp_bad_row
  third : Has Φ 56 sp_third
  cannot : Has Φ 57 sp_cannot
  answers : Has Φ 58 sp_answers
  isBase : Has Φ 1 sp_is_base
  cs : Cs Φ
noncomputable def drp : Nat → Ss → Ss
  | 0, s => s
  | k + 1, .cons _ r => drp k r
  | _ + 1, .nil => .nil
noncomputable abbrev Yea : O := tells (.bool true)
section
variable {ns : List Int} {w : Nat} {cell : Int} {b x y : D} {good bad1 bad2 : Bool} {n : Int}
theorem law_end (H : Helps Φ) {ρ : Vars} {t : D} {oth : Bool} {tk hs : D} {c : Cd} (hw : w ≤ 16) (dr : Drawn good bad1 bad2 n b x y) (ht : Third w n oth t) (hc : c = alt (dueOf w good bad1 bad2 oth t) (cannotC w y t))
    (st : St ρ [some (L ns), some (.int w), some (.int cell), some b, some (.bool good), some (.int n), some x, some y, some tk, some (.bool bad1), some (.bool bad2), some t, some hs, some (.bool oth), some (.str (Mine.st (word c))), none, none, none]) :
    xSs Φ Yea.Z (drp 15 b_law_14) (retPost Yea.K) ρ := by
  have hco := agree dr hw ht
  rw [← hc] at hco
  have okc : okC c := by rw [hc]; exact okC_due
  obtain ⟨pw, ew⟩ := word_is okc
  have sw : SeqAt.shaped (.str (Mine.st (word c))) = true := by
    unfold SeqAt.shaped; rw [pw.lay]; rfl
  have dn : c = none → nb b = none ∧ (w = 13 → isR (toI b) x = !bad1) ∧ (w = 14 → isF (toI b) t = !oth) := by
    intro e
    have hd : dueOf w good bad1 bad2 oth t = none := by
      rw [hc] at e
      cases q : dueOf w good bad1 bad2 oth t with
      | none => rfl
      | some k => rw [q] at e; cases e
    have hg := (due_none hd).1
    refine ⟨by rw [nb_is dr, hg]; rfl, fun _ => ?_, fun h14 => ?_⟩
    · rw [dr.hn hg]
      cases bad1
      · rw [dr.x0 rfl]; exact isR_ones dr.n2 (by decide)
      · exact dr.x1 rfl
    · rw [dr.hn hg]; exact ht.f14 h14
  refine ite_step (p := false) (test_of ?_) (fun h => nomatch h) fun _ => ?_
  · have e1 : Is Φ ρ (.cmp .eq (.var 14) (.str ⟨#[]⟩)) (.bool c.isNone) := ew ▸ ev_eq (ev_var st rfl) ev_str rfl sw (shp (l := []) rfl)
    have e2 := ev_and (q := false) (y := .not (.call 58 (.cons (.var 1) (.cons (.var 3) (.cons (.var 6) (.cons (.var 11) (.cons (.not (.var 9)) (.cons (.var 13) .nil)))))))) e1 fun q => by
      obtain ⟨d1, d2, d3⟩ := dn (Option.isNone_iff_eq_none.mp q)
      exact ev_not (p := true) (ev_has H.answers (evL_cons (ev_var st rfl) (evL_cons (ev_var st rfl) (evL_cons (ev_var st rfl) (evL_cons (ev_var st rfl) (evL_cons (ev_not (ev_var st rfl)) (evL_cons (ev_var st rfl) evL_nil)))))) ⟨w, b, x, t, !bad1, oth, rfl, d1, fun e => d2 (by omega), fun e => d3 (by omega), rfl⟩)
    rw [Bool.and_false] at e2
    exact e2
  refine asg_step (G := (· = .bool good)) st (ev_has H.isBase (evL_cons (ev_var st rfl) evL_nil) ⟨b, rfl, by rw [dr.hb]⟩) ?_
  rintro _ ρ rfl st
  refine ite_step (p := false) (test_of (ev_orF ?_ (ev_orF ?_ (ev_orF ?_ (ev_or1 ?_))))) (fun h => nomatch h) fun _ => ?_
  · exact fun P h => H.cs.c0 ⟨rfl, h _ _ rfl⟩
  · exact fun P h => H.cs.c1 ⟨rfl, h _ _ rfl⟩
  · exact ev_not (p := true) (ev_isb (d := .bool good) (ev_var st rfl))
  · have e : (!PyData.eqv (.bool good) (.bool good)) = false := by cases good <;> rfl
    exact e ▸ ev_ne (ev_var st rfl) (ev_var st rfl) rfl rfl rfl
  refine asg_step (G := (· = .list [x, y])) st (ev_list (evL_cons (ev_has H.copy (evL_cons (ev_var st rfl) evL_nil) ⟨x, rfl, rfl⟩) (evL_cons (ev_has H.copy (evL_cons (ev_var st rfl) evL_nil) ⟨y, rfl, rfl⟩) evL_nil)) (show 2 ≤ sizeLid by decide)) ?_
  rintro _ ρ rfl st
  refine asg_step (G := (· = .str (Mine.st (word c)))) st (ev_has H.told (evL_cons (ev_var st rfl) (evL_cons (ev_var st rfl) (evL_cons (ev_var st rfl) (evL_cons (ev_var st rfl) (evL_cons (ev_var st rfl) evL_nil)))))
    ⟨w, b, x, y, t, bif oth then some 2003 else none, rfl, hw, rx_is dr, ry_is dr, ⟨fun e => (ht.f4 e).2, fun e => (ht.f15 e).2.2, ht.f16⟩, by rw [← hco]⟩) ?_
  rintro _ ρ rfl st
  have e1 := ev_eq (Φ := Φ) (ev_var (i := 17) st rfl) (ev_var (i := 14) st rfl) rfl sw sw
  rw [pw.eq] at e1
  refine ev_and (q := true) e1 (fun _ P hp => ?_) _ fun _ _ e => e
  exact rd_hold (st.hold (i := 16) rfl) fun _ => rd_hold (st.hold (i := 6) rfl) fun _ => rd_hold (st.hold (i := 7) rfl) fun _ => ⟨⟨x, y, rfl, dr.sx, dr.sy⟩, hp _ _ rfl⟩
end
end Mine
set_option Elab.async false
namespace Mine
open PySem
variable {Φ : Calls}

section
variable {ρ : Vars} {vs : List (Option D)} {d : D} {x y : X} {xs : Xs} {ds : List D} {p q : Bool} {G : D → Prop} {a k : Int}
noncomputable def Own (Φ : Calls) (ρ : Vars) (e : X) (G : D → Prop) : Prop := ∀ P : D → Fg → Prop, (∀ d f, f.sh = false → f.u = [] → G d → P d f) → wE Φ ρ e P
theorem Own.ev (h : Own Φ ρ x G) : Ev Φ ρ x G := fun P hp => h P fun d f _ _ g => hp d f g
theorem ev_mod (h : Is Φ ρ x (.int a)) (hk : k ≠ 0) : Is Φ ρ (.bin .mod x (.int k)) (.int (a.fmod k)) := fun P hp => h _ fun _ f e => by subst e; exact And.intro hk (hp _ _ rfl)
theorem own_mod (h : Is Φ ρ x (.int a)) (hk : k ≠ 0) : Own Φ ρ (.bin .mod x (.int k)) (· = .int (a.fmod k)) := fun P hp => h _ fun _ f e => by subst e; exact And.intro hk (hp _ ff rfl rfl rfl)
theorem ev_fdiv (h : Is Φ ρ x (.int a)) (hk : k ≠ 0) : Is Φ ρ (.bin .fdiv x (.int k)) (.int (a.fdiv k)) := fun P hp => h _ fun _ f e => by subst e; exact And.intro hk (hp _ _ rfl)
theorem ev_addl (h : Is Φ ρ x (.int a)) : Is Φ ρ (.bin .add (.int k) x) (.int (k + a)) := fun P hp => h _ fun _ f e => by subst e; exact hp _ _ rfl
theorem own_eqi (h : Is Φ ρ x (.int a)) : Own Φ ρ (.cmp .eq x (.int k)) (· = .bool (decide (a = k))) := fun P hp => h _ fun _ f e => by subst e; exact hp _ ff rfl rfl rfl
theorem ev_nei (h : Is Φ ρ x (.int a)) : Is Φ ρ (.cmp .ne x (.int k)) (.bool (!decide (a = k))) := fun P hp => h _ fun _ f e => by subst e; exact hp _ ff rfl
theorem ev_ite {t : X} (ht : Is Φ ρ t (.bool p)) (h1 : p = true → Is Φ ρ x d) (h2 : p = false → Is Φ ρ y d) : Is Φ ρ (.ite t x y) d := fun P hp => ht _ fun _ f e => by
  subst e
  cases p
  · exact h2 rfl P hp
  · exact h1 rfl P hp
theorem ev_in {js : List Int} (h : Is Φ ρ x d) (hs : SeqAt.shaped d = true) (ht : EvL Φ ρ xs (js.map .int)) (hl : js.length ≤ sizeLid) : Is Φ ρ (.cmp .isin x (.tup xs)) (.bool (isin js d)) := fun P hp => h _ fun _ f e => by
  subst e
  exact ht _ fun f => And.intro (by rw [List.length_map]; exact hl) (And.intro hs (Exists.intro js (And.intro rfl (hp _ _ rfl))))
theorem allP_mono {P R : D → Prop} (h : ∀ d, P d → R d) : ∀ {xs : List D}, allP P xs → allP R xs
  | [], _ => trivial
  | _ :: _, h' => ⟨h _ h'.1, allP_mono h h'.2⟩
theorem own_idx {c : Int} {i : X} (hx : ∀ P : List D → Fg → Prop, P ds ff → wL Φ ρ xs P) (hi : Is Φ ρ i (.int (c.fmod k))) (hl : ds.length ≤ sizeLid) (hk : (ds.length : Int) = k) (h1 : 0 < k) (h2 : k ≤ 100) (hg : allP G ds) : Own Φ ρ (.idx (.list xs) i) G := fun P hp =>
  hx _ (And.intro hl (hi _ fun _ f e => by
    subst e
    refine picks hk h1 h2 (allP_mono (fun d g => ?_) hg)
    by_cases q : imm d
    · rw [if_pos q]; exact hp d ff rfl rfl g
    · rw [if_neg q]; exact hp d ff rfl rfl g))
theorem pair_step {i j : Nat} {r : Ss} {Z : Nat → Prop} {Q : Fl → Vars → Prop} {G' : D → Prop} (h : St ρ vs) (h1 : Own Φ ρ x G) (h2 : Own Φ ρ y G') (hr : ∀ d d' ρ', G d → G' d' → St ρ' ((vs.set j (some d')).set i (some d)) → xSs Φ Z r Q ρ') : xSs Φ Z (.cons (.pair i j x y) r) Q ρ :=
  h1 _ fun d f e1 e2 g => h2 _ fun d' f' e3 e4 g' => ⟨e1, e2, e3, e4, hr d d' _ g g' ((h.asg j d' ff).asg i d ff)⟩
end
section
variable {ns : List Int} {w : Nat} {cell : Int} {b x y : D} {good bad1 bad2 : Bool} {n : Int} {ρ : Vars}
theorem draw_is (H : Helps Φ) (hn : ns.length ≤ 63) {vs : List (Option D)} (st : St ρ vs) (h0 : vs[0]? = some (some (L ns))) (k : Nat) (hk : k ≤ 1000) : Is Φ ρ (.call 50 (.cons (.var 0) (.cons (.int k) .nil))) (.int (ns.getD k 0)) :=
  ev_has H.draw (evL_cons (ev_var st h0) (evL_cons ev_int evL_nil)) ⟨ns, k, rfl, hk, hn, rfl⟩
theorem law_mid (H : Helps Φ) (hn : ns.length ≤ 63) (hw : w ≤ 16) (dr : Drawn good bad1 bad2 n b x y)
    (st : St ρ [some (L ns), some (.int w), some (.int cell), some b, some (.bool good), some (.int n), some x, some y, some (.bool (isin twos (.int w))), some (.bool bad1), some (.bool bad2), none, none, none, none, none, none, none]) :
    xSs Φ Yea.Z (drp 10 b_law_14) (retPost Yea.K) ρ := by
  refine asg_step (G := Third w n (decide ((ns.getD 4 0).fmod 2 = 1))) st (ev_has H.third (evL_cons (ev_var st rfl) (evL_cons (ev_var st rfl) (evL_cons (draw_is H hn st rfl 4 (by decide)) evL_nil))) ⟨w, n, _, rfl, hw, dr.n2, rfl⟩) ?_
  intro t ρ ht st
  refine asg_step (G := (· = .bool (!bad1 && !(isin twos (.int w) && bad2)))) st (ev_and (ev_not (ev_var st rfl)) fun _ => ev_not (ev_and (ev_var st rfl) fun _ => ev_var st rfl)) ?_
  rintro _ ρ rfl st
  refine asg_step (G := (· = .bool (decide ((ns.getD 4 0).fmod 2 = 1)))) st (own_eqi (ev_mod (draw_is H hn st rfl 4 (by decide)) (by decide))).ev ?_
  rintro _ ρ rfl st
  generalize decide ((ns.getD 4 0).fmod 2 = 1) = oth at ht st
  refine asg_step (G := (· = .str (Mine.st (word (dueOf w good bad1 bad2 oth t))))) st (ev_has H.due (evL_cons (ev_var st rfl) (evL_cons (ev_var st rfl) (evL_cons (ev_var st rfl) (evL_cons (ev_var st rfl) (evL_cons (ev_var st rfl) evL_nil))))) ⟨w, good, _, t, oth, rfl, fun e => (ht.f15 (by omega)).2.1, rfl⟩) ?_
  rintro _ ρ rfl st
  cases hd : dueOf w good bad1 bad2 oth t with
  | some c =>
    rw [hd] at st
    have ok := okC_due (w := w) (good := good) (bad1 := bad1) (bad2 := bad2) (oth := oth) (t := t) (y := y)
    rw [hd] at ok
    obtain ⟨pw, ew⟩ := word_is (c := some c) ok
    have sw : SeqAt.shaped (.str (Mine.st (word (some c)))) = true := by unfold SeqAt.shaped; rw [pw.lay]; rfl
    refine ite_step (p := false) (test_of ?_) (fun h => nomatch h) fun _ => law_end H hw dr ht (by rw [hd]; rfl) st
    have e := ev_eq (Φ := Φ) (ev_var (i := 14) st rfl) (ev_str (s := ⟨#[]⟩)) rfl sw (shp (l := []) rfl)
    rw [show PyData.eqv (.str (Mine.st (word (some c)))) (.str ⟨#[]⟩) = false from ew] at e
    exact e
  | none =>
    rw [hd] at st
    obtain ⟨g1, g2, g3, g4⟩ := due_none hd
    refine ite_step (p := true) (test_of ?_) (fun _ => ?_) (fun h => nomatch h)
    · exact (plain_str (l := []) rfl).eq ▸ ev_eq (ev_var st rfl) ev_str rfl (shp (l := []) rfl) (shp (l := []) rfl)
    refine asg_step (G := (· = .str (Mine.st (word (cannotC w y t))))) st (ev_has H.cannot (evL_cons (ev_var st rfl) (evL_cons (ev_var st rfl) (evL_cons (ev_var st rfl) evL_nil))) ⟨w, y, t, rfl, fun e => ?_, fun e => ?_, rfl⟩) ?_
    · obtain ⟨j, hj, e⟩ := dr.y0 (g3 (by omega))
      exact ⟨j, by omega, e⟩
    · have w8 : w = 8 := by omega
      rcases (ht.f38 (.inr w8)).2 (g4 w8) with rfl | rfl <;> rfl
    rintro _ ρ rfl st
    exact law_end H hw dr ht (by rw [hd]; rfl) st
theorem same_ones {j : Nat} : same2 (L (ones j)) (L (ones j)) := same_list iz_plain
theorem law_rows (H : Helps Φ) (hn : ns.length ≤ 63) (hw : w ≤ 16) (hb : isB b = good) (hg : good = true → b = .int n) (n2 : 2 ≤ n) (y0 : ∃ j, (j = 0 ∨ j = 1 ∨ j = 3) ∧ y = L (ones j))
    (st : St ρ [some (L ns), some (.int w), some (.int cell), some b, some (.bool good), some (.int n), some (L (ones 2)), some y, some (.bool (isin twos (.int w))), some (.bool bad1), some (.bool bad2), none, none, none, none, none, none, none]) :
    xSs Φ Yea.Z (drp 8 b_law_14) (retPost Yea.K) ρ := by
  have sy : same2 y y := by obtain ⟨j, _, rfl⟩ := y0; exact same_ones
  have second : ∀ (x : D) (ρ : Vars), (bad1 = false → x = L (ones 2)) → (bad1 = true → isR n x = false) → same2 x x →
      St ρ [some (L ns), some (.int w), some (.int cell), some b, some (.bool good), some (.int n), some x, some y, some (.bool (isin twos (.int w))), some (.bool bad1), some (.bool bad2), none, none, none, none, none, none, none] → xSs Φ Yea.Z (drp 9 b_law_14) (retPost Yea.K) ρ := by
    intro x ρ x0 x1 sx st
    refine ite_step (test_of (ev_var st rfl)) (fun e => ?_) fun e => law_mid H hn hw ⟨hb, hg, n2, x0, x1, sx, fun _ => y0, fun q => (by rw [e] at q; cases q), sy⟩ st
    refine asg_step (G := fun d => isR n d = false ∧ same2 d d) st (ev_has H.badRow (evL_cons (ev_var st rfl) (evL_cons (ev_fdiv (draw_is H hn st rfl 3 (by decide)) (by decide)) evL_nil)) ⟨n, _, rfl, rfl⟩) ?_
    rintro y' ρ ⟨h1, h2⟩ st
    exact law_mid H hn hw ⟨hb, hg, n2, x0, x1, sx, fun q => (by rw [e] at q; cases q), fun _ => h1, h2⟩ st
  refine ite_step (test_of (ev_var st rfl)) (fun e => ?_) fun e => second _ _ (fun _ => rfl) (fun q => (by rw [e] at q; cases q)) same_ones st
  refine asg_step (G := fun d => isR n d = false ∧ same2 d d) st (ev_has H.badRow (evL_cons (ev_var st rfl) (evL_cons (ev_fdiv (draw_is H hn st rfl 2 (by decide)) (by decide)) evL_nil)) ⟨n, _, rfl, rfl⟩) ?_
  rintro x' ρ ⟨h1, h2⟩ st
  exact second x' ρ (fun q => (by rw [e] at q; cases q)) (fun _ => h1) h2 st
theorem law_b (H : Helps Φ) (hn : ns.length ≤ 63) (hw : w ≤ 16) (hb : isB b = good) (hg : good = true → ∃ n, 2 ≤ n ∧ b = .int n)
    (st : St ρ [some (L ns), some (.int w), some (.int cell), some b, some (.bool good), none, none, none, none, none, none, none, none, none, none, none, none, none]) :
    xSs Φ Yea.Z (drp 4 b_law_14) (retPost Yea.K) ρ := by
  obtain ⟨n, n2, h1, h2⟩ : ∃ n, 2 ≤ n ∧ (good = true → b = .int n) ∧ (good = false → n = 10) := by
    cases good
    · exact ⟨10, by decide, fun h => (nomatch h), fun _ => rfl⟩
    · obtain ⟨n, h, e⟩ := hg rfl
      exact ⟨n, h, fun _ => e, fun h => nomatch h⟩
  refine asg_step (G := (· = .int n)) st (ev_ite (ev_var st rfl) (fun e => h1 e ▸ ev_var st rfl) fun e => h2 e ▸ ev_int) ?_
  rintro _ ρ rfl st
  refine pair_step (G := (· = L (ones 2))) (G' := fun y => ∃ j, (j = 0 ∨ j = 1 ∨ j = 3) ∧ y = L (ones j)) st (fun P h => And.intro (by decide) (h _ _ rfl rfl rfl))
    (own_idx (ds := [L (ones 1), L (ones 0), L (ones 3)]) ?_ (ev_mod (ev_fdiv (draw_is H hn st rfl 3 (by decide)) (by decide)) (by decide)) (show 3 ≤ sizeLid by decide) rfl (by decide) (by decide) ⟨⟨1, .inr (.inl rfl), rfl⟩, ⟨0, .inl rfl, rfl⟩, ⟨3, .inr (.inr rfl), rfl⟩, trivial⟩) ?_
  · exact fun P h => And.intro (by decide) (And.intro (by decide) (And.intro (by decide) h))
  rintro _ y ρ rfl y0 st
  refine asg_step (G := (· = .bool (isin twos (.int w)))) st (ev_in (js := twos) (ev_var st rfl) rfl (fun P h => h _) (by decide)) ?_
  rintro _ ρ rfl st
  refine pair_step st (own_eqi (ev_mod (draw_is H hn st rfl 2 (by decide)) (by decide))) (own_eqi (ev_mod (draw_is H hn st rfl 3 (by decide)) (by decide))) ?_
  rintro _ _ ρ rfl rfl st
  exact law_rows H hn hw hb h1 n2 y0 st
end
theorem st_start (d : D) (m : Nat) : St (startVars [d] (m + 1)) (some d :: List.replicate m none) := by
  refine ⟨by show (List.length (Cell.val d :: List.replicate m Cell.unset)) = _; rw [List.length_cons, List.length_cons, List.length_replicate, List.length_replicate], fun {i e} h => ?_⟩
  cases i with
  | zero => cases h; exact .inl rfl
  | succ i =>
    replace h : (List.replicate m none)[i]? = some (some e) := h
    cases List.eq_of_mem_replicate (List.mem_of_getElem? h)
noncomputable def sp_law : Sp := fun ds o => ∃ ns, ds = [L ns] ∧ ns.length ≤ 63 ∧ o = Yea
theorem y_law (H : Helps Φ) : Yes Φ b_law_14 1 18 sp_law := by
  rintro _ _ ⟨ns, rfl, hn, rfl⟩
  refine ⟨rfl, ?_⟩
  have st := st_start (L ns) 17
  have dr : ∀ (ρ : Vars) (vs : List (Option D)) (k : Nat), St ρ vs → vs[0]? = some (some (L ns)) → k ≤ 1000 → Own Φ ρ (.call 50 (.cons (.var 0) (.cons (.int k) .nil))) (· = .int (ns.getD k 0)) := fun ρ vs k st h0 hk P hp =>
    (evL_cons (ev_var st h0) (evL_cons ev_int evL_nil)) _ fun _ => H.draw.ok ⟨ns, k, rfl, hk, hn, rfl⟩ fun d fr e => by rw [e]; exact hp _ _ rfl rfl rfl
  refine pair_step (G := (· = .int ((ns.getD 0 0).fmod 17))) st (own_mod (draw_is H hn st rfl 0 (by decide)) (by decide)) (dr _ _ 1 st rfl (by decide)) ?_
  rintro _ _ ρ rfl rfl st
  obtain ⟨w1, w2⟩ := fmod_lo (ns.getD 0 0) (k := 17) (by decide)
  obtain ⟨w, hw⟩ : ∃ w : Nat, (ns.getD 0 0).fmod 17 = w := ⟨((ns.getD 0 0).fmod 17).toNat, by omega⟩
  rw [hw] at st w2
  generalize ns.getD 1 0 = cell at st
  obtain ⟨n1, n2⟩ := fmod_lo (cell.fdiv 10) (k := 999999) (by decide)
  refine asg_step (G := (· = .int (2 + (cell.fdiv 10).fmod 999999))) st (ev_addl (ev_mod (ev_fdiv (ev_var st rfl) (by decide)) (by decide))) ?_
  rintro _ ρ rfl st
  refine asg_step (G := (· = .bool (!decide (cell.fmod 10 = 3)))) st (ev_nei (ev_mod (ev_var st rfl) (by decide))) ?_
  rintro _ ρ rfl st
  generalize (!decide (cell.fmod 10 = 3)) = good at st
  refine ite_step (test_of (ev_not (ev_var st rfl))) (fun e => ?_) fun e => ?_
  · have hg : good = false := by cases good; rfl; cases e
    refine asg_step (G := fun d => isB d = false) st (Own.ev (own_idx (G := fun d => isB d = false) (ds := [.int 1, .int 0, .int (-5), .int 1000001, .bool true, .str ⟨#[49, 48]⟩, .none, .list [.int 10], .int 1000000000]) (c := cell.fdiv 10) (k := 9) ?_ (ev_mod (ev_fdiv (ev_var st rfl) (show (10 : Int) ≠ 0 by decide)) (by decide)) (show 9 ≤ sizeLid by decide) rfl (by decide) (by decide) ⟨rfl, rfl, rfl, rfl, rfl, rfl, rfl, rfl, rfl, trivial⟩)) ?_
    · exact fun P h => And.intro (by decide) h
    intro b ρ hb st
    exact law_b H hn (by omega) (by rw [hb, hg]) (fun q => by rw [hg] at q; cases q) st
  · have hg : good = true := by cases good; cases e; rfl
    refine law_b H hn (by omega) ?_ (fun _ => ⟨_, ?_, rfl⟩) st
    · rw [hg]
      show (decide (2 ≤ 2 + (cell.fdiv 10).fmod 999999) && decide (2 + (cell.fdiv 10).fmod 999999 ≤ 1000000)) = true
      rw [decide_eq_true (by omega), decide_eq_true (by omega)]; rfl
    · omega
end Mine
set_option Elab.async false
namespace Mine
open PySem

noncomputable def Exc (sp : Sp) : Prop := ∀ c ds, sp ds (.ex c) → 2000 ≤ c ∧ c ≤ 2005
theorem exc_code {k : Cd} {c : Nat} (h : okC k) (e : O.ex c = code k) : 2000 ≤ c ∧ c ≤ 2005 := by
  cases k with
  | none => cases e
  | some k => injection e with e; subst e; exact h
theorem exc_fo {k : Cd} {c : Nat} {d : D} (h : okC k) (e : O.ex c = fo k d) : 2000 ≤ c ∧ c ≤ 2005 := by
  cases k with
  | none => cases e
  | some k => injection e with e; subst e; exact h
theorem ok0 : okC none := trivial
theorem exc_one : Exc sp_one := fun _ _ ⟨b, x, _, _, e⟩ => exc_code (okC_alt (okC_nr b x) ok0) e
theorem exc_two {k : D → D → Cd} (h : ∀ x y, okC (k x y)) : Exc (sp_two k) := fun _ _ ⟨b, x, y, _, _, _, e⟩ => exc_code (okC_alt (okC_nr b x) (okC_alt (okC_nr b y) (h x y))) e
theorem exc_product : Exc sp_product := fun _ _ ⟨b, x, y, l, _, _, _, e⟩ => exc_code (okC_alt (okC_nr b x) (okC_alt (okC_nr b y) (okC_alt (okC_nc l 3) ok0))) e
theorem exc_fig : Exc sp_figure_of := by
  rintro c _ ⟨_, _, _, _, ⟨_, e⟩ | ⟨_, _, _, e⟩⟩
  · injection e with e; subst e; decide
  · cases e
noncomputable def Lift (S : Nat → Calls) (f : Nat) (b : Ss) (k m : Nat) : Prop := ∀ n sp, Exc sp → Yes (S n) b k m sp → Has (S (n + 1)) f sp
structure Lifts (S : Nat → Calls) : Prop where
  cs : ∀ n, Cs (S n)
  f0 : Lift S 0 b_whole 1 1
  f1 : Lift S 1 b_is_base 1 1
  f2 : Lift S 2 b_need_base 1 1
  f3 : Lift S 3 b_is_figure 2 2
  f4 : Lift S 4 b_is_row 2 3
  f5 : Lift S 5 b_need_row 2 2
  f6 : Lift S 6 b_need_figure 2 2
  f7 : Lift S 7 b_need_count 2 2
  f8 : Lift S 8 b_row_of 2 3
  f9 : Lift S 9 b_number_of 2 4
  f10 : Lift S 10 b_trimmed 1 2
  f11 : Lift S 11 b_order 2 3
  f12 : Lift S 12 b_plain_sum 3 6
  f13 : Lift S 13 b_plain_difference 3 7
  f14 : Lift S 14 b_plain_scaled 3 6
  f15 : Lift S 15 b_plain_shifted 2 2
  f16 : Lift S 16 b_added 3 3
  f17 : Lift S 17 b_taken 3 3
  f18 : Lift S 18 b_scaled 3 3
  f19 : Lift S 19 b_shifted 3 3
  f20 : Lift S 20 b_plain_slow 3 6
  f22 : Lift S 22 b_plain_product 4 14
  f23 : Lift S 23 b_plain_effort 4 10
  f24 : Lift S 24 b_slow 3 3
  f25 : Lift S 25 b_product 4 4
  f26 : Lift S 26 b_effort 4 4
  f27 : Lift S 27 b_plain_parted 3 6
  f28 : Lift S 28 b_how_often 3 6
  f29 : Lift S 29 b_plain_divided 3 7
  f30 : Lift S 30 b_parted 3 3
  f31 : Lift S 31 b_divided 3 3
  f32 : Lift S 32 b_ladder 3 7
  f33 : Lift S 33 b_turned 3 6
  f34 : Lift S 34 b_written 2 2
  f35 : Lift S 35 b_figure_of 2 4
  f36 : Lift S 36 b_read 2 3
  f52 : Lift S 52 b_law_call 5 5
  f53 : Lift S 53 b_law_told 5 7
  f50 : Lift S 50 b_law_draw 2 2
  f51 : Lift S 51 b_law_due 5 5
  f54 : Lift S 54 b_law_copy 1 1
  f55 : Lift S 55 b_law_bad_row 2 3
  f56 : Lift S 56 b_law_third 3 3
  f57 : Lift S 57 b_law_cannot 3 3
  f58 : Lift S 58 b_law_answers 6 7
  f99 : Lift S 99 b_law_14 1 18
theorem law_has {S : Nat → Calls} (B : Lifts S) : Has (S 9) 99 sp_law := by
  have h0 : ∀ n, Has (S (n + 1)) 0 sp_whole := fun n => B.f0 (n + 0) _ (fun _ _ ⟨_, _, e⟩ => nomatch e) (y_whole)
  have h10 : ∀ n, Has (S (n + 1)) 10 sp_trimmed := fun n => B.f10 (n + 0) _ (fun _ _ ⟨_, _, _, e⟩ => nomatch e) (y_trimmed)
  have h11 : ∀ n, Has (S (n + 1)) 11 sp_order := fun n => B.f11 (n + 0) _ (fun _ _ ⟨_, _, _, _, _, _, _, _, e⟩ => nomatch e) (y_order)
  have h12 : ∀ n, Has (S (n + 1)) 12 sp_plain_sum := fun n => B.f12 (n + 0) _ (fun _ _ ⟨_, _, _, _, _, _, _, e⟩ => nomatch e) (y_plain_sum)
  have h14 : ∀ n, Has (S (n + 1)) 14 sp_plain_scaled := fun n => B.f14 (n + 0) _ (fun _ _ ⟨_, _, _, _, _, _, _, _, e⟩ => nomatch e) (y_plain_scaled)
  have h15 : ∀ n, Has (S (n + 1)) 15 sp_plain_shifted := fun n => B.f15 (n + 0) _ (fun _ _ ⟨_, _, _, _, _, _, e⟩ => nomatch e) (y_plain_shifted)
  have h23 : ∀ n, Has (S (n + 1)) 23 sp_plain_product := fun n => B.f23 (n + 0) _ (fun _ _ ⟨_, _, _, _, _, _, _, _, _, e⟩ => nomatch e) (y_plain_effort)
  have h35 : ∀ n, Has (S (n + 1)) 35 sp_figure_of := fun n => B.f35 (n + 0) _ (exc_fig) (y_figure_of (B.cs _))
  have h50 : ∀ n, Has (S (n + 1)) 50 sp_draw := fun n => B.f50 (n + 0) _ (fun _ _ ⟨_, _, _, _, _, e⟩ => nomatch e) (y_draw)
  have h51 : ∀ n, Has (S (n + 1)) 51 sp_due := fun n => B.f51 (n + 0) _ (fun _ _ ⟨_, _, _, _, _, _, _, e⟩ => nomatch e) (y_due)
  have h54 : ∀ n, Has (S (n + 1)) 54 sp_copy := fun n => B.f54 (n + 0) _ (fun _ _ ⟨_, _, e⟩ => nomatch e) (y_copy)
  have h55 : ∀ n, Has (S (n + 1)) 55 sp_bad_row := fun n => B.f55 (n + 0) _ (fun _ _ ⟨_, _, _, e⟩ => nomatch e) (y_bad_row)
  have h56 : ∀ n, Has (S (n + 1)) 56 sp_third := fun n => B.f56 (n + 0) _ (fun _ _ ⟨_, _, _, _, _, _, e⟩ => nomatch e) (y_third)
  have h57 : ∀ n, Has (S (n + 1)) 57 sp_cannot := fun n => B.f57 (n + 0) _ (fun _ _ ⟨_, _, _, _, _, _, e⟩ => nomatch e) (y_cannot)
  have h1 : ∀ n, Has (S (n + 2)) 1 sp_is_base := fun n => B.f1 (n + 1) _ (fun _ _ ⟨_, _, e⟩ => nomatch e) (y_is_base (h0 n) (B.cs _))
  have h7 : ∀ n, Has (S (n + 2)) 7 sp_need_count := fun n => B.f7 (n + 1) _ (fun _ _ ⟨c, l, _, e⟩ => exc_code (okC_nc c l) e) (y_need_count (h0 n))
  have h13 : ∀ n, Has (S (n + 2)) 13 sp_plain_difference := fun n => B.f13 (n + 1) _ (fun _ _ ⟨_, _, _, _, _, _, e⟩ => nomatch e) (y_plain_difference (h10 n))
  have h20 : ∀ n, Has (S (n + 2)) 20 sp_plain_slow := fun n => B.f20 (n + 1) _ (fun _ _ ⟨_, _, _, _, _, _, _, e⟩ => nomatch e) (y_plain_slow (h12 n) (h14 n) (h15 n))
  have h27 : ∀ n, Has (S (n + 2)) 27 sp_plain_parted := fun n => B.f27 (n + 1) _ (fun _ _ ⟨_, _, _, _, _, _, _, _, e⟩ => nomatch e) (y_plain_parted (h10 n))
  have h28 : ∀ n, Has (S (n + 2)) 28 sp_how_often := fun n => B.f28 (n + 1) _ (fun _ _ ⟨_, _, _, _, _, _, _, _, _, e⟩ => nomatch e) (y_how_often (h11 n) (h14 n))
  have h2 : ∀ n, Has (S (n + 3)) 2 sp_need_base := fun n => B.f2 (n + 2) _ (fun _ _ ⟨x, _, e⟩ => exc_code (okC_nb x) e) (y_need_base (h1 n))
  have h22 : ∀ n, Has (S (n + 3)) 22 sp_plain_product := fun n => B.f22 (n + 2) _ (fun _ _ ⟨_, _, _, _, _, _, _, _, _, e⟩ => nomatch e) (y_plain_product (h20 n))
  have h29 : ∀ n, Has (S (n + 3)) 29 sp_plain_divided := fun n => B.f29 (n + 2) _ (fun _ _ ⟨_, _, _, _, _, _, _, _, _, e⟩ => nomatch e) (y_plain_divided (h12 (n + 1)) (h13 n) (h14 (n + 1)) (h15 (n + 1)) (h28 n) (h10 (n + 1)))
  have h3 : ∀ n, Has (S (n + 4)) 3 sp_is_figure := fun n => B.f3 (n + 3) _ (fun _ _ ⟨b, x, _, e⟩ => exc_fo (okC_nb b) e) (y_is_figure (h0 (n + 2)) (h2 n))
  have h4 : ∀ n, Has (S (n + 4)) 4 sp_is_row := fun n => B.f4 (n + 3) _ (fun _ _ ⟨b, x, _, e⟩ => exc_fo (okC_nb b) e) (y_is_row (h0 (n + 2)) (h2 n))
  have h8 : ∀ n, Has (S (n + 4)) 8 sp_row_of := fun n => B.f8 (n + 3) _ (fun _ _ ⟨b, x, _, _, e⟩ => exc_code (okC_alt (okC_nb b) (okC_ro x)) e) (y_row_of (h0 (n + 2)) (h2 n))
  have h36 : ∀ n, Has (S (n + 4)) 36 sp_read := fun n => B.f36 (n + 3) _ (fun _ _ ⟨b, x, c, _, h, e⟩ => exc_code (okC_alt (okC_nb b) (okC_rd h)) e) (y_read (h2 n) (h35 (n + 2)))
  have h5 : ∀ n, Has (S (n + 5)) 5 sp_need_row := fun n => B.f5 (n + 4) _ (fun _ _ ⟨b, x, _, e⟩ => exc_code (okC_nr b x) e) (y_need_row (h4 n))
  have h6 : ∀ n, Has (S (n + 5)) 6 sp_need_figure := fun n => B.f6 (n + 4) _ (fun _ _ ⟨b, x, _, e⟩ => exc_code (okC_nf b x) e) (y_need_figure (h3 n))
  have h58 : ∀ n, Has (S (n + 5)) 58 sp_answers := fun n => B.f58 (n + 4) _ (fun _ _ ⟨_, _, _, _, _, _, _, _, _, _, e⟩ => nomatch e) (y_answers (h4 n) (h3 n))
  have h9 : ∀ n, Has (S (n + 6)) 9 sp_one := fun n => B.f9 (n + 5) _ (exc_one) (y_number_of (h5 n))
  have h16 : ∀ n, Has (S (n + 6)) 16 (sp_two fine) := fun n => B.f16 (n + 5) _ (exc_two fun _ _ => trivial) (y_added (h5 n) (h12 (n + 4)))
  have h17 : ∀ n, Has (S (n + 6)) 17 (sp_two below) := fun n => B.f17 (n + 5) _ (exc_two okC_below) (y_taken (h5 n) (h11 (n + 4)) (h13 (n + 3)))
  have h18 : ∀ n, Has (S (n + 6)) 18 sp_scaled := fun n => B.f18 (n + 5) _ (fun _ _ ⟨b, x, f, _, _, e⟩ => exc_code (okC_alt (okC_nr b x) (okC_alt (okC_nf b f) ok0)) e) (y_scaled (h5 n) (h6 n) (h14 (n + 4)))
  have h19 : ∀ n, Has (S (n + 6)) 19 sp_shifted := fun n => B.f19 (n + 5) _ (fun _ _ ⟨b, x, f, _, _, _, e⟩ => exc_code (okC_alt (okC_nr b x) (okC_alt (okC_nc f 0) ok0)) e) (y_shifted (h5 n) (h7 (n + 3)) (h15 (n + 4)))
  have h24 : ∀ n, Has (S (n + 6)) 24 (sp_two fine) := fun n => B.f24 (n + 5) _ (exc_two fun _ _ => trivial) (y_slow (h5 n) (h20 (n + 3)))
  have h25 : ∀ n, Has (S (n + 6)) 25 sp_product := fun n => B.f25 (n + 5) _ (exc_product) (y_product (h5 n) (h7 (n + 3)) (B.cs _) (h22 (n + 2)))
  have h26 : ∀ n, Has (S (n + 6)) 26 sp_product := fun n => B.f26 (n + 5) _ (exc_product) (y_effort (h5 n) (h7 (n + 3)) (B.cs _) (h23 (n + 4)))
  have h30 : ∀ n, Has (S (n + 6)) 30 sp_parted := fun n => B.f30 (n + 5) _ (fun _ _ ⟨b, x, f, _, _, e⟩ => exc_code (okC_alt (okC_nr b x) (okC_alt (okC_nf b f) (okC_byF f))) e) (y_parted (h5 n) (h6 n) (h27 (n + 3)))
  have h31 : ∀ n, Has (S (n + 6)) 31 (sp_two byR) := fun n => B.f31 (n + 5) _ (exc_two okC_byR) (y_divided (h5 n) (h29 (n + 2)))
  have h32 : ∀ n, Has (S (n + 6)) 32 (sp_two fine) := fun n => B.f32 (n + 5) _ (exc_two fun _ _ => trivial) (y_ladder (h5 n) (h29 (n + 2)))
  have h33 : ∀ n, Has (S (n + 6)) 33 sp_turned := fun n => B.f33 (n + 5) _ (fun _ _ ⟨b, x, c, _, _, e⟩ => exc_code (okC_alt (okC_nr b x) (okC_alt (okC_nb c) ok0)) e) (y_turned (h5 n) (h2 (n + 2)))
  have h34 : ∀ n, Has (S (n + 6)) 34 sp_one := fun n => B.f34 (n + 5) _ (exc_one) (y_written (h5 n))
  have h52 : ∀ n, Has (S (n + 7)) 52 sp_call := fun n => B.f52 (n + 6) _ (fun _ _ ⟨_, _, _, _, _, _, _, hw, _, _, hd, e⟩ => exc_code (okC_co hw hd) e) (y_call ⟨(h9 n), (h16 n), (h17 n), (h18 n), (h19 n), (h24 n), (h25 n), (h26 n), (h30 n), (h31 n), (h32 n), (h33 n), (h34 n), (h4 (n + 2)), (h3 (n + 2)), (h8 (n + 2)), (h36 (n + 2))⟩)
  have h53 : ∀ n, Has (S (n + 8)) 53 sp_told := fun n => B.f53 (n + 7) _ (fun _ _ ⟨_, _, _, _, _, _, _, _, _, _, _, e⟩ => nomatch e) (y_told (h52 n))
  exact B.f99 8 _ (fun _ _ ⟨_, _, _, e⟩ => nomatch e) (y_law ⟨(h50 (0 + 7)), (h51 (0 + 7)), (h53 0), (h54 (0 + 7)), (h55 (0 + 7)), (h56 (0 + 7)), (h57 (0 + 7)), (h58 (0 + 3)), (h1 (0 + 6)), (B.cs _)⟩)
end Mine
set_option Elab.async false
set_option maxRecDepth 100000
set_option linter.unusedVariables false
namespace Mine
open PySem PySem.Calls PyProof.Rows PySem.W

theorem filterMap_zip (tab : List (Str × Value)) : ∀ (ns : List Str) (vs : List Value), ns.length = vs.length → (∀ p ∈ ns.zip vs, tab.lookup p.1 = some p.2) → ns.filterMap (fun n => (tab.lookup n).map (n, ·)) = ns.zip vs
  | [], [], _, _ => rfl
  | [], _ :: _, h, _ => nomatch h
  | _ :: _, [], h, _ => nomatch h
  | n :: ns, v :: vs, h, hp => by
    rw [List.filterMap_cons, hp (n, v) (.head _), List.zip_cons_cons, Option.map_some]
    exact congrArg _ (filterMap_zip tab ns vs (Nat.succ.inj h) fun p hq => hp p (.tail _ hq))
theorem filter_zip (tab : List (Str × Value)) : ∀ (ns : List Str) (vs : List Value), ns.length = vs.length → (∀ p ∈ ns.zip vs, tab.lookup p.1 = some p.2) → ns.filter (fun n => (tab.lookup n).isNone) = []
  | [], [], _, _ => rfl
  | [], _ :: _, h, _ => nomatch h
  | _ :: _, [], h, _ => nomatch h
  | n :: ns, v :: vs, h, hp => by
    rw [List.filter_cons, hp (n, v) (.head _)]
    exact filter_zip tab ns vs (Nat.succ.inj h) fun p hq => hp p (.tail _ hq)
theorem lookup_mem : ∀ (l : List (Str × Value)) (x : Str) (v : Value), (l.map (·.1)).Nodup → (x, v) ∈ l → l.lookup x = some v
  | [], _, _, _, h => nomatch h
  | p :: r, x, v, nd, hm => by
    obtain ⟨n1, n2⟩ := List.nodup_cons.mp nd
    rw [List.lookup_cons]
    rcases List.mem_cons.mp hm with rfl | hm
    · rw [beq_self_eq_true]
    · have hne : (x == p.1) = false := by
        rw [beq_eq_false_iff_ne]; rintro rfl
        exact n1 (List.mem_map.mpr ⟨_, hm, rfl⟩)
      rw [hne]
      exact lookup_mem r x v n2 hm
theorem bind_plain {name : Str} {args : List Arg} {stmts : List Stmt} {sc : Scope} {pm cd doc : Value} (nd : (args.map (·.arg)).Nodup) {vs : List Value} (h : vs.length = args.length) :
    bindArgs (docDef name { posonlyargs := [], args := args, vararg := none, kwonlyargs := [], kw_defaults := [], kwarg := none, defaults := [] } stmts sc pm cd doc) ⟨vs, []⟩ = pure ((args.map (·.arg)).zip vs) := by
  have hl : (args.map (·.arg)).length = vs.length := by simp [h]
  have hz : ∀ p ∈ (args.map (·.arg)).zip vs, ((args.map (·.arg)).zip vs).lookup p.1 = some p.2 := fun p hp =>
    lookup_mem _ _ _ (by rw [List.map_fst_zip (by omega)]; exact nd) hp
  have e1 := filterMap_zip _ _ _ hl hz
  have e2 := filter_zip _ _ _ hl hz
  have hs : seqItems? Value.none = pure none := rfl
  have hg : (vs.length > (args.map (·.arg)).length) = False := by simp [hl]
  unfold bindArgs
  simp only [docDef, List.map_nil, List.nil_append, List.append_nil, List.forIn_nil, pure_bind, hs, hg, decide_false, Bool.false_and, Bool.false_eq_true, if_false, Option.getD_none, List.length_nil, Nat.sub_zero, Array.toList_empty, List.drop_nil, List.take_length, e2, List.isEmpty_nil, Bool.not_true, List.zip_nil_right, e1]

noncomputable def fidOf (names : List (Nat × Str)) (x : Str) : Option Nat := (names.find? (·.2 == x)).map (·.1)
noncomputable def nil? {α : Type} (l : List α) : Bool := l.isEmpty
noncomputable def nodup? : List Str → Bool
  | [] => true
  | x :: xs => !xs.contains x && nodup? xs
noncomputable def kindIs (k : Option NameKind) (c : NameKind) : Bool := decide (k = some c)
structure FnGood (d : DefRec) : Prop where
  p1 : d.params.posonlyargs = []
  p2 : d.params.vararg = none
  p3 : d.params.kwonlyargs = []
  p4 : d.params.kw_defaults = []
  p5 : d.params.kwarg = none
  p6 : d.params.defaults = []
  g : d.scope.isGenerator = false ∧ d.scope.isCoroutine = false ∧ d.scope.kind = .function
  c : nodup? ((cellsFrom 0 d.scope.names []).map (·.1)) = true
  c2 : (d.scope.names.all fun x => !(decide (x.2 = .cell)) || ((cellsFrom 0 d.scope.names []).map (·.1)).contains x.1) = true
  s : nodup? (slots d.scope) = true
  l : d.params.args.length ≤ (slots d.scope).length
  t : (slots d.scope).take d.params.args.length = d.params.args.map (·.arg)
  k : (((slots d.scope).take d.params.args.length).all fun x => kindIs (d.scope.names.lookup x) .local || kindIs (d.scope.names.lookup x) .cell) = true
theorem nodup?_of : ∀ {l : List Str}, nodup? l = true → l.Nodup
  | [], _ => List.nodup_nil
  | x :: xs, h => by
    obtain ⟨h1, h2⟩ := Bool.and_eq_true_iff.mp h
    refine List.nodup_cons.mpr ⟨fun q => ?_, nodup?_of h2⟩
    rw [List.contains_iff_mem.mpr q] at h1
    cases h1
theorem lookup_memP : ∀ {l : List (Str × NameKind)} {x : Str} {k : NameKind}, l.lookup x = some k → (x, k) ∈ l
  | [], _, _, h => nomatch h
  | p :: r, x, k, h => by
    rw [List.lookup_cons] at h
    cases q : x == p.1 with
    | true => rw [q] at h; injection h with h; rw [eq_of_beq q, ← h]; exact .head _
    | false => rw [q] at h; exact .tail _ (lookup_memP h)
theorem params_eq {P : Arguments} (a1 : P.posonlyargs = []) (a2 : P.vararg = none) (a3 : P.kwonlyargs = []) (a4 : P.kw_defaults = []) (a5 : P.kwarg = none) (a6 : P.defaults = []) :
    P = { posonlyargs := [], args := P.args, vararg := none, kwonlyargs := [], kw_defaults := [], kwarg := none, defaults := [] } := by
  cases P; simp only at *; subst a1 a2 a3 a4 a5 a6; rfl
structure Rec (names : List (Nat × Str)) (view : Program) (f k m : Nat) (body : Ss) : Prop where
  is : ∃ d, (recsOf view).find? (fun d => d.name == fnameOf names f) = some d ∧ FnGood d ∧ d.params.args.length = k ∧ (slots d.scope).length = m ∧ (cSs (fnameOf names) (fidOf names) d.scope d.body).1 = body
theorem lift_of_top {names : List (Nat × Str)} {view : Program} {loose : List Str} {mean : ExcName → Option Value} {g : Gx} (T : Top view loose mean g.mg g.mb g.base) (G : Gd g)
    (hnm : ∀ f, f < 1000 → fnameOf names f ≠ Str.empty → ∃ fa o fd, g.mg (fnameOf names f) = some (.ref fa) ∧ g.base.get? fa = some o ∧ o.data = .func fd) (hex : ∀ c, 2000 ≤ c → c ≤ 2005 → ∃ C, IsExc g (fnameOf names c) C)
    {f k m : Nat} {body : Ss} (hf : f < 500) (h : Rec names view f k m body) : Lift (Spec (fnameOf names) g) f body k m := by
  intro n sp exc hy
  obtain ⟨d, hd, F, rfl, rfl, rfl⟩ := h.is
  have hn : d.name = fnameOf names f := beq_iff_eq.mp (List.find?_some (p := fun d : DefRec => d.name == fnameOf names f) hd)
  obtain ⟨a, o, pm, cd, doc, h1, h2, h3, h4⟩ := T.fn d (List.mem_of_find?_eq_some hd)
  refine fn_has G (fa := a) (name := d.name) (params := d.params) (stmts := d.body) (sc := d.scope) (pm := pm) (cd := cd) (doc := doc) (o := o) ⟨hn ▸ h1, h2, h3, h4, F.g, ⟨nodup?_of F.c, fun x hx => ?_⟩, ⟨nodup?_of F.s, rfl, F.l, F.t⟩, fun x hx => ?_, fun vs hv => ?_⟩ (cSs (fnameOf names) (fidOf names) d.scope d.body).2 hf hnm hex exc hy
  · have := List.all_eq_true.mp F.c2 _ (lookup_memP hx)
    exact List.contains_iff_mem.mp this
  · rcases Bool.or_eq_true_iff.mp (List.all_eq_true.mp F.k x hx) with q | q
    · exact .inl (of_decide_eq_true q)
    · exact .inr (of_decide_eq_true q)
  · have hnd : (d.params.args.map (·.arg)).Nodup := by rw [← F.t]; exact (nodup?_of F.s).sublist (List.take_sublist _ _)
    have := bind_plain (name := d.name) (stmts := d.body) (sc := d.scope) (pm := pm) (cd := cd) (doc := doc) hnd hv
    rw [← params_eq F.p1 F.p2 F.p3 F.p4 F.p5 F.p6] at this
    exact this
noncomputable def fnGood (d : DefRec) : Bool := nil? d.params.posonlyargs && (d.params.vararg.isNone && (nil? d.params.kwonlyargs && (nil? d.params.kw_defaults && (d.params.kwarg.isNone && (nil? d.params.defaults &&
  (decide (d.scope.isGenerator = false ∧ d.scope.isCoroutine = false ∧ d.scope.kind = .function) && (nodup? ((cellsFrom 0 d.scope.names []).map (·.1)) && ((d.scope.names.all fun x => !(decide (x.2 = .cell)) || ((cellsFrom 0 d.scope.names []).map (·.1)).contains x.1) &&
  (nodup? (slots d.scope) && (decide (d.params.args.length ≤ (slots d.scope).length) && (decide ((slots d.scope).take d.params.args.length = d.params.args.map (·.arg)) &&
  (((slots d.scope).take d.params.args.length).all fun x => kindIs (d.scope.names.lookup x) .local || kindIs (d.scope.names.lookup x) .cell))))))))))))
theorem nil?_eq {α : Type} {l : List α} (h : nil? l = true) : l = [] := List.isEmpty_iff.mp h
theorem fnGood_of {d : DefRec} (h : fnGood d = true) : FnGood d := by
  obtain ⟨a1, h⟩ := Bool.and_eq_true_iff.mp h
  obtain ⟨a2, h⟩ := Bool.and_eq_true_iff.mp h
  obtain ⟨a3, h⟩ := Bool.and_eq_true_iff.mp h
  obtain ⟨a4, h⟩ := Bool.and_eq_true_iff.mp h
  obtain ⟨a5, h⟩ := Bool.and_eq_true_iff.mp h
  obtain ⟨a6, h⟩ := Bool.and_eq_true_iff.mp h
  obtain ⟨a7, h⟩ := Bool.and_eq_true_iff.mp h
  obtain ⟨a8, h⟩ := Bool.and_eq_true_iff.mp h
  obtain ⟨a9, h⟩ := Bool.and_eq_true_iff.mp h
  obtain ⟨b1, h⟩ := Bool.and_eq_true_iff.mp h
  obtain ⟨b2, h⟩ := Bool.and_eq_true_iff.mp h
  obtain ⟨b3, h⟩ := Bool.and_eq_true_iff.mp h
  exact ⟨nil?_eq a1, Option.isNone_iff_eq_none.mp a2, nil?_eq a3, nil?_eq a4, Option.isNone_iff_eq_none.mp a5, nil?_eq a6, of_decide_eq_true a7, a8, a9, b1, of_decide_eq_true b2, of_decide_eq_true b3, h⟩
noncomputable def compFn (names : List (Nat × Str)) (view : Program) (f : Nat) : Option (Nat × Nat × Ss) :=
  ((recsOf view).find? (fun d => d.name == fnameOf names f)).bind fun d => bif fnGood d then some (d.params.args.length, (slots d.scope).length, (cSs (fnameOf names) (fidOf names) d.scope d.body).1) else none
theorem rec_of {names : List (Nat × Str)} {view : Program} {f k m : Nat} {body : Ss} (h : compFn names view f = some (k, m, body)) : Rec names view f k m body := by
  obtain ⟨d, hd, e⟩ := Option.bind_eq_some_iff.mp h
  cases hg : fnGood d with
  | false => rw [hg] at e; cases e
  | true =>
    rw [hg] at e
    injection e with e
    injection e with e1 e
    injection e with e2 e3
    exact ⟨d, hd, fnGood_of hg, e1, e2, e3⟩
theorem lookup_of_mem {α β : Type} [BEq α] [LawfulBEq α] : ∀ {l : List (α × β)} {f : α} {x : β}, l.lookup f = some x → (f, x) ∈ l
  | [], _, _, h => nomatch h
  | p :: r, f, x, h => by
    rw [List.lookup_cons] at h
    cases q : f == p.1 with
    | true => rw [q] at h; injection h with h; rw [eq_of_beq q, ← h]; exact .head _
    | false => rw [q] at h; exact .tail _ (lookup_of_mem h)
theorem gd_of_top {p view : Program} {w : World} {mean : ExcName → Option Value} {mg mb : Str → Option Value} {h : Heap} {loose : List Str} (T : Top view loose mean mg mb h) (ht : p.given.tree = none) (hi : importsNone view = true)
    (hb : (bltTab.all fun x => !startupNames.contains x.1 && (!loose.contains x.1 && (!((recsOf view).map (·.name)).contains x.1 && (!((litsOf view).map (·.1)).contains x.1 && !((clssOf view loose).map (·.name)).contains x.1)))) = true) : Gd ⟨p, w, h, mg, mb⟩ := by
  refine ⟨T.g, T.b, T.nolimit, T.seer hi, ht, fun x v hx => ?_⟩
  have hx := lookup_of_mem hx
  have no : ∀ {l : List Str}, (!l.contains x) = true → x ∉ l := fun q q' => by rw [List.contains_iff_mem.mpr q'] at q; cases q
  obtain ⟨h1, hq⟩ := Bool.and_eq_true_iff.mp (List.all_eq_true.mp hb (x, v) hx)
  obtain ⟨h2, hq⟩ := Bool.and_eq_true_iff.mp hq
  obtain ⟨h3, hq⟩ := Bool.and_eq_true_iff.mp hq
  obtain ⟨h4, h5⟩ := Bool.and_eq_true_iff.mp hq
  refine ⟨T.free x (no h1) (no h2) (no h3) (no h4) (no h5), ?_⟩
  have hb' : ∀ q ∈ bltTab, q.1 ≠ "__name__" ∧ bootBuiltins q.1 = some q.2 := by
    intro q hq
    simp only [bltTab, List.mem_cons, List.not_mem_nil, or_false] at hq
    rcases hq with rfl | rfl | rfl | rfl | rfl | rfl | rfl | rfl | rfl | rfl | rfl | rfl | rfl <;> exact ⟨by decide +kernel, by kernel_rfl⟩
  have := hb' (x, v) hx
  show mb x = some v
  rw [T.builtins x this.1, this.2]
theorem const_of_top {view : Program} {loose : List Str} {mean : ExcName → Option Value} {mg mb : Str → Option Value} {h : Heap} (T : Top view loose mean mg mb h) {x : Str} {i : Int} (hv : valOf view x = some (.int i)) : ∃ t, mg x = some (.int i t) := by
  obtain ⟨v, h1, h2⟩ := T.const x _ hv
  have := h2 h
  cases this
  exact ⟨_, h1⟩
theorem named_of_top {names : List (Nat × Str)} {view : Program} {loose : List Str} {mean : ExcName → Option Value} {mg mb : Str → Option Value} {h : Heap} (T : Top view loose mean mg mb h)
    (hc : (names.all fun p => decide (1000 ≤ p.1) || (recsOf view).any (fun d => d.name == p.2)) = true) : ∀ f, f < 1000 → fnameOf names f ≠ Str.empty → ∃ fa o fd, mg (fnameOf names f) = some (.ref fa) ∧ h.get? fa = some o ∧ o.data = .func fd := by
  intro f hf hne
  unfold fnameOf at hne ⊢
  cases hl : names.lookup f with
  | none => rw [hl] at hne; exact absurd rfl hne
  | some x =>
    rcases Bool.or_eq_true_iff.mp (List.all_eq_true.mp hc _ (lookup_of_mem hl)) with q | q
    · exact absurd (of_decide_eq_true q) (by omega)
    · obtain ⟨d, hd, e⟩ := List.any_eq_true.mp q
      obtain ⟨a, o, pm, cd, doc, h1, h2, h3, h4⟩ := T.fn d hd
      exact ⟨a, o, _, by rw [Option.getD_some, show x = d.name from (eq_of_beq e).symm]; exact h1, h2, h3⟩
noncomputable def ClsSt (h : Heap) (x : Str) (C : Addr) (mro : List Value) : Prop := ∃ o cd m, h.get? C = some o ∧ o.data = .cls cd ∧ cd.name = x ∧ cd.mro = mro ∧ h.Ns cd.ns m ∧ m "__class__" = none
theorem ClsSt.keeps {h h' : Heap} {x : Str} {C : Addr} {mro : List Value} (c : ClsSt h x C mro) (k : ∀ b o, h.get? b = some o → h'.get? b = some o) : ClsSt h' x C mro :=
  let ⟨o, cd, m, h1, h2, h3, h4, h5, h6⟩ := c; ⟨o, cd, m, k _ _ h1, h2, h3, h4, h5.keeps k, h6⟩
theorem ClsSt.at {h : Heap} {x : Str} {C : Addr} {mro : List Value} (c : ClsSt h x C mro) : ClsAt h x C mro :=
  let ⟨o, cd, _, h1, h2, h3, h4, h5, h6⟩ := c; ⟨o, cd, h1, h2, h3, h4, fun _ hm => (hm.agree h5 _).trans h6⟩
theorem cls_of {h : Heap} {x : Str} {C : Addr} {mro : List Value} (q : clsB h x C mro = true) : ClsSt h x C mro := by
  unfold clsB at q
  cases ho : h.get? C with
  | none => rw [ho] at q; cases q
  | some o =>
    rw [ho] at q
    replace q : clsO h x mro o = true := q
    unfold clsO at q
    cases hd : o.data with
    | cls cd =>
      rw [hd] at q
      obtain ⟨q1, q⟩ := Bool.and_eq_true_iff.mp (show clsD h x mro cd = true from q)
      obtain ⟨q2, q⟩ := Bool.and_eq_true_iff.mp q
      obtain ⟨q3, q4⟩ := Bool.and_eq_true_iff.mp q
      exact ⟨o, cd, _, ho, hd, eq_of_beq q1, of_decide_eq_true q2, .of_isNs q3, Option.isNone_iff_eq_none.mp q4⟩
    | _ => rw [hd] at q; cases q
noncomputable def ChainP (x : Str) (mg : Str → Option Value) (h : Heap) : Prop := ∃ C R, mg x = some (.ref C) ∧ mg ("RowError" : Str) = some (.ref R) ∧ ClsSt h x C (.ref C :: .ref R :: bmV) ∧ ClsSt h ("RowError" : Str) R (.ref R :: bmV)
theorem ChainP.keeps {x : Str} {mg : Str → Option Value} {h h' : Heap} (c : ChainP x mg h) (k : ∀ b o, h.get? b = some o → h'.get? b = some o) : ChainP x mg h' :=
  let ⟨C, R, h1, h2, h3, h4⟩ := c; ⟨C, R, h1, h2, h3.keeps k, h4.keeps k⟩
theorem refOf_eq {o : Option Value} {a : Addr} (h : refOf o = some a) : o = some (.ref a) := by
  cases o with
  | none => cases h
  | some v =>
    cases v with
    | ref b => injection h with h; rw [h]
    | _ => cases h
theorem chain_of {x : Str} {s : Shared} (h : chainB x s = true) : ChainP x (s.heap.nsMap mainGlobals) s.heap := by
  unfold chainB at h
  cases e1 : refOf (s.heap.nsMap mainGlobals x) with
  | none => rw [e1] at h; cases h
  | some C =>
    cases e2 : refOf (s.heap.nsMap mainGlobals ("RowError" : Str)) with
    | none => rw [e1, e2] at h; cases h
    | some R =>
      rw [e1, e2] at h
      obtain ⟨h1, h2⟩ := Bool.and_eq_true_iff.mp h
      exact ⟨C, R, refOf_eq e1, refOf_eq e2, cls_of h1, cls_of h2⟩
theorem exc_of_top {p view : Program} {w : World} {loose : List Str} {mean : ExcName → Option Value} {mg mb : Str → Option Value} {h : Heap} (T : Top view loose mean mg mb h) {x : Str}
    (hs : specOf view x = some ("ValueError.__new__", bmV)) (hr : specOf view ("RowError" : Str) = some ("ValueError.__new__", bmV)) (c : ChainP x mg h) : ∃ C, IsExc ⟨p, w, h, mg, mb⟩ x C := by
  obtain ⟨C, O, _⟩ := T.ownAt hs
  obtain ⟨R, O', _⟩ := T.ownAt hr
  obtain ⟨C1, R1, h1, h2, h3, h4⟩ := c
  have e1 : C1 = C := by have := O.own.bound; rw [h1] at this; cases this; rfl
  have e2 : R1 = R := by have := O'.own.bound; rw [h2] at this; cases this; rfl
  subst e1 e2
  exact ⟨C1, O, R1, O', h3.at, h4.at⟩
theorem ints_rps {h : Heap} : ∀ {vs : List Value} {ns : List Int}, IntsAre vs ns → Rps h vs (iz ns) []
  | _, _, .nil => .nil
  | _, _, .cons n t r => .cons (as := []) (bs := []) (.int n t) (ints_rps r)
theorem intsAre_len : ∀ {vs : List Value} {ns : List Int}, IntsAre vs ns → vs.length = ns.length
  | _, _, .nil => rfl
  | _, _, .cons n t r => congrArg Nat.succ (intsAre_len r)
theorem script_rp {P : Params} {h : Heap} {a : Addr} {vs : List Value} {ns : List Int} (w1 : Well P h (.ref a) (ofPy (.list (ns.map .int)))) (hL : h.IsList a vs.toArray) (hI : IntsAre vs ns) (hlen : ns.length ≤ 63) : Rp h (.ref a) (L ns) [a] := by
  obtain ⟨o, ho, hc, n, hd⟩ := hL
  have hdict : o.dict = none := by
    generalize hW : ofPy (.list (ns.map .int)) = W at w1
    cases w1 with
    | list e _ => rw [ho] at e; cases e; rfl
    | _ => cases hW
  have hsz : vs.toArray.size ≤ sizeLine := by
    have := intsAre_len hI
    have h63 : (63 : Nat) ≤ sizeLine := by decide
    show vs.length ≤ _; omega
  refine Rp.list (vs := vs.toArray) ⟨n, o.slots, ?_, hsz⟩ (ints_rps hI)
  rw [ho]
  cases o
  cases hc; cases hd; cases hdict
  rfl
theorem law_run {names : List (Nat × Str)} {p : Program} {w : World} {s₁ : Shared} {mg mb : Str → Option Value} {n : Nat} {fa a : Addr} {ns : List Int} {Q E : Value → Shared → Prop}
    (S : Has (Spec (fnameOf names) ⟨p, w, s₁.heap, mg, mb⟩ n) 99 sp_law) (hm : mg (fnameOf names 99) = some (.ref fa)) (hn : n ≤ 60) (hl : ns.length ≤ 63) (hr : Rp s₁.heap (.ref a) (L ns) [a])
    (hQ : ∀ s' : Shared, (∀ b o, s₁.heap.get? b = some o → s'.heap.get? b = some o) → s'.os = s₁.os → s'.gens = s₁.gens → Q (.bool true) s') :
    wpAny (model p w) callerA (call (.ref fa) [.ref a]) Q E s₁ := by
  have S := S.ok (K := fun d _ => d = .bool true) ⟨ns, rfl, hl, rfl⟩ fun _ _ e => e
  unfold Spec at S
  rw [if_neg (by decide), if_neg (by decide)] at S
  obtain ⟨fa', S⟩ := S
  have e : fa' = fa := by
    have := hm.symm.trans S.named
    cases this; rfl
  subst e
  have hd : (callerA.depth : Nat) + 60 + 150 < recursionLimit := by decide
  have hu : callerA.units + 8 * 60 + 300 < cLine := by decide
  refine S.run callerA s₁ [.ref a] [a] [] Q E ⟨rfl, by omega, by omega, rfl⟩ (fun _ _ e => e) trivial (.cons (as := [a]) (bs := []) hr .nil) ?_
  rintro v s' d fr bs rfl hs hrp _
  obtain ⟨rfl, _⟩ := hrp
  obtain ⟨h', tk, rfl, _, st⟩ := hs
  exact hQ _ (fun b o e => st b o e) rfl rfl
end Mine
namespace Mine
open PySem PySem.Calls PyProof.Rows PySem.W
structure Checks (view : Program) (loose : List Str) : Prop where
  c0 : compFn nms view 0 = some (1, 1, b_whole)
  c1 : compFn nms view 1 = some (1, 1, b_is_base)
  c2 : compFn nms view 2 = some (1, 1, b_need_base)
  c3 : compFn nms view 3 = some (2, 2, b_is_figure)
  c4 : compFn nms view 4 = some (2, 3, b_is_row)
  c5 : compFn nms view 5 = some (2, 2, b_need_row)
  c6 : compFn nms view 6 = some (2, 2, b_need_figure)
  c7 : compFn nms view 7 = some (2, 2, b_need_count)
  c8 : compFn nms view 8 = some (2, 3, b_row_of)
  c9 : compFn nms view 9 = some (2, 4, b_number_of)
  c10 : compFn nms view 10 = some (1, 2, b_trimmed)
  c11 : compFn nms view 11 = some (2, 3, b_order)
  c12 : compFn nms view 12 = some (3, 6, b_plain_sum)
  c13 : compFn nms view 13 = some (3, 7, b_plain_difference)
  c14 : compFn nms view 14 = some (3, 6, b_plain_scaled)
  c15 : compFn nms view 15 = some (2, 2, b_plain_shifted)
  c16 : compFn nms view 16 = some (3, 3, b_added)
  c17 : compFn nms view 17 = some (3, 3, b_taken)
  c18 : compFn nms view 18 = some (3, 3, b_scaled)
  c19 : compFn nms view 19 = some (3, 3, b_shifted)
  c20 : compFn nms view 20 = some (3, 6, b_plain_slow)
  c22 : compFn nms view 22 = some (4, 14, b_plain_product)
  c23 : compFn nms view 23 = some (4, 10, b_plain_effort)
  c24 : compFn nms view 24 = some (3, 3, b_slow)
  c25 : compFn nms view 25 = some (4, 4, b_product)
  c26 : compFn nms view 26 = some (4, 4, b_effort)
  c27 : compFn nms view 27 = some (3, 6, b_plain_parted)
  c28 : compFn nms view 28 = some (3, 6, b_how_often)
  c29 : compFn nms view 29 = some (3, 7, b_plain_divided)
  c30 : compFn nms view 30 = some (3, 3, b_parted)
  c31 : compFn nms view 31 = some (3, 3, b_divided)
  c32 : compFn nms view 32 = some (3, 7, b_ladder)
  c33 : compFn nms view 33 = some (3, 6, b_turned)
  c34 : compFn nms view 34 = some (2, 2, b_written)
  c35 : compFn nms view 35 = some (2, 4, b_figure_of)
  c36 : compFn nms view 36 = some (2, 3, b_read)
  c52 : compFn nms view 52 = some (5, 5, b_law_call)
  c53 : compFn nms view 53 = some (5, 7, b_law_told)
  c50 : compFn nms view 50 = some (2, 2, b_law_draw)
  c51 : compFn nms view 51 = some (5, 5, b_law_due)
  c54 : compFn nms view 54 = some (1, 1, b_law_copy)
  c55 : compFn nms view 55 = some (2, 3, b_law_bad_row)
  c56 : compFn nms view 56 = some (3, 3, b_law_third)
  c57 : compFn nms view 57 = some (3, 3, b_law_cannot)
  c58 : compFn nms view 58 = some (6, 7, b_law_answers)
  c99 : compFn nms view 99 = some (1, 18, b_law_14)
  k1000 : valOf view (fnameOf nms 1000) = some (.int 2)
  k1001 : valOf view (fnameOf nms 1001) = some (.int 1000000)
  k1002 : valOf view (fnameOf nms 1002) = some (.int 3)
  k1003 : valOf view (fnameOf nms 1003) = some (.int 60)
  nm : (nms.all fun p => decide (1000 ≤ p.1) || (recsOf view).any (fun d => d.name == p.2)) = true
  imp : importsNone view = true
  blt : (bltTab.all fun x => !startupNames.contains x.1 && (!loose.contains x.1 && (!((recsOf view).map (·.name)).contains x.1 && (!((litsOf view).map (·.1)).contains x.1 && !((clssOf view loose).map (·.name)).contains x.1)))) = true
  sp : ∀ x ∈ (("RowError" : Str) :: kinds), specOf view x = some ("ValueError.__new__", bmV)
noncomputable def Chains (mg : Str → Option Value) (h : Heap) : Prop := ∀ x ∈ kinds, ChainP x mg h
theorem Chains.keeps {mg : Str → Option Value} {h h' : Heap} (c : Chains mg h) (k : ∀ b o, h.get? b = some o → h'.get? b = some o) : Chains mg h' := fun x hx => (c x hx).keeps k
theorem chains_of {s : Shared} (h : chainsB s = true) : Chains (s.heap.nsMap mainGlobals) s.heap := fun x hx => chain_of (List.all_eq_true.mp h x hx)
theorem lifts {p view : Program} {w : World} {loose : List Str} {mean : ExcName → Option Value} {mg mb : Str → Option Value} {h : Heap} (T : Top view loose mean mg mb h) (ht : p.given.tree = none) (C : Checks view loose) (X : Chains mg h) : Lifts (Spec (fnameOf nms) ⟨p, w, h, mg, mb⟩) := by
  have GD := gd_of_top (w := w) T ht C.imp C.blt
  have NM := named_of_top T C.nm
  have HX : ∀ c, 2000 ≤ c → c ≤ 2005 → ∃ A, IsExc ⟨p, w, h, mg, mb⟩ (fnameOf nms c) A := by
    have key : ∀ x ∈ kinds, ∃ A, IsExc ⟨p, w, h, mg, mb⟩ x A := fun x hx => exc_of_top T (C.sp x (.tail _ hx)) (C.sp _ (.head _)) (X x hx)
    intro c h1 h2
    obtain ⟨k, rfl⟩ : ∃ k, c = 2000 + k := ⟨c - 2000, by omega⟩
    exact key _ (List.mem_map.mpr ⟨k, List.mem_range.mpr (by omega), rfl⟩)
  have LT : ∀ {f k m : Nat} {b : Ss}, f < 500 → compFn nms view f = some (k, m, b) → Lift (Spec (fnameOf nms) ⟨p, w, h, mg, mb⟩) f b k m := fun hf e => lift_of_top (g := ⟨p, w, h, mg, mb⟩) T GD NM HX hf (rec_of e)
  have KT : ∀ {c : Nat} {i : Int}, 1000 ≤ c → valOf view (fnameOf nms c) = some (.int i) → ∀ n (K : D → Bool → Prop), K (.int i) true → Spec (fnameOf nms) ⟨p, w, h, mg, mb⟩ n c [] K := fun hc e n K hk => by
    obtain ⟨t, e⟩ := const_of_top T e
    unfold Spec
    rw [if_pos hc]
    exact ⟨_, t, e, rfl, hk⟩
  exact ⟨fun n => ⟨fun h => KT (by decide) C.k1000 n _ h, fun h => KT (by decide) C.k1001 n _ h, fun h => KT (by decide) C.k1002 n _ h, fun h => KT (by decide) C.k1003 n _ h⟩, LT (by decide) C.c0, LT (by decide) C.c1, LT (by decide) C.c2, LT (by decide) C.c3, LT (by decide) C.c4, LT (by decide) C.c5, LT (by decide) C.c6, LT (by decide) C.c7, LT (by decide) C.c8, LT (by decide) C.c9, LT (by decide) C.c10, LT (by decide) C.c11, LT (by decide) C.c12, LT (by decide) C.c13, LT (by decide) C.c14, LT (by decide) C.c15, LT (by decide) C.c16, LT (by decide) C.c17, LT (by decide) C.c18, LT (by decide) C.c19, LT (by decide) C.c20, LT (by decide) C.c22, LT (by decide) C.c23, LT (by decide) C.c24, LT (by decide) C.c25, LT (by decide) C.c26, LT (by decide) C.c27, LT (by decide) C.c28, LT (by decide) C.c29, LT (by decide) C.c30, LT (by decide) C.c31, LT (by decide) C.c32, LT (by decide) C.c33, LT (by decide) C.c34, LT (by decide) C.c35, LT (by decide) C.c36, LT (by decide) C.c52, LT (by decide) C.c53, LT (by decide) C.c50, LT (by decide) C.c51, LT (by decide) C.c54, LT (by decide) C.c55, LT (by decide) C.c56, LT (by decide) C.c57, LT (by decide) C.c58, LT (by decide) C.c99⟩
theorem fin {p view : Program} {w : World} {loose : List Str} {mean : ExcName → Option Value} {mg mb : Str → Option Value} {s₁ : Shared} {fa a : Addr} {vs : List Value} {ns : List Int} {Q E : Value → Shared → Prop} (T : Top view loose mean mg mb s₁.heap) (ht : p.given.tree = none) (C : Checks view loose) (X : Chains mg s₁.heap)
    (hm : mg (fnameOf nms 99) = some (.ref fa)) (w1 : Well w.params s₁.heap (.ref a) (ofPy (.list (ns.map .int)))) (hL : s₁.heap.IsList a vs.toArray) (hI : IntsAre vs ns) (hlen : ns.length ≤ 63)
    (hQ : ∀ s' : Shared, (∀ b o, s₁.heap.get? b = some o → s'.heap.get? b = some o) → s'.os = s₁.os → s'.gens = s₁.gens → Q (.bool true) s') :
    wpAny (model p w) callerA (call (.ref fa) [.ref a]) Q E s₁ :=
  law_run (n := 9) (law_has (lifts T ht C X)) hm (by decide) hlen (script_rp w1 hL hI hlen) hQ
end Mine
namespace Mine
open PySem PySem.Calls PyProof.Rows PySem.W
theorem cks : (compFn nms view 0, compFn nms view 1, compFn nms view 2, compFn nms view 3, compFn nms view 4, compFn nms view 5, compFn nms view 6, compFn nms view 7, compFn nms view 8, compFn nms view 9, compFn nms view 10, compFn nms view 11, compFn nms view 12, compFn nms view 13, compFn nms view 14, compFn nms view 15, compFn nms view 16, compFn nms view 17, compFn nms view 18, compFn nms view 19, compFn nms view 20, compFn nms view 22, compFn nms view 23, compFn nms view 24, compFn nms view 25, compFn nms view 26, compFn nms view 27, compFn nms view 28, compFn nms view 29, compFn nms view 30, compFn nms view 31, compFn nms view 32, compFn nms view 33, compFn nms view 34, compFn nms view 35, compFn nms view 36, compFn nms view 52, compFn nms view 53, compFn nms view 50, compFn nms view 51, compFn nms view 54, compFn nms view 55, compFn nms view 56, compFn nms view 57, compFn nms view 58, compFn nms view 99, valOf view (fnameOf nms 1000), valOf view (fnameOf nms 1001), valOf view (fnameOf nms 1002), valOf view (fnameOf nms 1003)) = (some (1, 1, b_whole), some (1, 1, b_is_base), some (1, 1, b_need_base), some (2, 2, b_is_figure), some (2, 3, b_is_row), some (2, 2, b_need_row), some (2, 2, b_need_figure), some (2, 2, b_need_count), some (2, 3, b_row_of), some (2, 4, b_number_of), some (1, 2, b_trimmed), some (2, 3, b_order), some (3, 6, b_plain_sum), some (3, 7, b_plain_difference), some (3, 6, b_plain_scaled), some (2, 2, b_plain_shifted), some (3, 3, b_added), some (3, 3, b_taken), some (3, 3, b_scaled), some (3, 3, b_shifted), some (3, 6, b_plain_slow), some (4, 14, b_plain_product), some (4, 10, b_plain_effort), some (3, 3, b_slow), some (4, 4, b_product), some (4, 4, b_effort), some (3, 6, b_plain_parted), some (3, 6, b_how_often), some (3, 7, b_plain_divided), some (3, 3, b_parted), some (3, 3, b_divided), some (3, 7, b_ladder), some (3, 6, b_turned), some (2, 2, b_written), some (2, 4, b_figure_of), some (2, 3, b_read), some (5, 5, b_law_call), some (5, 7, b_law_told), some (2, 2, b_law_draw), some (5, 5, b_law_due), some (1, 1, b_law_copy), some (2, 3, b_law_bad_row), some (3, 3, b_law_third), some (3, 3, b_law_cannot), some (6, 7, b_law_answers), some (1, 18, b_law_14), some (.int 2), some (.int 1000000), some (.int 3), some (.int 60)) := by kernel_rfl
theorem checks : Checks view [] := by
  have h := cks
  obtain ⟨c0, h⟩ := Prod.mk.inj h
  obtain ⟨c1, h⟩ := Prod.mk.inj h
  obtain ⟨c2, h⟩ := Prod.mk.inj h
  obtain ⟨c3, h⟩ := Prod.mk.inj h
  obtain ⟨c4, h⟩ := Prod.mk.inj h
  obtain ⟨c5, h⟩ := Prod.mk.inj h
  obtain ⟨c6, h⟩ := Prod.mk.inj h
  obtain ⟨c7, h⟩ := Prod.mk.inj h
  obtain ⟨c8, h⟩ := Prod.mk.inj h
  obtain ⟨c9, h⟩ := Prod.mk.inj h
  obtain ⟨c10, h⟩ := Prod.mk.inj h
  obtain ⟨c11, h⟩ := Prod.mk.inj h
  obtain ⟨c12, h⟩ := Prod.mk.inj h
  obtain ⟨c13, h⟩ := Prod.mk.inj h
  obtain ⟨c14, h⟩ := Prod.mk.inj h
  obtain ⟨c15, h⟩ := Prod.mk.inj h
  obtain ⟨c16, h⟩ := Prod.mk.inj h
  obtain ⟨c17, h⟩ := Prod.mk.inj h
  obtain ⟨c18, h⟩ := Prod.mk.inj h
  obtain ⟨c19, h⟩ := Prod.mk.inj h
  obtain ⟨c20, h⟩ := Prod.mk.inj h
  obtain ⟨c21, h⟩ := Prod.mk.inj h
  obtain ⟨c22, h⟩ := Prod.mk.inj h
  obtain ⟨c23, h⟩ := Prod.mk.inj h
  obtain ⟨c24, h⟩ := Prod.mk.inj h
  obtain ⟨c25, h⟩ := Prod.mk.inj h
  obtain ⟨c26, h⟩ := Prod.mk.inj h
  obtain ⟨c27, h⟩ := Prod.mk.inj h
  obtain ⟨c28, h⟩ := Prod.mk.inj h
  obtain ⟨c29, h⟩ := Prod.mk.inj h
  obtain ⟨c30, h⟩ := Prod.mk.inj h
  obtain ⟨c31, h⟩ := Prod.mk.inj h
  obtain ⟨c32, h⟩ := Prod.mk.inj h
  obtain ⟨c33, h⟩ := Prod.mk.inj h
  obtain ⟨c34, h⟩ := Prod.mk.inj h
  obtain ⟨c35, h⟩ := Prod.mk.inj h
  obtain ⟨c36, h⟩ := Prod.mk.inj h
  obtain ⟨c37, h⟩ := Prod.mk.inj h
  obtain ⟨c38, h⟩ := Prod.mk.inj h
  obtain ⟨c39, h⟩ := Prod.mk.inj h
  obtain ⟨c40, h⟩ := Prod.mk.inj h
  obtain ⟨c41, h⟩ := Prod.mk.inj h
  obtain ⟨c42, h⟩ := Prod.mk.inj h
  obtain ⟨c43, h⟩ := Prod.mk.inj h
  obtain ⟨c44, h⟩ := Prod.mk.inj h
  obtain ⟨c45, h⟩ := Prod.mk.inj h
  obtain ⟨c46, h⟩ := Prod.mk.inj h
  obtain ⟨c47, h⟩ := Prod.mk.inj h
  obtain ⟨c48, h⟩ := Prod.mk.inj h
  exact ⟨c0, c1, c2, c3, c4, c5, c6, c7, c8, c9, c10, c11, c12, c13, c14, c15, c16, c17, c18, c19, c20, c21, c22, c23, c24, c25, c26, c27, c28, c29, c30, c31, c32, c33, c34, c35, c36, c37, c38, c39, c40, c41, c42, c43, c44, c45, c46, c47, c48, h, by decide +kernel, by decide +kernel, by decide +kernel, by decide +kernel⟩
end Mine
open PySem PySem.W PyProof.Rows
set_option maxRecDepth 100000 in
set_option maxHeartbeats 8000000 in
theorem PySem.Challenge.cw_uf030001_14_holds : PySem.Challenge.rw_uf030001_14.Holds := by
  w_on; o_law
  refine holds_open (q := Mine.view) (loose := []) (Xt := Mine.Xt) (XP := fun mg h => XL Mine.view [] mg h ∧ Mine.Chains mg h) (Yf := Hook.obs Hook.none) (Ya := Hook.val Hook.none) (YP := Hook.says Hook.none) (N := 10000) ?hl (Hook.of Hook.none) (Hook.keeps Hook.none) (fun s e => ⟨xl_of s (Bool.and_eq_true_iff.mp (Bool.and_eq_true_iff.mp e).1).1, Mine.chains_of (Bool.and_eq_true_iff.mp e).2⟩) (fun mg h h' x k => ⟨XL.keeps mg h h' x.1 k, x.2.keeps k⟩) (by rfl) (by rfl) (by rfl) (fun s e => recFacts_of (Bool.and_eq_true_iff.mp (Bool.and_eq_true_iff.mp e).1).2) (by rfl) (by first | assumption | decide +kernel) (by decide +kernel) ⟨rfl, rfl, rfl, rfl, rfl, by decide +kernel⟩ ?hw ?hc
  case hl => intro w; exact Mine.looks w
  case hw => w_witness2
  intro w s₀ s₁ mg mb G Y fa o pm cd doc dV kV ho hd hcd hD hmg hg args vals as hpre hlay hrd hwl hlo
  have G0 := G
  refine Ground.open G ?_
  intro T B D TE TW
  wrow_args hpre hlay hrd hwl hlo
  have XX := G0.X
  refine Mine.fin T (by kernel_rfl) Mine.checks XX.2 hmg (by assumption) (by assumption) (by assumption) (by omega) ?_
  intro s' hk ho' hg'
  exact GoodW.toG ⟨.inl ⟨.bool true, .bool true, [], rfl, fun cls => by cases cls <;> rfl, .bool true, by kernel_rfl, fun _ => ⟨List.nodup_nil, fun _ h => (nomatch h)⟩⟩, hk, ho', hg'.trans hg⟩
